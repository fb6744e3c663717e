-- Merged by a program of this session (wip/tool/pack.py) out of its own texts for this claim.
import Derived.Test.YtomoflpgdbjojaaGreatKFnExactGateNext20
import Derived.Test.YtomoflpgdbjojaaGreatKFnExactGateNext21
set_option maxHeartbeats 8000000
set_option maxRecDepth 100000
set_option linter.unusedSimpArgs false
set_option linter.unusedVariables false
namespace Go.Proofs.YtomoflpgdbjojaaGreat.QN
open Go.RowKit Go.Proofs.YtomoflpgdbjojaaGreatW.PrintWords Go.Proofs.YtomoflpgdbjojaaGreatW.PrintLast Go.Proofs.YtomoflpgdbjojaaGreatW.PrintMore
attribute [local go_sem] max2_int min2_int max_two min_two max_three min_three max_four min_four   -- for this text's walks alone
theorem laws_heldSeenS.calls (k:Nat) (A0:Option Addr) (c0:Nat) (l0:List (S155)) (a1:Int) (r:Int) (w:World) (hr0:Kd.C k155 w A0 l0.length l0) (hc0:l0.length≤c0) (H:laws_heldSeenS.f k l0 a1=some r) :
  Calls Tryz.prog 98 #[.slice A0 l0.length c0,.int .i64 a1] w fun e w'=>e=.returned (.int .i64 r)∧Drawn0 w w':=by
 have HR0:=am hr0;have HC0:=am hc0;clear hr0 hc0;unfold laws_heldSeenS.f at H;have H':=am H;clear H
 go_in
 go_wp2
 go_loopg [1,5] k (fun kq v1 v5 w'=>∃ (x1_1:Int) (x5_1:Int),v1=.int .i64 x1_1∧v5=.int .i64 x5_1∧Aside0 (laws_heldSeenS.l0 kq l0 x1_1 x5_1=some r)∧Aside0 (kq≤k)∧Drawn0 w w')
 case atStart=>exact ⟨(a1),(0),fg,fg,H',⟨Nat.le_refl _⟩,by repeat (first|exact Drawn0.refl _|apply Drawn0.step)⟩
 case round =>
  clear H'
  obtain ⟨x1_1,x5_1,rfl,rfl,HA,HK1,⟨m1,rfl⟩⟩:=hrel
  cases gk with
  | zero=>exact absurd HA.out (by simp [laws_heldSeenS.l0])
  | succ k1 =>
   have H:=HA.out;clear HA;simp only [laws_heldSeenS.l0] at H
   revert H;refine id2 ?_ ?_
   ·intro c3b0 H
    revert H;refine id1 ?_
    intro c4b0 H
    revert H;refine ie2 ?_ ?_
    ·intro c5b0 c5b1 H
     revert H;refine ie2 ?_ ?_
     ·intro c6b0 c6b1 H
      revert H;refine ie2 ?_ ?_
      ·intro c7b0 c7b1 H;have H':=am H;clear H;have p8:0≤(x5_1:Int):=oa;have q8:x5_1<(l0.length:Int):=oa;obtain ⟨ad8,e8,hx8_0,hx8_1,hx8_2⟩:=at_T155 HR0.out x5_1 p8 q8
       cases e8
       replace p8:=eq_true p8;replace q8:=eq_true q8;have p9:0≤(x5_1:Int):=oa;have q9:x5_1<(l0.length:Int):=oa;obtain ⟨ad9,e9,hx9_0,hx9_1,hx9_2⟩:=at_T155 HR0.out x5_1 p9 q9;obtain rfl:ad8=ad9:=(by injection e9);replace p9:=eq_true p9;replace q9:=eq_true q9;have p10:0≤(x5_1:Int):=oa;have q10:x5_1<(l0.length:Int):=oa;obtain ⟨ad10,e10,hx10_0,hx10_1,hx10_2⟩:=at_T155 HR0.out x5_1 p10 q10;obtain rfl:ad8=ad10:=(by injection e10);replace p10:=eq_true p10;replace q10:=eq_true q10
       go_wp2
       go_roundg k1
       case measure=>have:=HK1.out;omega
       case rel=>exact ⟨(wrap64 ((wrap64 ((wrap64 (x1_1+1))+1))+1)),(wrap64 (x5_1+1)),fg,fg,H',⟨by have:=HK1.out;omega⟩,by repeat (first|exact Drawn0.refl _|apply Drawn0.step)⟩
      ·intro c7 c7b0 c7b1 H;obtain rfl:=si H;have p8:0≤(x5_1:Int):=oa;have q8:x5_1<(l0.length:Int):=oa;obtain ⟨ad8,e8,hx8_0,hx8_1,hx8_2⟩:=at_T155 HR0.out x5_1 p8 q8
       cases e8
       replace p8:=eq_true p8;replace q8:=eq_true q8;have p9:0≤(x5_1:Int):=oa;have q9:x5_1<(l0.length:Int):=oa;obtain ⟨ad9,e9,hx9_0,hx9_1,hx9_2⟩:=at_T155 HR0.out x5_1 p9 q9;obtain rfl:ad8=ad9:=(by injection e9);replace p9:=eq_true p9;replace q9:=eq_true q9;have p10:0≤(x5_1:Int):=oa;have q10:x5_1<(l0.length:Int):=oa;obtain ⟨ad10,e10,hx10_0,hx10_1,hx10_2⟩:=at_T155 HR0.out x5_1 p10 q10;obtain rfl:ad8=ad10:=(by injection e10);replace p10:=eq_true p10;replace q10:=eq_true q10
       go_wp2
       go_ret
       exact ⟨fg,dr⟩
     ·intro c6 c6b0 c6b1 H;obtain rfl:=si H;have p8:0≤(x5_1:Int):=oa;have q8:x5_1<(l0.length:Int):=oa;obtain ⟨ad8,e8,hx8_0,hx8_1,hx8_2⟩:=at_T155 HR0.out x5_1 p8 q8
      cases e8
      replace p8:=eq_true p8;replace q8:=eq_true q8;have p9:0≤(x5_1:Int):=oa;have q9:x5_1<(l0.length:Int):=oa;obtain ⟨ad9,e9,hx9_0,hx9_1,hx9_2⟩:=at_T155 HR0.out x5_1 p9 q9;obtain rfl:ad8=ad9:=(by injection e9);replace p9:=eq_true p9;replace q9:=eq_true q9
      go_wp2
      go_ret
      exact ⟨fg,dr⟩
    ·intro c5 c5b0 c5b1 H;obtain rfl:=si H;have p8:0≤(x5_1:Int):=oa;have q8:x5_1<(l0.length:Int):=oa;obtain ⟨ad8,e8,hx8_0,hx8_1,hx8_2⟩:=at_T155 HR0.out x5_1 p8 q8
     cases e8
     replace p8:=eq_true p8;replace q8:=eq_true q8
     go_wp2
     go_ret
     exact ⟨fg,dr⟩
   ·intro c3b0 H;obtain rfl:=si H
    go_wp2
    go_ret
    exact ⟨fg,dr⟩
def laws_heldT:Bool × List (List Nat × List Nat):=(true,[([],[]),([],[]),([0,1],[0,1]),([2],[2]),([3],[3]),([],[]),([5],[5]),([4,6],[4,6])])
def laws_heldB:List Nat:=[0,0,3,7,15,0,32,127]
theorem laws_heldPartnerS.calls (k:Nat) (A0:Option Addr) (c0:Nat) (l0:List (S83)) (a1:Int) (r:Int) (w:World) (hr0:Kd.C k83 w A0 l0.length l0) (hc0:l0.length≤c0) (h:laws_heldPartnerS.f k l0 a1=some r) :
  Calls Tryz.prog 43 #[.slice A0 l0.length c0,.int .i64 a1] w fun e w'=>e=.returned (.int .i64 r)∧Below w.heap.size w w':=by
 have HB:=am (Below.refl w.heap.size w);have HR0:=am hr0;have H':=am (show laws_heldPartnerS.l0 k l0 a1 0=some r from h);clear h hr0 hc0
 go_in
 go_wp2
 go_loopg [1,5] k (fun kq v1 v5 w'=>∃ (x1:Int) (x5:Int),v1=.int .i64 x1∧v5=.int .i64 x5∧Aside0 (laws_heldPartnerS.l0 kq l0 x1 x5=some r)∧Aside0 (kq≤k)∧Aside0 (Below w.heap.size w w'))
 case atStart=>exact ⟨a1,0,rfl,rfl,H',⟨Nat.le_refl _⟩,HB⟩
 case round =>
  clear H';obtain ⟨x1,x5,rfl,rfl,HA,HK1,HB⟩:=hrel
  cases gk with
  | zero=>exact absurd HA.out (by simp [laws_heldPartnerS.l0])
  | succ k1 =>
   have H:=HA.out;clear HA;simp only [laws_heldPartnerS.l0] at H
   revert H;refine id2 ?_ ?_
   ·intro c3b0 H
    revert H;refine id1 ?_
    intro c4b0 H;have p1:0≤(x5:Int):=oa;have q1:x5<(l0.length:Int):=oa;obtain ⟨ad,Ai,ci,ead,g0,g1,g2,g3,hi,gi⟩:=at_T83 HR0.out x5 p1 q1;cases ead;replace p1:=eq_true p1;replace q1:=eq_true q1;have G3:=am g3;have HI:=am hi;have GI:=am gi;clear g3 hi gi;have G0:=am g0;clear g0;have G1:=am g1;clear g1;have G2:=am g2;clear g2
    try go_upto_region 4 with (fail)
    replace H:=bo H;obtain ⟨t0,A0,H⟩:=H;revert H;refine ie1 ?_;intro c0b0 c0b1 H;replace HB:=am (below_drew1 HB.out);refine sta 8 (hc (cb HB G0.out)) (fun hHeld=>?_);refine with_tabW (show rtab .any (opsOf Tryz.f43 4)=laws_heldT from by kernel_rfl) (show waitsOk laws_heldT.2 laws_heldB=true from by kernel_rfl) (fun HT_ HW_=>?_)
    generalize wr.drew=w0a at HB hHeld ⊢
    have hx:=cb HB G0.out;refine pA 0 12 HT_ ?_;refine pA 1 13 HT_ ?_;refine pA 2 14 HT_ ?_;refine pA 3 15 HT_ ?_;refine pA 5 17 HT_ ?_;refine tA 4 16 HT_ HW_ hHeld ?_;refine oA 6 18 HT_ (fun K hK=>?_);refine gA Tryz.func94 #[.int .i64 x1] ?_;(with_reducible refine (laws_markText.calls k1 x1 t0 _ A0.out).mono ?_);rintro e w0b ⟨rfl,hb⟩;refine ⟨_,rfl,?_⟩;replace HB:=bq HB hb;clear hb hx;refine hK.out _ _ (hc (cb HB G0.out)).out (fun hHeld=>?_);clear hK K hHeld;refine nA 18 ?_;refine pA 7 19 HT_ ?_;refine done_ (done_of HT_.out (by kernel_rfl)) ?_;clear HT_ HW_
    try go_upto_region 7 with (fail)
    have hx:=cb HB G1.out
    revert H;refine ie1 ?_;intro c1b0 c1b1 H
    try go_upto_region 10 with (fail)
    have hx:=cb HB G2.out
    revert H;refine ie1 ?_;intro c2b0 c2b1 H
    replace H:=bo H;obtain ⟨tq,AQ,H⟩:=H;have hy:=cb HB G3.out
    try go_wp2_with (fail)
    go_at_call 98;refine (laws_heldSeenS.calls k1 _ _ (rd_T83 l0 x5).f3 (wrap64 ((wrap64 ((wrap64 (x1+1))+1))+1)) tq _ (Kd.C_below GI.out (bs HB)) HI.out AQ.out).mono ?_;rintro e w' ⟨rfl,⟨nd,rfl⟩⟩;clear hy
    revert H;refine id2 ?_ ?_;· intro _ H;cases H
    intro cq H;have H':=am H;clear H
    try go_wp2
    go_roundg k1
    case measure=>have:=HK1.out;omega
    case rel=>exact ⟨tq,wrap64 (x5+1),fg,fg,H',⟨by have:=HK1.out;omega⟩,⟨bs HB⟩⟩
   ·intro c3b0 H;obtain rfl:=si H
    go_wp2
    go_ret
    exact ⟨ff,bs HB⟩
theorem laws_heldCrossS.calls (k:Nat) (A0:Option Addr) (c0:Nat) (l0:List (S114)) (a1:Int) (r:Int) (w:World) (hr0:Kd.C k114 w A0 l0.length l0) (hc0:l0.length≤c0) (h:laws_heldCrossS.f k l0 a1=some r) :
  Calls Tryz.prog 44 #[.slice A0 l0.length c0,.int .i64 a1] w fun e w'=>e=.returned (.int .i64 r)∧Below w.heap.size w w':=by
 have HB:=am (Below.refl w.heap.size w);have HR0:=am hr0;have H':=am (show laws_heldCrossS.l0 k l0 a1 0=some r from h);clear h hr0 hc0
 go_in
 go_wp2
 go_loopg [1,5] k (fun kq v1 v5 w'=>∃ (x1:Int) (x5:Int),v1=.int .i64 x1∧v5=.int .i64 x5∧Aside0 (laws_heldCrossS.l0 kq l0 x1 x5=some r)∧Aside0 (kq≤k)∧Aside0 (Below w.heap.size w w'))
 case atStart=>exact ⟨a1,0,rfl,rfl,H',⟨Nat.le_refl _⟩,HB⟩
 case round =>
  clear H';obtain ⟨x1,x5,rfl,rfl,HA,HK1,HB⟩:=hrel
  cases gk with
  | zero=>exact absurd HA.out (by simp [laws_heldCrossS.l0])
  | succ k1 =>
   have H:=HA.out;clear HA;simp only [laws_heldCrossS.l0] at H
   revert H;refine id2 ?_ ?_
   ·intro c3b0 H
    revert H;refine id1 ?_
    intro c4b0 H;have p1:0≤(x5:Int):=oa;have q1:x5<(l0.length:Int):=oa;obtain ⟨ad,ead,g0,g1,g2⟩:=at_T114 HR0.out x5 p1 q1;cases ead;replace p1:=eq_true p1;replace q1:=eq_true q1;have G0:=am g0;clear g0;have G1:=am g1;clear g1;have G2:=am g2;clear g2
    try go_upto_region 4 with (fail)
    replace H:=bo H;obtain ⟨t0,A0,H⟩:=H;revert H;refine ie1 ?_;intro c0b0 c0b1 H;replace HB:=am (below_drew1 HB.out);refine sta 8 (hc (cb HB G0.out)) (fun hHeld=>?_);refine with_tabW (show rtab .any (opsOf Tryz.f44 4)=laws_heldT from by kernel_rfl) (show waitsOk laws_heldT.2 laws_heldB=true from by kernel_rfl) (fun HT_ HW_=>?_)
    generalize wr.drew=w0a at HB hHeld ⊢
    have hx:=cb HB G0.out;refine pA 0 12 HT_ ?_;refine pA 1 13 HT_ ?_;refine pA 2 14 HT_ ?_;refine pA 3 15 HT_ ?_;refine pA 5 17 HT_ ?_;refine tA 4 16 HT_ HW_ hHeld ?_;refine oA 6 18 HT_ (fun K hK=>?_);refine gA Tryz.func94 #[.int .i64 x1] ?_;(with_reducible refine (laws_markText.calls k1 x1 t0 _ A0.out).mono ?_);rintro e w0b ⟨rfl,hb⟩;refine ⟨_,rfl,?_⟩;replace HB:=bq HB hb;clear hb hx;refine hK.out _ _ (hc (cb HB G0.out)).out (fun hHeld=>?_);clear hK K hHeld;refine nA 18 ?_;refine pA 7 19 HT_ ?_;refine done_ (done_of HT_.out (by kernel_rfl)) ?_;clear HT_ HW_
    try go_upto_region 7 with (fail)
    replace H:=bo H;obtain ⟨t1,A1,H⟩:=H;revert H;refine ie1 ?_;intro c1b0 c1b1 H;replace HB:=am (below_drew1 HB.out);refine sta 8 (hc (cb HB G1.out)) (fun hHeld=>?_);refine with_tabW (show rtab .any (opsOf Tryz.f44 7)=laws_heldT from by kernel_rfl) (show waitsOk laws_heldT.2 laws_heldB=true from by kernel_rfl) (fun HT_ HW_=>?_)
    generalize w0b.drew=w1a at HB hHeld ⊢
    have hx:=cb HB G1.out;refine pA 0 22 HT_ ?_;refine pA 1 23 HT_ ?_;refine pA 2 24 HT_ ?_;refine pA 3 25 HT_ ?_;refine pA 5 27 HT_ ?_;refine tA 4 26 HT_ HW_ hHeld ?_;refine oA 6 28 HT_ (fun K hK=>?_);refine gA Tryz.func94 #[.int .i64 (wrap64 (x1+1))] ?_;(with_reducible refine (laws_markText.calls k1 (wrap64 (x1+1)) t1 _ A1.out).mono ?_);rintro e w1b ⟨rfl,hb⟩;refine ⟨_,rfl,?_⟩;replace HB:=bq HB hb;clear hb hx;refine hK.out _ _ (hc (cb HB G1.out)).out (fun hHeld=>?_);clear hK K hHeld;refine nA 28 ?_;refine pA 7 29 HT_ ?_;refine done_ (done_of HT_.out (by kernel_rfl)) ?_;clear HT_ HW_
    try go_upto_region 10 with (fail)
    replace H:=bo H;obtain ⟨t2,A2,H⟩:=H;revert H;refine ie1 ?_;intro c2b0 c2b1 H;replace HB:=am (below_drew1 HB.out);refine sta 8 (hc (cb HB G2.out)) (fun hHeld=>?_);refine with_tabW (show rtab .any (opsOf Tryz.f44 10)=laws_heldT from by kernel_rfl) (show waitsOk laws_heldT.2 laws_heldB=true from by kernel_rfl) (fun HT_ HW_=>?_)
    generalize w1b.drew=w2a at HB hHeld ⊢
    have hx:=cb HB G2.out;refine pA 0 32 HT_ ?_;refine pA 1 33 HT_ ?_;refine pA 2 34 HT_ ?_;refine pA 3 35 HT_ ?_;refine pA 5 37 HT_ ?_;refine tA 4 36 HT_ HW_ hHeld ?_;refine oA 6 38 HT_ (fun K hK=>?_);refine gA Tryz.func94 #[.int .i64 (wrap64 ((wrap64 (x1+1))+1))] ?_;(with_reducible refine (laws_markText.calls k1 (wrap64 ((wrap64 (x1+1))+1)) t2 _ A2.out).mono ?_);rintro e w2b ⟨rfl,hb⟩;refine ⟨_,rfl,?_⟩;replace HB:=bq HB hb;clear hb hx;refine hK.out _ _ (hc (cb HB G2.out)).out (fun hHeld=>?_);clear hK K hHeld;refine nA 38 ?_;refine pA 7 39 HT_ ?_;refine done_ (done_of HT_.out (by kernel_rfl)) ?_;clear HT_ HW_;have H':=am H;clear H
    try go_wp2
    go_roundg k1
    case measure=>have:=HK1.out;omega
    case rel=>exact ⟨wrap64 ((wrap64 ((wrap64 (x1+1))+1))+1),wrap64 (x5+1),fg,fg,H',⟨by have:=HK1.out;omega⟩,⟨bs HB⟩⟩
   ·intro c3b0 H;obtain rfl:=si H
    go_wp2
    go_ret
    exact ⟨ff,bs HB⟩
theorem laws_heldStockS.calls (k:Nat) (A0:Option Addr) (c0:Nat) (l0:List (S152)) (a1:Int) (r:Int) (w:World) (hr0:Kd.C k152 w A0 l0.length l0) (hc0:l0.length≤c0) (h:laws_heldStockS.f k l0 a1=some r) :
  Calls Tryz.prog 99 #[.slice A0 l0.length c0,.int .i64 a1] w fun e w'=>e=.returned (.int .i64 r)∧Below w.heap.size w w':=by
 have HB:=am (Below.refl w.heap.size w);have HR0:=am hr0;have H':=am (show laws_heldStockS.l0 k l0 a1 0=some r from h);clear h hr0 hc0
 go_in
 go_wp2
 go_loopg [1,5] k (fun kq v1 v5 w'=>∃ (x1:Int) (x5:Int),v1=.int .i64 x1∧v5=.int .i64 x5∧Aside0 (laws_heldStockS.l0 kq l0 x1 x5=some r)∧Aside0 (kq≤k)∧Aside0 (Below w.heap.size w w'))
 case atStart=>exact ⟨a1,0,rfl,rfl,H',⟨Nat.le_refl _⟩,HB⟩
 case round =>
  clear H';obtain ⟨x1,x5,rfl,rfl,HA,HK1,HB⟩:=hrel
  cases gk with
  | zero=>exact absurd HA.out (by simp [laws_heldStockS.l0])
  | succ k1 =>
   have H:=HA.out;clear HA;simp only [laws_heldStockS.l0] at H
   revert H;refine id2 ?_ ?_
   ·intro c3b0 H
    revert H;refine id1 ?_
    intro c4b0 H;have p1:0≤(x5:Int):=oa;have q1:x5<(l0.length:Int):=oa;obtain ⟨ad,ead,g0,g1⟩:=at_T152 HR0.out x5 p1 q1;cases ead;replace p1:=eq_true p1;replace q1:=eq_true q1;have G0:=am g0;clear g0;have G1:=am g1;clear g1
    try go_upto_region 4 with (fail)
    replace H:=bo H;obtain ⟨t0,A0,H⟩:=H;revert H;refine ie1 ?_;intro c0b0 c0b1 H;replace HB:=am (below_drew1 HB.out);refine sta 8 (hc (cb HB G0.out)) (fun hHeld=>?_);refine with_tabW (show rtab .any (opsOf Tryz.f99 4)=laws_heldT from by kernel_rfl) (show waitsOk laws_heldT.2 laws_heldB=true from by kernel_rfl) (fun HT_ HW_=>?_)
    generalize wr.drew=w0a at HB hHeld ⊢
    have hx:=cb HB G0.out;refine pA 0 12 HT_ ?_;refine pA 1 13 HT_ ?_;refine pA 2 14 HT_ ?_;refine pA 3 15 HT_ ?_;refine pA 5 17 HT_ ?_;refine tA 4 16 HT_ HW_ hHeld ?_;refine oA 6 18 HT_ (fun K hK=>?_);refine gA Tryz.func94 #[.int .i64 x1] ?_;(with_reducible refine (laws_markText.calls k1 x1 t0 _ A0.out).mono ?_);rintro e w0b ⟨rfl,hb⟩;refine ⟨_,rfl,?_⟩;replace HB:=bq HB hb;clear hb hx;refine hK.out _ _ (hc (cb HB G0.out)).out (fun hHeld=>?_);clear hK K hHeld;refine nA 18 ?_;refine pA 7 19 HT_ ?_;refine done_ (done_of HT_.out (by kernel_rfl)) ?_;clear HT_ HW_
    try go_upto_region 7 with (fail)
    have hx:=cb HB G1.out
    revert H;refine ie1 ?_;intro c1b0 c1b1 H
    have H':=am H;clear H
    try go_wp2
    go_roundg k1
    case measure=>have:=HK1.out;omega
    case rel=>exact ⟨wrap64 ((wrap64 (x1+1))+1),wrap64 (x5+1),fg,fg,H',⟨by have:=HK1.out;omega⟩,⟨bs HB⟩⟩
   ·intro c3b0 H;obtain rfl:=si H
    go_wp2
    go_ret
    exact ⟨ff,bs HB⟩
theorem laws_heldOrderLineS.calls (k:Nat) (A0:Option Addr) (c0:Nat) (l0:List (S161)) (a1:Int) (r:Int) (w:World) (hr0:Kd.C k161 w A0 l0.length l0) (hc0:l0.length≤c0) (h:laws_heldOrderLineS.f k l0 a1=some r) :
  Calls Tryz.prog 100 #[.slice A0 l0.length c0,.int .i64 a1] w fun e w'=>e=.returned (.int .i64 r)∧Below w.heap.size w w':=by
 have HB:=am (Below.refl w.heap.size w);have HR0:=am hr0;have H':=am (show laws_heldOrderLineS.l0 k l0 a1 0=some r from h);clear h hr0 hc0
 go_in
 go_wp2
 go_loopg [1,5] k (fun kq v1 v5 w'=>∃ (x1:Int) (x5:Int),v1=.int .i64 x1∧v5=.int .i64 x5∧Aside0 (laws_heldOrderLineS.l0 kq l0 x1 x5=some r)∧Aside0 (kq≤k)∧Aside0 (Below w.heap.size w w'))
 case atStart=>exact ⟨a1,0,rfl,rfl,H',⟨Nat.le_refl _⟩,HB⟩
 case round =>
  clear H';obtain ⟨x1,x5,rfl,rfl,HA,HK1,HB⟩:=hrel
  cases gk with
  | zero=>exact absurd HA.out (by simp [laws_heldOrderLineS.l0])
  | succ k1 =>
   have H:=HA.out;clear HA;simp only [laws_heldOrderLineS.l0] at H
   revert H;refine id2 ?_ ?_
   ·intro c3b0 H
    revert H;refine id1 ?_
    intro c4b0 H;have p1:0≤(x5:Int):=oa;have q1:x5<(l0.length:Int):=oa;obtain ⟨ad,ead,g0,g1,g2,g3,g4,g5,g6,g7⟩:=at_T161 HR0.out x5 p1 q1;cases ead;replace p1:=eq_true p1;replace q1:=eq_true q1;have G0:=am g0;clear g0;have G1:=am g1;clear g1;have G2:=am g2;clear g2;have G3:=am g3;clear g3;have G4:=am g4;clear g4;have G5:=am g5;clear g5;have G6:=am g6;clear g6;have G7:=am g7;clear g7
    try go_upto_region 4 with (fail)
    replace H:=bo H;obtain ⟨t0,A0,H⟩:=H;revert H;refine ie1 ?_;intro c0b0 c0b1 H;replace HB:=am (below_drew1 HB.out);refine sta 8 (hc (cb HB G0.out)) (fun hHeld=>?_);refine with_tabW (show rtab .any (opsOf Tryz.f100 4)=laws_heldT from by kernel_rfl) (show waitsOk laws_heldT.2 laws_heldB=true from by kernel_rfl) (fun HT_ HW_=>?_)
    generalize wr.drew=w0a at HB hHeld ⊢
    have hx:=cb HB G0.out;refine pA 0 12 HT_ ?_;refine pA 1 13 HT_ ?_;refine pA 2 14 HT_ ?_;refine pA 3 15 HT_ ?_;refine pA 5 17 HT_ ?_;refine tA 4 16 HT_ HW_ hHeld ?_;refine oA 6 18 HT_ (fun K hK=>?_);refine gA Tryz.func94 #[.int .i64 x1] ?_;(with_reducible refine (laws_markText.calls k1 x1 t0 _ A0.out).mono ?_);rintro e w0b ⟨rfl,hb⟩;refine ⟨_,rfl,?_⟩;replace HB:=bq HB hb;clear hb hx;refine hK.out _ _ (hc (cb HB G0.out)).out (fun hHeld=>?_);clear hK K hHeld;refine nA 18 ?_;refine pA 7 19 HT_ ?_;refine done_ (done_of HT_.out (by kernel_rfl)) ?_;clear HT_ HW_
    try go_upto_region 7 with (fail)
    replace H:=bo H;obtain ⟨t1,A1,H⟩:=H;revert H;refine ie1 ?_;intro c1b0 c1b1 H;replace HB:=am (below_drew1 HB.out);refine sta 8 (hc (cb HB G1.out)) (fun hHeld=>?_);refine with_tabW (show rtab .any (opsOf Tryz.f100 7)=laws_heldT from by kernel_rfl) (show waitsOk laws_heldT.2 laws_heldB=true from by kernel_rfl) (fun HT_ HW_=>?_)
    generalize w0b.drew=w1a at HB hHeld ⊢
    have hx:=cb HB G1.out;refine pA 0 22 HT_ ?_;refine pA 1 23 HT_ ?_;refine pA 2 24 HT_ ?_;refine pA 3 25 HT_ ?_;refine pA 5 27 HT_ ?_;refine tA 4 26 HT_ HW_ hHeld ?_;refine oA 6 28 HT_ (fun K hK=>?_);refine gA Tryz.func94 #[.int .i64 (wrap64 (x1+1))] ?_;(with_reducible refine (laws_markText.calls k1 (wrap64 (x1+1)) t1 _ A1.out).mono ?_);rintro e w1b ⟨rfl,hb⟩;refine ⟨_,rfl,?_⟩;replace HB:=bq HB hb;clear hb hx;refine hK.out _ _ (hc (cb HB G1.out)).out (fun hHeld=>?_);clear hK K hHeld;refine nA 28 ?_;refine pA 7 29 HT_ ?_;refine done_ (done_of HT_.out (by kernel_rfl)) ?_;clear HT_ HW_
    try go_upto_region 10 with (fail)
    have hx:=cb HB G2.out
    revert H;refine ie1 ?_;intro c2b0 c2b1 H
    try go_upto_region 13 with (fail)
    replace H:=bo H;obtain ⟨t3,A3,H⟩:=H;revert H;refine ie1 ?_;intro c3b0 c3b1 H;replace HB:=am (below_drew1 HB.out);refine sta 8 (hc (cb HB G3.out)) (fun hHeld=>?_);refine with_tabW (show rtab .any (opsOf Tryz.f100 13)=laws_heldT from by kernel_rfl) (show waitsOk laws_heldT.2 laws_heldB=true from by kernel_rfl) (fun HT_ HW_=>?_)
    generalize w1b.drew=w3a at HB hHeld ⊢
    have hx:=cb HB G3.out;refine pA 0 41 HT_ ?_;refine pA 1 42 HT_ ?_;refine pA 2 43 HT_ ?_;refine pA 3 44 HT_ ?_;refine pA 5 46 HT_ ?_;refine tA 4 45 HT_ HW_ hHeld ?_;refine oA 6 47 HT_ (fun K hK=>?_);refine gA Tryz.func94 #[.int .i64 (wrap64 ((wrap64 ((wrap64 (x1+1))+1))+1))] ?_;(with_reducible refine (laws_markText.calls k1 (wrap64 ((wrap64 ((wrap64 (x1+1))+1))+1)) t3 _ A3.out).mono ?_);rintro e w3b ⟨rfl,hb⟩;refine ⟨_,rfl,?_⟩;replace HB:=bq HB hb;clear hb hx;refine hK.out _ _ (hc (cb HB G3.out)).out (fun hHeld=>?_);clear hK K hHeld;refine nA 47 ?_;refine pA 7 48 HT_ ?_;refine done_ (done_of HT_.out (by kernel_rfl)) ?_;clear HT_ HW_
    try go_upto_region 16 with (fail)
    have hx:=cb HB G4.out
    revert H;refine ie1 ?_;intro c4b0 c4b1 H
    try go_upto_region 19 with (fail)
    have hx:=cb HB G5.out
    revert H;refine ie1 ?_;intro c5b0 c5b1 H
    try go_upto_region 22 with (fail)
    have hx:=cb HB G6.out
    revert H;refine ie1 ?_;intro c6b0 c6b1 H
    try go_upto_region 25 with (fail)
    have hx:=cb HB G7.out
    revert H;refine ie1 ?_;intro c7b0 c7b1 H
    have H':=am H;clear H
    try go_wp2
    go_roundg k1
    case measure=>have:=HK1.out;omega
    case rel=>exact ⟨wrap64 ((wrap64 ((wrap64 ((wrap64 ((wrap64 ((wrap64 ((wrap64 ((wrap64 (x1+1))+1))+1))+1))+1))+1))+1))+1),wrap64 (x5+1),fg,fg,H',⟨by have:=HK1.out;omega⟩,⟨bs HB⟩⟩
   ·intro c3b0 H;obtain rfl:=si H
    go_wp2
    go_ret
    exact ⟨ff,bs HB⟩
theorem laws_heldBook.calls (k:Nat) (A0_0:Option Addr) (c0_0:Nat) (l0_0:List (S152)) (A0_1:Option Addr) (c0_1:Nat) (l0_1:List (S161)) (a1:Int) (r:Int) (w:World) (hr0_0:Kd.C k152 w A0_0 l0_0.length l0_0) (hc0_0:l0_0.length≤c0_0) (hr0_1:Kd.C k161 w A0_1 l0_1.length l0_1) (hc0_1:l0_1.length≤c0_1) (H:laws_heldBook.f k l0_0 l0_1 a1=some r) :
  Calls Tryz.prog 45 #[.agg #[.slice A0_0 l0_0.length c0_0,.slice A0_1 l0_1.length c0_1],.int .i64 a1] w fun e w'=>e=.returned (.int .i64 r)∧Below w.heap.size w w':=by
 have hu38:=Tryz.underlying38;have HR0_0:=am hr0_0;have HC0_0:=am hc0_0;clear hr0_0 hc0_0;have HR0_1:=am hr0_1;have HC0_1:=am hc0_1;clear hr0_1 hc0_1;have HB:=am (Below.refl w.heap.size w);unfold laws_heldBook.f at H;replace H:=bo H;obtain ⟨t13,A3,H⟩:=H
 go_in
 try go_wp2_with (first|((with_reducible refine gate_dst (N:=2) rfl ?_);refine bz 2 (cs:=#[.slice A0_0 l0_0.length c0_0,.slice A0_1 l0_1.length c0_1]) (t:=38) HB ?_;clear HB;intro gb12 hg w4 BK12 GW12 hb HB;clear hb hg;have hcz5:=cf2 BK12))
 go_at_call 99;(with_reducible refine (laws_heldStockS.calls k _ _ l0_0 a1 t13 _ (Kd.C_below HR0_0.out (bs HB)) HC0_0.out A3.out).mono ?_);rintro e w6 ⟨rfl,hb⟩;replace BK12:=bb BK12 hb;replace HB:=bq HB hb;(try clear hb);(try clear hb2);(try clear hk);(try clear hi)
 revert H;refine id2 ?_ ?_
 ·intro c7b0 H;obtain rfl:=si H
  go_wp2
  go_ret
  exact ⟨ff,bs HB⟩
 ·intro c7b0 H;replace H:=bo H;obtain ⟨t14,A8,H⟩:=H;have hcz9:=cf2 BK12
  try go_wp2_with (fail)
  go_at_call 100;(with_reducible refine (laws_heldOrderLineS.calls k _ _ l0_1 t13 t14 _ (Kd.C_below HR0_1.out (bs HB)) HC0_1.out A8.out).mono ?_);rintro e w10 ⟨rfl,hb⟩;replace BK12:=bb BK12 hb;replace HB:=bq HB hb;(try clear hb);(try clear hb2);(try clear hk);(try clear hi)
  revert H;refine id2 ?_ ?_
  ·intro c11b0 H;obtain rfl:=si H
   go_wp2
   go_ret
   exact ⟨ff,bs HB⟩
  ·intro c11b0 H;obtain rfl:=si H
   go_wp2
   go_ret
   exact ⟨ff,bs HB⟩
theorem laws_heldDiffS.calls (k:Nat) (A0:Option Addr) (c0:Nat) (l0:List (S118)) (a1:Int) (r:Int) (w:World) (hr0:Kd.C k118 w A0 l0.length l0) (hc0:l0.length≤c0) (h:laws_heldDiffS.f k l0 a1=some r) :
  Calls Tryz.prog 46 #[.slice A0 l0.length c0,.int .i64 a1] w fun e w'=>e=.returned (.int .i64 r)∧Below w.heap.size w w':=by
 have HB:=am (Below.refl w.heap.size w);have HR0:=am hr0;have H':=am (show laws_heldDiffS.l0 k l0 a1 0=some r from h);clear h hr0 hc0
 go_in
 go_wp2
 go_loopg [1,5] k (fun kq v1 v5 w'=>∃ (x1:Int) (x5:Int),v1=.int .i64 x1∧v5=.int .i64 x5∧Aside0 (laws_heldDiffS.l0 kq l0 x1 x5=some r)∧Aside0 (kq≤k)∧Aside0 (Below w.heap.size w w'))
 case atStart=>exact ⟨a1,0,rfl,rfl,H',⟨Nat.le_refl _⟩,HB⟩
 case round =>
  clear H';obtain ⟨x1,x5,rfl,rfl,HA,HK1,HB⟩:=hrel
  cases gk with
  | zero=>exact absurd HA.out (by simp [laws_heldDiffS.l0])
  | succ k1 =>
   have H:=HA.out;clear HA;simp only [laws_heldDiffS.l0] at H
   revert H;refine id2 ?_ ?_
   ·intro c3b0 H
    revert H;refine id1 ?_
    intro c4b0 H;have p1:0≤(x5:Int):=oa;have q1:x5<(l0.length:Int):=oa;obtain ⟨ad,ead,g0,g1,g2,g3,g4,g5⟩:=at_T118 HR0.out x5 p1 q1;cases ead;replace p1:=eq_true p1;replace q1:=eq_true q1;have G0:=am g0;clear g0;have G1:=am g1;clear g1;have G2:=am g2;clear g2;have G3:=am g3;clear g3;have G4:=am g4;clear g4;have G5:=am g5;clear g5
    try go_upto_region 4 with (fail)
    have hx:=cb HB G0.out
    revert H;refine ie1 ?_;intro c0b0 c0b1 H
    try go_upto_region 7 with (fail)
    replace H:=bo H;obtain ⟨t1,A1,H⟩:=H;revert H;refine ie1 ?_;intro c1b0 c1b1 H;replace HB:=am (below_drew1 HB.out);refine sta 8 (hc (cb HB G1.out)) (fun hHeld=>?_);refine with_tabW (show rtab .any (opsOf Tryz.f46 7)=laws_heldT from by kernel_rfl) (show waitsOk laws_heldT.2 laws_heldB=true from by kernel_rfl) (fun HT_ HW_=>?_)
    generalize wr.drew=w1a at HB hHeld ⊢
    have hx:=cb HB G1.out;refine pA 0 21 HT_ ?_;refine pA 1 22 HT_ ?_;refine pA 2 23 HT_ ?_;refine pA 3 24 HT_ ?_;refine pA 5 26 HT_ ?_;refine tA 4 25 HT_ HW_ hHeld ?_;refine oA 6 27 HT_ (fun K hK=>?_);refine gA Tryz.func94 #[.int .i64 (wrap64 (x1+1))] ?_;(with_reducible refine (laws_markText.calls k1 (wrap64 (x1+1)) t1 _ A1.out).mono ?_);rintro e w1b ⟨rfl,hb⟩;refine ⟨_,rfl,?_⟩;replace HB:=bq HB hb;clear hb hx;refine hK.out _ _ (hc (cb HB G1.out)).out (fun hHeld=>?_);clear hK K hHeld;refine nA 27 ?_;refine pA 7 28 HT_ ?_;refine done_ (done_of HT_.out (by kernel_rfl)) ?_;clear HT_ HW_
    try go_upto_region 10 with (fail)
    replace H:=bo H;obtain ⟨t2,A2,H⟩:=H;revert H;refine ie1 ?_;intro c2b0 c2b1 H;replace HB:=am (below_drew1 HB.out);refine sta 8 (hc (cb HB G2.out)) (fun hHeld=>?_);refine with_tabW (show rtab .any (opsOf Tryz.f46 10)=laws_heldT from by kernel_rfl) (show waitsOk laws_heldT.2 laws_heldB=true from by kernel_rfl) (fun HT_ HW_=>?_)
    generalize w1b.drew=w2a at HB hHeld ⊢
    have hx:=cb HB G2.out;refine pA 0 31 HT_ ?_;refine pA 1 32 HT_ ?_;refine pA 2 33 HT_ ?_;refine pA 3 34 HT_ ?_;refine pA 5 36 HT_ ?_;refine tA 4 35 HT_ HW_ hHeld ?_;refine oA 6 37 HT_ (fun K hK=>?_);refine gA Tryz.func94 #[.int .i64 (wrap64 ((wrap64 (x1+1))+1))] ?_;(with_reducible refine (laws_markText.calls k1 (wrap64 ((wrap64 (x1+1))+1)) t2 _ A2.out).mono ?_);rintro e w2b ⟨rfl,hb⟩;refine ⟨_,rfl,?_⟩;replace HB:=bq HB hb;clear hb hx;refine hK.out _ _ (hc (cb HB G2.out)).out (fun hHeld=>?_);clear hK K hHeld;refine nA 37 ?_;refine pA 7 38 HT_ ?_;refine done_ (done_of HT_.out (by kernel_rfl)) ?_;clear HT_ HW_
    try go_upto_region 13 with (fail)
    have hx:=cb HB G3.out
    revert H;refine ie1 ?_;intro c3b0 c3b1 H
    try go_upto_region 16 with (fail)
    replace H:=bo H;obtain ⟨t4,A4,H⟩:=H;revert H;refine ie1 ?_;intro c4b0 c4b1 H;replace HB:=am (below_drew1 HB.out);refine sta 8 (hc (cb HB G4.out)) (fun hHeld=>?_);refine with_tabW (show rtab .any (opsOf Tryz.f46 16)=laws_heldT from by kernel_rfl) (show waitsOk laws_heldT.2 laws_heldB=true from by kernel_rfl) (fun HT_ HW_=>?_)
    generalize w2b.drew=w4a at HB hHeld ⊢
    have hx:=cb HB G4.out;refine pA 0 50 HT_ ?_;refine pA 1 51 HT_ ?_;refine pA 2 52 HT_ ?_;refine pA 3 53 HT_ ?_;refine pA 5 55 HT_ ?_;refine tA 4 54 HT_ HW_ hHeld ?_;refine oA 6 56 HT_ (fun K hK=>?_);refine gA Tryz.func94 #[.int .i64 (wrap64 ((wrap64 ((wrap64 ((wrap64 (x1+1))+1))+1))+1))] ?_;(with_reducible refine (laws_markText.calls k1 (wrap64 ((wrap64 ((wrap64 ((wrap64 (x1+1))+1))+1))+1)) t4 _ A4.out).mono ?_);rintro e w4b ⟨rfl,hb⟩;refine ⟨_,rfl,?_⟩;replace HB:=bq HB hb;clear hb hx;refine hK.out _ _ (hc (cb HB G4.out)).out (fun hHeld=>?_);clear hK K hHeld;refine nA 56 ?_;refine pA 7 57 HT_ ?_;refine done_ (done_of HT_.out (by kernel_rfl)) ?_;clear HT_ HW_
    try go_upto_region 19 with (fail)
    have hx:=cb HB G5.out
    revert H;refine ie1 ?_;intro c5b0 c5b1 H
    have H':=am H;clear H
    try go_wp2
    go_roundg k1
    case measure=>have:=HK1.out;omega
    case rel=>exact ⟨wrap64 ((wrap64 ((wrap64 ((wrap64 ((wrap64 ((wrap64 (x1+1))+1))+1))+1))+1))+1),wrap64 (x5+1),fg,fg,H',⟨by have:=HK1.out;omega⟩,⟨bs HB⟩⟩
   ·intro c3b0 H;obtain rfl:=si H
    go_wp2
    go_ret
    exact ⟨ff,bs HB⟩
theorem laws_heldOutS.calls (k:Nat) (A0:Option Addr) (c0:Nat) (l0:List (S120)) (a1:Int) (r:Int) (w:World) (hr0:Kd.C k120 w A0 l0.length l0) (hc0:l0.length≤c0) (h:laws_heldOutS.f k l0 a1=some r) :
  Calls Tryz.prog 47 #[.slice A0 l0.length c0,.int .i64 a1] w fun e w'=>e=.returned (.int .i64 r)∧Below w.heap.size w w':=by
 have HB:=am (Below.refl w.heap.size w);have HR0:=am hr0;have H':=am (show laws_heldOutS.l0 k l0 a1 0=some r from h);clear h hr0 hc0
 go_in
 go_wp2
 go_loopg [1,5] k (fun kq v1 v5 w'=>∃ (x1:Int) (x5:Int),v1=.int .i64 x1∧v5=.int .i64 x5∧Aside0 (laws_heldOutS.l0 kq l0 x1 x5=some r)∧Aside0 (kq≤k)∧Aside0 (Below w.heap.size w w'))
 case atStart=>exact ⟨a1,0,rfl,rfl,H',⟨Nat.le_refl _⟩,HB⟩
 case round =>
  clear H';obtain ⟨x1,x5,rfl,rfl,HA,HK1,HB⟩:=hrel
  cases gk with
  | zero=>exact absurd HA.out (by simp [laws_heldOutS.l0])
  | succ k1 =>
   have H:=HA.out;clear HA;simp only [laws_heldOutS.l0] at H
   revert H;refine id2 ?_ ?_
   ·intro c3b0 H
    revert H;refine id1 ?_
    intro c4b0 H;have p1:0≤(x5:Int):=oa;have q1:x5<(l0.length:Int):=oa;obtain ⟨ad,ead,g0,g1,g2,g3,g4⟩:=at_T120 HR0.out x5 p1 q1;cases ead;replace p1:=eq_true p1;replace q1:=eq_true q1;have G0:=am g0;clear g0;have G1:=am g1;clear g1;have G2:=am g2;clear g2;have G3:=am g3;clear g3;have G4:=am g4;clear g4
    try go_upto_region 4 with (fail)
    replace H:=bo H;obtain ⟨t0,A0,H⟩:=H;revert H;refine ie1 ?_;intro c0b0 c0b1 H;replace HB:=am (below_drew1 HB.out);refine sta 8 (hc (cb HB G0.out)) (fun hHeld=>?_);refine with_tabW (show rtab .any (opsOf Tryz.f47 4)=laws_heldT from by kernel_rfl) (show waitsOk laws_heldT.2 laws_heldB=true from by kernel_rfl) (fun HT_ HW_=>?_)
    generalize wr.drew=w0a at HB hHeld ⊢
    have hx:=cb HB G0.out;refine pA 0 12 HT_ ?_;refine pA 1 13 HT_ ?_;refine pA 2 14 HT_ ?_;refine pA 3 15 HT_ ?_;refine pA 5 17 HT_ ?_;refine tA 4 16 HT_ HW_ hHeld ?_;refine oA 6 18 HT_ (fun K hK=>?_);refine gA Tryz.func94 #[.int .i64 x1] ?_;(with_reducible refine (laws_markText.calls k1 x1 t0 _ A0.out).mono ?_);rintro e w0b ⟨rfl,hb⟩;refine ⟨_,rfl,?_⟩;replace HB:=bq HB hb;clear hb hx;refine hK.out _ _ (hc (cb HB G0.out)).out (fun hHeld=>?_);clear hK K hHeld;refine nA 18 ?_;refine pA 7 19 HT_ ?_;refine done_ (done_of HT_.out (by kernel_rfl)) ?_;clear HT_ HW_
    try go_upto_region 7 with (fail)
    have hx:=cb HB G1.out
    revert H;refine ie1 ?_;intro c1b0 c1b1 H
    try go_upto_region 10 with (fail)
    replace H:=bo H;obtain ⟨t2,A2,H⟩:=H;revert H;refine ie1 ?_;intro c2b0 c2b1 H;replace HB:=am (below_drew1 HB.out);refine sta 8 (hc (cb HB G2.out)) (fun hHeld=>?_);refine with_tabW (show rtab .any (opsOf Tryz.f47 10)=laws_heldT from by kernel_rfl) (show waitsOk laws_heldT.2 laws_heldB=true from by kernel_rfl) (fun HT_ HW_=>?_)
    generalize w0b.drew=w2a at HB hHeld ⊢
    have hx:=cb HB G2.out;refine pA 0 31 HT_ ?_;refine pA 1 32 HT_ ?_;refine pA 2 33 HT_ ?_;refine pA 3 34 HT_ ?_;refine pA 5 36 HT_ ?_;refine tA 4 35 HT_ HW_ hHeld ?_;refine oA 6 37 HT_ (fun K hK=>?_);refine gA Tryz.func94 #[.int .i64 (wrap64 ((wrap64 (x1+1))+1))] ?_;(with_reducible refine (laws_markText.calls k1 (wrap64 ((wrap64 (x1+1))+1)) t2 _ A2.out).mono ?_);rintro e w2b ⟨rfl,hb⟩;refine ⟨_,rfl,?_⟩;replace HB:=bq HB hb;clear hb hx;refine hK.out _ _ (hc (cb HB G2.out)).out (fun hHeld=>?_);clear hK K hHeld;refine nA 37 ?_;refine pA 7 38 HT_ ?_;refine done_ (done_of HT_.out (by kernel_rfl)) ?_;clear HT_ HW_
    try go_upto_region 13 with (fail)
    have hx:=cb HB G3.out
    revert H;refine ie1 ?_;intro c3b0 c3b1 H
    try go_upto_region 16 with (fail)
    have hx:=cb HB G4.out
    revert H;refine ie1 ?_;intro c4b0 c4b1 H
    have H':=am H;clear H
    try go_wp2
    go_roundg k1
    case measure=>have:=HK1.out;omega
    case rel=>exact ⟨wrap64 ((wrap64 ((wrap64 ((wrap64 ((wrap64 (x1+1))+1))+1))+1))+1),wrap64 (x5+1),fg,fg,H',⟨by have:=HK1.out;omega⟩,⟨bs HB⟩⟩
   ·intro c3b0 H;obtain rfl:=si H
    go_wp2
    go_ret
    exact ⟨ff,bs HB⟩
theorem laws_heldGate.calls (k:Nat) (a0_0:ByteArray) (a0_1:Int) (A0_2:Option Addr) (c0_2:Nat) (l0_2:List (S83)) (A0_3:Option Addr) (c0_3:Nat) (l0_3:List (S114)) (A0_4:Option Addr) (c0_4:Nat) (l0_4:List (S152)) (A0_5:Option Addr) (c0_5:Nat) (l0_5:List (S161)) (A0_6:Option Addr) (c0_6:Nat) (l0_6:List (S118)) (A0_7:Option Addr) (c0_7:Nat) (l0_7:List (S120)) (a1:Int) (r:Int) (w:World) (hr0_2:Kd.C k83 w A0_2 l0_2.length l0_2) (hc0_2:l0_2.length≤c0_2) (hr0_3:Kd.C k114 w A0_3 l0_3.length l0_3) (hc0_3:l0_3.length≤c0_3) (hr0_4:Kd.C k152 w A0_4 l0_4.length l0_4) (hc0_4:l0_4.length≤c0_4) (hr0_5:Kd.C k161 w A0_5 l0_5.length l0_5) (hc0_5:l0_5.length≤c0_5) (hr0_6:Kd.C k118 w A0_6 l0_6.length l0_6) (hc0_6:l0_6.length≤c0_6) (hr0_7:Kd.C k120 w A0_7 l0_7.length l0_7) (hc0_7:l0_7.length≤c0_7) (H:laws_heldGate.f k a0_0 a0_1 l0_2 l0_3 l0_4 l0_5 l0_6 l0_7 a1=some r) :
  Calls Tryz.prog 11 #[.agg #[.string a0_0,.int .i64 a0_1,.slice A0_2 l0_2.length c0_2,.slice A0_3 l0_3.length c0_3,.slice A0_4 l0_4.length c0_4,.slice A0_5 l0_5.length c0_5,.slice A0_6 l0_6.length c0_6,.slice A0_7 l0_7.length c0_7],.int .i64 a1] w fun e w'=>e=.returned (.int .i64 r)∧Below w.heap.size w w':=by
 have hu42:=Tryz.underlying42;have hu38:=Tryz.underlying38;have HR0_2:=am hr0_2;have HC0_2:=am hc0_2;clear hr0_2 hc0_2;have HR0_3:=am hr0_3;have HC0_3:=am hc0_3;clear hr0_3 hc0_3;have HR0_4:=am hr0_4;have HC0_4:=am hc0_4;clear hr0_4 hc0_4;have HR0_5:=am hr0_5;have HC0_5:=am hc0_5;clear hr0_5 hc0_5;have HR0_6:=am hr0_6;have HC0_6:=am hc0_6;clear hr0_6 hc0_6;have HR0_7:=am hr0_7;have HC0_7:=am hc0_7;clear hr0_7 hc0_7;have HB:=am (Below.refl w.heap.size w);unfold laws_heldGate.f at H;replace H:=bo H;obtain ⟨t25,A3,H⟩:=H
 go_in
 try go_wp2_with (first|((with_reducible refine gate_dst (N:=2) rfl ?_);refine bz 2 (cs:=#[.string a0_0,.int .i64 a0_1,.slice A0_2 l0_2.length c0_2,.slice A0_3 l0_3.length c0_3,.slice A0_4 l0_4.length c0_4,.slice A0_5 l0_5.length c0_5,.slice A0_6 l0_6.length c0_6,.slice A0_7 l0_7.length c0_7]) (t:=42) HB ?_;clear HB;intro gb24 hg w4 BK24 GW24 hb HB;clear hb hg;have hcz5:=cf8 BK24))
 go_at_call 43;(with_reducible refine (laws_heldPartnerS.calls k _ _ l0_2 a1 t25 _ (Kd.C_below HR0_2.out (bs HB)) HC0_2.out A3.out).mono ?_);rintro e w6 ⟨rfl,hb⟩;replace BK24:=bb BK24 hb;replace HB:=bq HB hb;(try clear hb);(try clear hb2);(try clear hk);(try clear hi)
 revert H;refine id2 ?_ ?_
 ·intro c7b0 H;obtain rfl:=si H
  go_wp2
  go_ret
  exact ⟨ff,bs HB⟩
 ·intro c7b0 H;replace H:=bo H;obtain ⟨t26,A8,H⟩:=H;have hcz9:=cf8 BK24
  try go_wp2_with (fail)
  go_at_call 44;(with_reducible refine (laws_heldCrossS.calls k _ _ l0_3 t25 t26 _ (Kd.C_below HR0_3.out (bs HB)) HC0_3.out A8.out).mono ?_);rintro e w10 ⟨rfl,hb⟩;replace BK24:=bb BK24 hb;replace HB:=bq HB hb;(try clear hb);(try clear hb2);(try clear hk);(try clear hi)
  revert H;refine id2 ?_ ?_
  ·intro c11b0 H;obtain rfl:=si H
   go_wp2
   go_ret
   exact ⟨ff,bs HB⟩
  ·intro c11b0 H;replace H:=bo H;obtain ⟨t27,A12,H⟩:=H;have hcz13:=cf8 BK24
   try go_wp2_with (fail)
   go_at_call 45;(with_reducible refine (laws_heldBook.calls k _ _ l0_4 _ _ l0_5 t26 t27 _ (Kd.C_below HR0_4.out (bs HB)) HC0_4.out (Kd.C_below HR0_5.out (bs HB)) HC0_5.out A12.out).mono ?_);rintro e w14 ⟨rfl,hb⟩;replace BK24:=bb BK24 hb;replace HB:=bq HB hb;(try clear hb);(try clear hb2);(try clear hk);(try clear hi)
   revert H;refine id2 ?_ ?_
   ·intro c15b0 H;obtain rfl:=si H
    go_wp2
    go_ret
    exact ⟨ff,bs HB⟩
   ·intro c15b0 H;replace H:=bo H;obtain ⟨t28,A16,H⟩:=H;have hcz17:=cf8 BK24
    try go_wp2_with (fail)
    go_at_call 46;(with_reducible refine (laws_heldDiffS.calls k _ _ l0_6 t27 t28 _ (Kd.C_below HR0_6.out (bs HB)) HC0_6.out A16.out).mono ?_);rintro e w18 ⟨rfl,hb⟩;replace BK24:=bb BK24 hb;replace HB:=bq HB hb;(try clear hb);(try clear hb2);(try clear hk);(try clear hi)
    revert H;refine id2 ?_ ?_
    ·intro c19b0 H;obtain rfl:=si H
     go_wp2
     go_ret
     exact ⟨ff,bs HB⟩
    ·intro c19b0 H;replace H:=bo H;obtain ⟨t29,A20,H⟩:=H;have hcz21:=cf8 BK24
     try go_wp2_with (fail)
     go_at_call 47;(with_reducible refine (laws_heldOutS.calls k _ _ l0_7 t28 t29 _ (Kd.C_below HR0_7.out (bs HB)) HC0_7.out A20.out).mono ?_);rintro e w22 ⟨rfl,hb⟩;replace BK24:=bb BK24 hb;replace HB:=bq HB hb;(try clear hb);(try clear hb2);(try clear hk);(try clear hi)
     revert H;refine id2 ?_ ?_
     ·intro c23b0 H;obtain rfl:=si H
      go_wp2
      go_ret
      exact ⟨ff,bs HB⟩
     ·intro c23b0 H;obtain rfl:=si H
      go_wp2
      go_ret
      exact ⟨ff,bs HB⟩
theorem GG.eq {k b loa hia lob hib:Nat} {W:World} {xa xb:ByteArray} {ya yb:Int} {A2a:Option Addr} {n2a c2a:Nat} {l2a:List S83} {A3a:Option Addr} {n3a c3a:Nat} {l3a:List S114} {A4a:Option Addr} {n4a c4a:Nat} {l4a:List S152} {A5a:Option Addr} {n5a c5a:Nat} {l5a:List S161} {A6a:Option Addr} {n6a c6a:Nat} {l6a:List S118} {A7a:Option Addr} {n7a c7a:Nat} {l7a:List S120} {A2b:Option Addr} {n2b c2b:Nat} {l2b:List S83} {A3b:Option Addr} {n3b c3b:Nat} {l3b:List S114} {A4b:Option Addr} {n4b c4b:Nat} {l4b:List S152} {A5b:Option Addr} {n5b c5b:Nat} {l5b:List S161} {A6b:Option Addr} {n6b c6b:Nat} {l6b:List S118} {A7b:Option Addr} {n7b c7b:Nat} {l7b:List S120} {r:Bool} (Ha:GG b loa hia W (.slice A2a n2a c2a) (.slice A3a n3a c3a) (.slice A4a n4a c4a) (.slice A5a n5a c5a) (.slice A6a n6a c6a) (.slice A7a n7a c7a) l2a l3a l4a l5a l6a l7a) (Hb:GG b lob hib W (.slice A2b n2b c2b) (.slice A3b n3b c3b) (.slice A4b n4b c4b) (.slice A5b n5b c5b) (.slice A6b n6b c6b) (.slice A7b n7b c7b) l2b l3b l4b l5b l6b l7b) (h:laws_eqGate.f k xa ya l2a l3a l4a l5a l6a l7a xb yb l2b l3b l4b l5b l6b l7b=some r):Calls Tryz.prog 9 #[.agg #[.string xa,.int .i64 ya,.slice A2a l2a.length c2a,.slice A3a l3a.length c3a,.slice A4a l4a.length c4a,.slice A5a l5a.length c5a,.slice A6a l6a.length c6a,.slice A7a l7a.length c7a],.agg #[.string xb,.int .i64 yb,.slice A2b l2b.length c2b,.slice A3b l3b.length c3b,.slice A4b l4b.length c4b,.slice A5b l5b.length c5b,.slice A6b l6b.length c6b,.slice A7b l7b.length c7b]] W fun e w'=>e=.returned (.bool r)∧Below W.heap.size W w':=laws_eqGate.calls k xa ya _ _ l2a _ _ l3a _ _ l4a _ _ l5a _ _ l6a _ _ l7a xb yb _ _ l2b _ _ l3b _ _ l4b _ _ l5b _ _ l6b _ _ l7b r W Ha.c2 Ha.d2 Ha.c3 Ha.d3 Ha.c4 Ha.d4 Ha.c5 Ha.d5 Ha.c6 Ha.d6 Ha.c7 Ha.d7 Hb.c2 Hb.d2 Hb.c3 Hb.d3 Hb.c4 Hb.d4 Hb.c5 Hb.d5 Hb.c6 Hb.d6 Hb.c7 Hb.d7 h
theorem laws_FnExactGateNext.calls (k:Nat) (a0_0:ByteArray) (a0_1:Int) (A0_2:Option Addr) (c0_2:Nat) (l0_2:List S93) (A0_3:Option Addr) (c0_3:Nat) (l0_3:List S96) (A0_4:Option Addr) (c0_4:Nat) (l0_4:List S147) (A0_5:Option Addr) (c0_5:Nat) (l0_5:List S150) (A0_6:Option Addr) (c0_6:Nat) (l0_6:List S101) (A0_7:Option Addr) (c0_7:Nat) (l0_7:List S104) (r:Bool) (w:World) (hr0_2:Kd.C k93 w A0_2 l0_2.length l0_2) (hc0_2:l0_2.length≤c0_2) (hr0_3:Kd.C k96 w A0_3 l0_3.length l0_3) (hc0_3:l0_3.length≤c0_3) (hr0_4:Kd.C k147 w A0_4 l0_4.length l0_4) (hc0_4:l0_4.length≤c0_4) (hr0_5:Kd.C k150 w A0_5 l0_5.length l0_5) (hc0_5:l0_5.length≤c0_5) (hr0_6:Kd.C k101 w A0_6 l0_6.length l0_6) (hc0_6:l0_6.length≤c0_6) (hr0_7:Kd.C k104 w A0_7 l0_7.length l0_7) (hc0_7:l0_7.length≤c0_7) (H:laws_FnExactGateNext.f k a0_0 a0_1 l0_2 l0_3 l0_4 l0_5 l0_6 l0_7=some r) :
  Calls Tryz.prog 3 #[.agg #[.string a0_0,.int .i64 a0_1,.slice A0_2 l0_2.length c0_2,.slice A0_3 l0_3.length c0_3,.slice A0_4 l0_4.length c0_4,.slice A0_5 l0_5.length c0_5,.slice A0_6 l0_6.length c0_6,.slice A0_7 l0_7.length c0_7]] w fun e w'=>e=.returned (.bool r)∧Below w.heap.size w w':=by
 have hu:=Tryz.underlying31;have hu2:=Tryz.underlying42;have HR0_2:=am hr0_2;have HC0_2:=am hc0_2;clear hr0_2 hc0_2;have HR0_3:=am hr0_3;have HC0_3:=am hc0_3;clear hr0_3 hc0_3;have HR0_4:=am hr0_4;have HC0_4:=am hc0_4;clear hr0_4 hc0_4;have HR0_5:=am hr0_5;have HC0_5:=am hc0_5;clear hr0_5 hc0_5;have HR0_6:=am hr0_6;have HC0_6:=am hc0_6;clear hr0_6 hc0_6;have HR0_7:=am hr0_7;have HC0_7:=am hc0_7;clear hr0_7 hc0_7
 have HB:=am (Below.refl w.heap.size w);unfold laws_FnExactGateNext.f at H;replace H:=bo H;obtain ⟨t,Asz,H⟩:=H
 go_in
 try go_wp2_with (first|((with_reducible refine gate_dst (N:=1) rfl ?_);refine bx 1 (cs:=#[.string a0_0,.int .i64 a0_1,.slice A0_2 l0_2.length c0_2,.slice A0_3 l0_3.length c0_3,.slice A0_4 l0_4.length c0_4,.slice A0_5 l0_5.length c0_5,.slice A0_6 l0_6.length c0_6,.slice A0_7 l0_7.length c0_7]) (t:=31) ?_;intro g1 hg wa hbox hb;have B1:=am hbox;replace HB:=bq HB hb;clear hb hbox hg;have z1:=cf8 B1))
 go_at_call 5;refine (laws_szGate.calls k a0_0 a0_1 _ _ l0_2 _ _ l0_3 _ _ l0_4 _ _ l0_5 _ _ l0_6 _ _ l0_7 1048576 t _ (Kd.C_below HR0_2.out (bs HB)) HC0_2.out (Kd.C_below HR0_3.out (bs HB)) HC0_3.out (Kd.C_below HR0_4.out (bs HB)) HC0_4.out (Kd.C_below HR0_5.out (bs HB)) HC0_5.out (Kd.C_below HR0_6.out (bs HB)) HC0_6.out (Kd.C_below HR0_7.out (bs HB)) HC0_7.out Asz.out).mono ?_;rintro e wb ⟨rfl,hb⟩;(try clear z1);replace B1:=am (blk_below (ks B1) hb);replace HB:=bq HB hb;clear hb;have z1:=cf8 B1
 revert H;refine id2 ?_ ?_
 ·intro c0 H;obtain rfl:=si H
  go_wp2
  go_ret
  exact ⟨ff,bs HB⟩
 intro c0 H;replace H:=bo H;obtain ⟨⟨na,da,l2a,l3a,l4a,l5a,l6a,l7a⟩,Aa,H⟩:=H;dsimp only at H
 try go_wp2_with (fail)
 go_at_call 7;refine (laws_toGate.calls k a0_0 a0_1 _ _ l0_2 _ _ l0_3 _ _ l0_4 _ _ l0_5 _ _ l0_6 _ _ l0_7 na da l2a l3a l4a l5a l6a l7a _ (Kd.C_below HR0_2.out (bs HB)) HC0_2.out (Kd.C_below HR0_3.out (bs HB)) HC0_3.out (Kd.C_below HR0_4.out (bs HB)) HC0_4.out (Kd.C_below HR0_5.out (bs HB)) HC0_5.out (Kd.C_below HR0_6.out (bs HB)) HC0_6.out (Kd.C_below HR0_7.out (bs HB)) HC0_7.out Aa.out).mono ?_;rintro e wc ⟨v2a,v3a,v4a,v5a,v6a,v7a,rfl,q2,q3,q4,q5,q6,q7,hb⟩;obtain ⟨A2a,c2a,e_⟩:=Kd.S_slice q2;subst e_;obtain ⟨A3a,c3a,e_⟩:=Kd.R_slice q3;subst e_;obtain ⟨A4a,c4a,e_⟩:=Kd.R_slice q4;subst e_;obtain ⟨A5a,c5a,e_⟩:=Kd.R_slice q5;subst e_;obtain ⟨A6a,c6a,e_⟩:=Kd.R_slice q6;subst e_;obtain ⟨A7a,c7a,e_⟩:=Kd.R_slice q7;subst e_;have L1a:=am (blk_lt B1.out);have Ga:=am (GG.make HB.out.size q2 q3 q4 q5 q6 q7);clear q2 q3 q4 q5 q6 q7;(try clear z1);replace B1:=am (blk_below (ks B1) hb);replace HB:=bq HB hb;clear hb;have z1:=cf8 B1;replace H:=bo H;obtain ⟨⟨nb,db,l2b,l3b,l4b,l5b,l6b,l7b⟩,Ab,H⟩:=H;dsimp only at H
 try go_wp2_with (fail)
 go_at_call 6;refine (spec_GateNext.calls k na da _ _ l2a _ _ l3a _ _ l4a _ _ l5a _ _ l6a _ _ l7a nb db l2b l3b l4b l5b l6b l7b _ Ga.out.c2 Ga.out.d2 Ga.out.c3 Ga.out.d3 Ga.out.c4 Ga.out.d4 Ga.out.c5 Ga.out.d5 Ga.out.c6 Ga.out.d6 Ga.out.c7 Ga.out.d7 Ab.out).mono ?_;rintro e wd ⟨v2b,v3b,v4b,v5b,v6b,v7b,rfl,q2,q3,q4,q5,q6,q7,hb⟩;obtain ⟨A2b,c2b,e_⟩:=Kd.S_slice q2;subst e_;obtain ⟨A3b,c3b,e_⟩:=Kd.R_slice q3;subst e_;obtain ⟨A4b,c4b,e_⟩:=Kd.R_slice q4;subst e_;obtain ⟨A5b,c5b,e_⟩:=Kd.R_slice q5;subst e_;obtain ⟨A6b,c6b,e_⟩:=Kd.R_slice q6;subst e_;obtain ⟨A7b,c7b,e_⟩:=Kd.R_slice q7;subst e_;have Dab:=am Ga.out.top;have L1b:=am (blk_lt B1.out);have Gb:=am (GG.make HB.out.size q2 q3 q4 q5 q6 q7);clear q2 q3 q4 q5 q6 q7;(try clear z1);replace B1:=am (blk_below (ks B1) hb);replace Ga:=am (Ga.out.below hb);replace HB:=bq HB hb;clear hb;have z1:=cf8 B1;clear Ga
 try go_wp2_with (first|((with_reducible refine gate_dst (N:=4) rfl ?_);refine bx 4 (cs:=#[.string (⟨#[]⟩:ByteArray),.int .i64 0,.slice none 0 0,.slice none 0 0,.slice none 0 0,.slice none 0 0,.slice none 0 0,.slice none 0 0]) (t:=42) ?_;intro g4 hg we hbox hb;(try clear z1);have U4b:=am (Nat.le_trans Gb.out.top (Nat.le_of_eq hg.symm));skip;have B4:=am hbox;have E4:=am (gs hg (bs HB));have N14:=am (gn hg B1.out);skip;replace B1:=am (blk_below (ks B1) hb);replace Gb:=am (Gb.out.below hb);replace HB:=bq HB hb;clear hb;clear hbox hg;have z4:=cf8 B4)|((with_reducible refine gate_store (t:=42) (p:=4) rfl ?_);refine store_event (t:=42) (p:=4) (v:=?vo4) (w1:=((((((((we.setCell ⟨g4,0,none⟩ ((.string nb))).setCell ⟨g4,1,none⟩ ((.int .i64 db))).setCell ⟨g4,2,none⟩ ((.slice A2b l2b.length c2b))).setCell ⟨g4,3,none⟩ ((.slice A3b l3b.length c3b))).setCell ⟨g4,4,none⟩ ((.slice A4b l4b.length c4b))).setCell ⟨g4,5,none⟩ ((.slice A5b l5b.length c5b))).setCell ⟨g4,6,none⟩ ((.slice A6b l6b.length c6b))).setCell ⟨g4,7,none⟩ ((.slice A7b l7b.length c7b)))) ?hg ?ho ?hn ?hr ?_;(case ho=>rfl);(case hg=>rfl);(case hn=>rfl);(case hr=>first|(go_simp;done)|(go_simp;rfl));intro wf hw;clear z4;obtain ⟨hx,hk,hB⟩:=box8 B4.out hw;clear hw;replace HB:=am (hB _ HB.out E4.out);replace Gb:=am (Gb.out.kept hk (fun k_ _ p_ e_=>by have:=U4b.out;omega));skip;replace B1:=am (blk_kept B1.out hk (fun e_=>N14.out e_));skip;replace B4:=am hx;clear hx hk hB;have z1:=cf8 B1;have z4:=cf8 B4))
 replace H:=bo H;obtain ⟨⟨nx,dx,l2x,l3x,l4x,l5x,l6x,l7x⟩,Ax,H⟩:=H;dsimp only at H
 try go_wp2_with (fail)
 go_at_call 7;refine (laws_toGate.calls k a0_0 a0_1 _ _ l0_2 _ _ l0_3 _ _ l0_4 _ _ l0_5 _ _ l0_6 _ _ l0_7 nx dx l2x l3x l4x l5x l6x l7x _ (Kd.C_below HR0_2.out (bs HB)) HC0_2.out (Kd.C_below HR0_3.out (bs HB)) HC0_3.out (Kd.C_below HR0_4.out (bs HB)) HC0_4.out (Kd.C_below HR0_5.out (bs HB)) HC0_5.out (Kd.C_below HR0_6.out (bs HB)) HC0_6.out (Kd.C_below HR0_7.out (bs HB)) HC0_7.out Ax.out).mono ?_;rintro e wg ⟨v2x,v3x,v4x,v5x,v6x,v7x,rfl,q2,q3,q4,q5,q6,q7,hb⟩;obtain ⟨A2x,c2x,e_⟩:=Kd.S_slice q2;subst e_;obtain ⟨A3x,c3x,e_⟩:=Kd.R_slice q3;subst e_;obtain ⟨A4x,c4x,e_⟩:=Kd.R_slice q4;subst e_;obtain ⟨A5x,c5x,e_⟩:=Kd.R_slice q5;subst e_;obtain ⟨A6x,c6x,e_⟩:=Kd.R_slice q6;subst e_;obtain ⟨A7x,c7x,e_⟩:=Kd.R_slice q7;subst e_;have Dbx:=am Gb.out.top;have L1x:=am (blk_lt B1.out);have L4x:=am (blk_lt B4.out);have Gx:=am (GG.make HB.out.size q2 q3 q4 q5 q6 q7);clear q2 q3 q4 q5 q6 q7;(try clear z1);(try clear z4);replace B1:=am (blk_below (ks B1) hb);replace B4:=am (blk_below (ks B4) hb);replace Gb:=am (Gb.out.below hb);replace HB:=bq HB hb;clear hb;have z1:=cf8 B1;have z4:=cf8 B4
 try go_wp2_with (first|((with_reducible refine gate_dst (N:=5) rfl ?_);refine bx 5 (cs:=#[.string (⟨#[]⟩:ByteArray),.int .i64 0,.slice none 0 0,.slice none 0 0,.slice none 0 0,.slice none 0 0,.slice none 0 0,.slice none 0 0]) (t:=42) ?_;intro g5 hg wh hbox hb;(try clear z1);(try clear z4);have U5b:=am (Nat.le_trans Gb.out.top (Nat.le_of_eq hg.symm));have U5x:=am (Nat.le_trans Gx.out.top (Nat.le_of_eq hg.symm));skip;have B5:=am hbox;have E5:=am (gs hg (bs HB));have N15:=am (gn hg B1.out);have N45:=am (gn hg B4.out);skip;replace B1:=am (blk_below (ks B1) hb);replace B4:=am (blk_below (ks B4) hb);replace Gb:=am (Gb.out.below hb);replace Gx:=am (Gx.out.below hb);replace HB:=bq HB hb;clear hb;clear hbox hg;have z5:=cf8 B5)|((with_reducible refine gate_store (t:=42) (p:=5) rfl ?_);refine store_event (t:=42) (p:=5) (v:=?vo5) (w1:=((((((((wh.setCell ⟨g5,0,none⟩ ((.string nx))).setCell ⟨g5,1,none⟩ ((.int .i64 dx))).setCell ⟨g5,2,none⟩ ((.slice A2x l2x.length c2x))).setCell ⟨g5,3,none⟩ ((.slice A3x l3x.length c3x))).setCell ⟨g5,4,none⟩ ((.slice A4x l4x.length c4x))).setCell ⟨g5,5,none⟩ ((.slice A5x l5x.length c5x))).setCell ⟨g5,6,none⟩ ((.slice A6x l6x.length c6x))).setCell ⟨g5,7,none⟩ ((.slice A7x l7x.length c7x)))) ?hg ?ho ?hn ?hr ?_;(case ho=>rfl);(case hg=>rfl);(case hn=>rfl);(case hr=>first|(go_simp;done)|(go_simp;rfl));intro wi hw;clear z5;obtain ⟨hx,hk,hB⟩:=box8 B5.out hw;clear hw;replace HB:=am (hB _ HB.out E5.out);replace Gb:=am (Gb.out.kept hk (fun k_ _ p_ e_=>by have:=U5b.out;omega));replace Gx:=am (Gx.out.kept hk (fun k_ _ p_ e_=>by have:=U5x.out;omega));skip;replace B1:=am (blk_kept B1.out hk (fun e_=>N15.out e_));replace B4:=am (blk_kept B4.out hk (fun e_=>N45.out e_));skip;replace B5:=am hx;clear hx hk hB;have z1:=cf8 B1;have z4:=cf8 B4;have z5:=cf8 B5))
 replace H:=bo H;obtain ⟨⟨ng,dg,l2g,l3g,l4g,l5g,l6g,l7g⟩,Ag,H⟩:=H;dsimp only at H
 try go_wp2_with (fail)
 go_at_call 8;refine (impl_GateNext.calls k nx dx _ _ l2x _ _ l3x _ _ l4x _ _ l5x _ _ l6x _ _ l7x ng dg l2g l3g l4g l5g l6g l7g _ Gx.out.c2 Gx.out.d2 Gx.out.c3 Gx.out.d3 Gx.out.c4 Gx.out.d4 Gx.out.c5 Gx.out.d5 Gx.out.c6 Gx.out.d6 Gx.out.c7 Gx.out.d7 Ag.out).mono ?_;rintro e wj ⟨v2g,v3g,v4g,v5g,v6g,v7g,rfl,q2,q3,q4,q5,q6,q7,hb⟩;obtain ⟨A2g,c2g,e_⟩:=Kd.S_slice q2;subst e_;obtain ⟨A3g,c3g,e_⟩:=Kd.R_slice q3;subst e_;obtain ⟨A4g,c4g,e_⟩:=Kd.R_slice q4;subst e_;obtain ⟨A5g,c5g,e_⟩:=Kd.R_slice q5;subst e_;obtain ⟨A6g,c6g,e_⟩:=Kd.R_slice q6;subst e_;obtain ⟨A7g,c7g,e_⟩:=Kd.R_slice q7;subst e_;have Dbg:=am Gb.out.top;have Dxg:=am Gx.out.top;have L1g:=am (blk_lt B1.out);have L4g:=am (blk_lt B4.out);have L5g:=am (blk_lt B5.out);have Gg:=am (GG.make HB.out.size q2 q3 q4 q5 q6 q7);clear q2 q3 q4 q5 q6 q7;(try clear z1);(try clear z4);(try clear z5);replace B1:=am (blk_below (ks B1) hb);replace B4:=am (blk_below (ks B4) hb);replace B5:=am (blk_below (ks B5) hb);replace Gb:=am (Gb.out.below hb);replace Gx:=am (Gx.out.below hb);replace HB:=bq HB hb;clear hb;have z1:=cf8 B1;have z4:=cf8 B4;have z5:=cf8 B5
 try go_wp2_with (first|((with_reducible refine gate_dst (N:=6) rfl ?_);refine bx 6 (cs:=#[.string (⟨#[]⟩:ByteArray),.int .i64 0,.slice none 0 0,.slice none 0 0,.slice none 0 0,.slice none 0 0,.slice none 0 0,.slice none 0 0]) (t:=42) ?_;intro g6 hg wk hbox hb;(try clear z1);(try clear z4);(try clear z5);have U6b:=am (Nat.le_trans Gb.out.top (Nat.le_of_eq hg.symm));have U6x:=am (Nat.le_trans Gx.out.top (Nat.le_of_eq hg.symm));have U6g:=am (Nat.le_trans Gg.out.top (Nat.le_of_eq hg.symm));skip;have B6:=am hbox;have E6:=am (gs hg (bs HB));have N16:=am (gn hg B1.out);have N46:=am (gn hg B4.out);have N56:=am (gn hg B5.out);skip;replace B1:=am (blk_below (ks B1) hb);replace B4:=am (blk_below (ks B4) hb);replace B5:=am (blk_below (ks B5) hb);replace Gb:=am (Gb.out.below hb);replace Gx:=am (Gx.out.below hb);replace Gg:=am (Gg.out.below hb);replace HB:=bq HB hb;clear hb;clear hbox hg;have z6:=cf8 B6)|((with_reducible refine gate_store (t:=42) (p:=6) rfl ?_);refine store_event (t:=42) (p:=6) (v:=?vo6) (w1:=((((((((wk.setCell ⟨g6,0,none⟩ ((.string ng))).setCell ⟨g6,1,none⟩ ((.int .i64 dg))).setCell ⟨g6,2,none⟩ ((.slice A2g l2g.length c2g))).setCell ⟨g6,3,none⟩ ((.slice A3g l3g.length c3g))).setCell ⟨g6,4,none⟩ ((.slice A4g l4g.length c4g))).setCell ⟨g6,5,none⟩ ((.slice A5g l5g.length c5g))).setCell ⟨g6,6,none⟩ ((.slice A6g l6g.length c6g))).setCell ⟨g6,7,none⟩ ((.slice A7g l7g.length c7g)))) ?hg ?ho ?hn ?hr ?_;(case ho=>rfl);(case hg=>rfl);(case hn=>rfl);(case hr=>first|(go_simp;done)|(go_simp;rfl));intro wl hw;clear z6;obtain ⟨hx,hk,hB⟩:=box8 B6.out hw;clear hw;replace HB:=am (hB _ HB.out E6.out);replace Gb:=am (Gb.out.kept hk (fun k_ _ p_ e_=>by have:=U6b.out;omega));replace Gx:=am (Gx.out.kept hk (fun k_ _ p_ e_=>by have:=U6x.out;omega));replace Gg:=am (Gg.out.kept hk (fun k_ _ p_ e_=>by have:=U6g.out;omega));skip;replace B1:=am (blk_kept B1.out hk (fun e_=>N16.out e_));replace B4:=am (blk_kept B4.out hk (fun e_=>N46.out e_));replace B5:=am (blk_kept B5.out hk (fun e_=>N56.out e_));skip;replace B6:=am hx;clear hx hk hB;have z1:=cf8 B1;have z4:=cf8 B4;have z5:=cf8 B5;have z6:=cf8 B6))
 replace H:=bo H;obtain ⟨e1,Ae1,H⟩:=H
 try go_wp2_with (fail)
 go_at_call 9;refine (GG.eq Gg.out Gb.out Ae1.out).mono ?_;rintro e wm ⟨rfl,hb⟩;(try clear z1);(try clear z4);(try clear z5);(try clear z6);replace B1:=am (blk_below (ks B1) hb);replace B4:=am (blk_below (ks B4) hb);replace B5:=am (blk_below (ks B5) hb);replace B6:=am (blk_below (ks B6) hb);replace Gb:=am (Gb.out.below hb);replace Gx:=am (Gx.out.below hb);replace Gg:=am (Gg.out.below hb);replace HB:=bq HB hb;clear hb;have z1:=cf8 B1;have z4:=cf8 B4;have z5:=cf8 B5;have z6:=cf8 B6
 obtain rfl|rfl:=bt e1;rotate_left
 ·replace H:=itF H;cases H
 replace H:=itT H;replace H:=bo H;obtain ⟨⟨ny,dy,l2y,l3y,l4y,l5y,l6y,l7y⟩,Ay,H⟩:=H;dsimp only at H;replace H:=bo H;obtain ⟨e2,Ae2,H⟩:=H
 try go_wp2_with (fail)
 (try clear z1);(try clear z4);(try clear z5);(try clear z6);replace B1:=am (blk_drew B1.out);replace B4:=am (blk_drew B4.out);replace B5:=am (blk_drew B5.out);replace B6:=am (blk_drew B6.out);replace Gb:=am Gb.out.drew;replace Gx:=am Gx.out.drew;replace Gg:=am Gg.out.drew;replace HB:=am (below_drew1 HB.out);refine sta 5 (hb8a B5 (hb8 B1)) (fun hHeld=>?_)
 generalize wm.drew=wn at B1 B4 B5 B6 Gb Gx Gg HB hHeld ⊢
 refine take_ (i:=0) (N:=some 27) (v:=?_) (a':=?_) #[true,false,false,false,false] rfl rfl (by kernel_rfl) (fun _ _ _ h=>h) (Or.inl ⟨by rfl,?_⟩) hHeld ?_ ?_
 rotate_left
 ·rintro w' ⟨s0,s1,s2,s3,s4,s5,s6,s7,s8,s9,s10,s11,s12,s13,s14,s15⟩
  go_simp
  (with_reducible rfl)
 rotate_left
 ·simp only [Act.put,List.setIfInBounds_toArray,List.set_cons_zero,List.set_cons_succ,i64_w,i32_w]
  rfl
 refine take_ (i:=1) (N:=some 28) (v:=?_) (a':=?_) #[true,true,false,false,false] rfl rfl (by kernel_rfl) (fun _ _ _ h=>h) (Or.inl ⟨by rfl,?_⟩) hHeld ?_ ?_
 rotate_left
 ·rintro w' ⟨s0,s1,s2,s3,s4,s5,s6,s7,s8,s9,s10,s11,s12,s13,s14,s15⟩
  go_simp
  (with_reducible rfl)
 rotate_left
 ·simp only [Act.put,List.setIfInBounds_toArray,List.set_cons_zero,List.set_cons_succ,i64_w,i32_w]
  rfl
 refine one_ (i:=2) (N:=some 29) #[true,true,true,false,false] rfl rfl (by kernel_rfl) (by decide) (fun K hK=>?_);refine gA Tryz.func7 #[.agg #[.string a0_0,.int .i64 a0_1,.slice A0_2 l0_2.length c0_2,.slice A0_3 l0_3.length c0_3,.slice A0_4 l0_4.length c0_4,.slice A0_5 l0_5.length c0_5,.slice A0_6 l0_6.length c0_6,.slice A0_7 l0_7.length c0_7]] ?_;refine (laws_toGate.calls k a0_0 a0_1 _ _ l0_2 _ _ l0_3 _ _ l0_4 _ _ l0_5 _ _ l0_6 _ _ l0_7 ny dy l2y l3y l4y l5y l6y l7y _ (Kd.C_below HR0_2.out (bs HB)) HC0_2.out (Kd.C_below HR0_3.out (bs HB)) HC0_3.out (Kd.C_below HR0_4.out (bs HB)) HC0_4.out (Kd.C_below HR0_5.out (bs HB)) HC0_5.out (Kd.C_below HR0_6.out (bs HB)) HC0_6.out (Kd.C_below HR0_7.out (bs HB)) HC0_7.out Ay.out).mono ?_;rintro e wo ⟨v2y,v3y,v4y,v5y,v6y,v7y,rfl,q2,q3,q4,q5,q6,q7,hb⟩;obtain ⟨A2y,c2y,e_⟩:=Kd.S_slice q2;subst e_;obtain ⟨A3y,c3y,e_⟩:=Kd.R_slice q3;subst e_;obtain ⟨A4y,c4y,e_⟩:=Kd.R_slice q4;subst e_;obtain ⟨A5y,c5y,e_⟩:=Kd.R_slice q5;subst e_;obtain ⟨A6y,c6y,e_⟩:=Kd.R_slice q6;subst e_;obtain ⟨A7y,c7y,e_⟩:=Kd.R_slice q7;subst e_;refine ⟨_,rfl,?_⟩;have Dby:=am Gb.out.top;have Dxy:=am Gx.out.top;have Dgy:=am Gg.out.top;have L1y:=am (blk_lt B1.out);have L4y:=am (blk_lt B4.out);have L5y:=am (blk_lt B5.out);have L6y:=am (blk_lt B6.out);have Gy:=am (GG.make HB.out.size q2 q3 q4 q5 q6 q7);clear q2 q3 q4 q5 q6 q7;(try clear z1);(try clear z4);(try clear z5);(try clear z6);replace B1:=am (blk_below (ks B1) hb);replace B4:=am (blk_below (ks B4) hb);replace B5:=am (blk_below (ks B5) hb);replace B6:=am (blk_below (ks B6) hb);replace Gb:=am (Gb.out.below hb);replace Gx:=am (Gx.out.below hb);replace Gg:=am (Gg.out.below hb);replace HB:=bq HB hb;clear hb;refine hK.out _ _ (hb8a B5 (hb8 B1)).out (fun hHeld=>?_);clear hK K;refine nA 29 ?_;refine one_ (i:=3) (N:=some 30) #[true,true,true,true,false] rfl rfl (by kernel_rfl) (by decide) (fun K hK=>?_);refine gA Tryz.func9 #[.agg #[.string nx,.int .i64 dx,.slice A2x l2x.length c2x,.slice A3x l3x.length c3x,.slice A4x l4x.length c4x,.slice A5x l5x.length c5x,.slice A6x l6x.length c6x,.slice A7x l7x.length c7x],.agg #[.string ny,.int .i64 dy,.slice A2y l2y.length c2y,.slice A3y l3y.length c3y,.slice A4y l4y.length c4y,.slice A5y l5y.length c5y,.slice A6y l6y.length c6y,.slice A7y l7y.length c7y]] ?_;refine (GG.eq Gx.out Gy.out Ae2.out).mono ?_;rintro e wp ⟨rfl,hb⟩;refine ⟨_,rfl,?_⟩;replace B1:=am (blk_below (ks B1) hb);replace B4:=am (blk_below (ks B4) hb);replace B5:=am (blk_below (ks B5) hb);replace B6:=am (blk_below (ks B6) hb);replace Gb:=am (Gb.out.below hb);replace Gx:=am (Gx.out.below hb);replace Gg:=am (Gg.out.below hb);replace Gy:=am (Gy.out.below hb);replace HB:=bq HB hb;clear hb;refine hK.out _ _ (hb8a B5 (hb8 B1)).out (fun hHeld=>?_);clear hK K;refine nA 30 ?_;refine pure_ (i:=4) (N:=some 31) (v:=?_) (a':=?_) #[true,true,true,true,true] rfl rfl (by kernel_rfl) (fun _ _ _ h=>h) (Or.inl ⟨by rfl,?_⟩) ?_ ?_
 rotate_left
 ·intro w'
  go_simp
  (with_reducible rfl)
 rotate_left
 ·simp only [Act.put,List.setIfInBounds_toArray,List.set_cons_zero,List.set_cons_succ,i64_w,i32_w]
  rfl
 refine done_ (by kernel_rfl) ?_;clear hHeld;clear Gy
 obtain rfl|rfl:=bt e2;rotate_left
 ·replace H:=itF H;cases H
 replace H:=itT H;have z1:=cf8 B1;have z4:=cf8 B4;have z5:=cf8 B5;have z6:=cf8 B6;replace H:=bo H;obtain ⟨⟨m0,r2m0,r3m0,r4m0,r5m0,r6m0,r7m0⟩,Am0,H⟩:=H;dsimp only at H
 try go_wp2_with (fail)
 go_at_call 10;refine (laws_markGate.calls k nx dx _ _ _ _ _ _ _ _ l2x l3x l4x l5x l6x l7x 1 m0 r2m0 r3m0 r4m0 r5m0 r6m0 r7m0 w _ HB.out Gx.out Am0.out).mono ?_;rintro e wq ⟨rfl,hG,hb,hk⟩;(try clear z1);(try clear z4);(try clear z5);(try clear z6);replace Gb:=am (Gb.out.kept hk (fun k_ p_ q_ s_=>by have:=Dbx.out;omega));replace Gg:=am (Gg.out.kept hk (fun k_ p_ q_ s_=>by have:=Dxg.out;omega));replace B1:=am (blk_kept B1.out hk (fun s_=>by have:=L1x.out;omega));replace B4:=am (blk_kept B4.out hk (fun s_=>by have:=L4x.out;omega));replace B5:=am (blk_kept B5.out hk (fun s_=>by have:=U5x.out;omega));replace B6:=am (blk_kept B6.out hk (fun s_=>by have:=U6x.out;omega));replace Gx:=am hG;replace HB:=am hb;clear hG hb hk;have z1:=cf8 B1;have z4:=cf8 B4;have z5:=cf8 B5;have z6:=cf8 B6;clear Gx
 revert H;refine id2 ?_ ?_;· intro _ H;cases H
 intro c1 H;clear B5;(try clear z5);replace H:=bo H;obtain ⟨e3,Ae3,H⟩:=H
 try go_wp2_with (fail)
 go_at_call 9;refine (GG.eq Gg.out Gb.out Ae3.out).mono ?_;rintro e wr ⟨rfl,hb⟩;(try clear z1);(try clear z4);(try clear z6);replace B1:=am (blk_below (ks B1) hb);replace B4:=am (blk_below (ks B4) hb);replace B6:=am (blk_below (ks B6) hb);replace Gb:=am (Gb.out.below hb);replace Gg:=am (Gg.out.below hb);replace HB:=bq HB hb;clear hb;have z1:=cf8 B1;have z4:=cf8 B4;have z6:=cf8 B6
 obtain rfl|rfl:=bt e3;rotate_left
 ·replace H:=itF H;cases H
 replace H:=itT H;replace H:=bo H;obtain ⟨⟨m1,r2m1,r3m1,r4m1,r5m1,r6m1,r7m1⟩,Am1,H⟩:=H;dsimp only at H
 try go_wp2_with (fail)
 go_at_call 10;refine (laws_markGate.calls k ng dg _ _ _ _ _ _ _ _ l2g l3g l4g l5g l6g l7g 1 m1 r2m1 r3m1 r4m1 r5m1 r6m1 r7m1 w _ HB.out Gg.out Am1.out).mono ?_;rintro e ws ⟨rfl,hG,hb,hk⟩;(try clear z1);(try clear z4);(try clear z6);replace Gb:=am (Gb.out.kept hk (fun k_ p_ q_ s_=>by have:=Dbg.out;omega));replace B1:=am (blk_kept B1.out hk (fun s_=>by have:=L1g.out;omega));replace B4:=am (blk_kept B4.out hk (fun s_=>by have:=L4g.out;omega));replace B6:=am (blk_kept B6.out hk (fun s_=>by have:=U6g.out;omega));replace Gg:=am hG;replace HB:=am hb;clear hG hb hk;have z1:=cf8 B1;have z4:=cf8 B4;have z6:=cf8 B6;replace H:=bo H;obtain ⟨q1,Aq1,H⟩:=H
 try go_wp2_with (fail)
 go_at_call 11;refine calls_of_args (args':=#[.agg #[.string ng,.int .i64 dg,.slice A2g r2m1.length c2g,.slice A3g r3m1.length c3g,.slice A4g r4m1.length c4g,.slice A5g r5m1.length c5g,.slice A6g r6m1.length c6g,.slice A7g r7m1.length c7g],.int .i64 1]) (by rw [Gg.out.e2,Gg.out.e3,Gg.out.e4,Gg.out.e5,Gg.out.e6,Gg.out.e7]) ?_;refine (laws_heldGate.calls k ng dg _ _ r2m1 _ _ r3m1 _ _ r4m1 _ _ r5m1 _ _ r6m1 _ _ r7m1 1 q1 _ Gg.out.c2 Gg.out.d2 Gg.out.c3 Gg.out.d3 Gg.out.c4 Gg.out.d4 Gg.out.c5 Gg.out.d5 Gg.out.c6 Gg.out.d6 Gg.out.c7 Gg.out.d7 Aq1.out).mono ?_;rintro e wt ⟨rfl,hb⟩;(try clear z1);(try clear z4);(try clear z6);replace B1:=am (blk_below (ks B1) hb);replace B4:=am (blk_below (ks B4) hb);replace B6:=am (blk_below (ks B6) hb);replace Gb:=am (Gb.out.below hb);replace Gg:=am (Gg.out.below hb);replace HB:=bq HB hb;clear hb;have z1:=cf8 B1;have z4:=cf8 B4;have z6:=cf8 B6
 revert H;refine id2 ?_ ?_;· intro _ H;cases H
 intro cq1 H;revert H;refine ie1 ?_;intro dq1 fq1 H;replace H:=bo H;obtain ⟨⟨nz,dz,l2z,l3z,l4z,l5z,l6z,l7z⟩,Az,H⟩:=H;dsimp only at H
 try go_wp2_with (fail)
 go_at_call 7;refine (laws_toGate.calls k a0_0 a0_1 _ _ l0_2 _ _ l0_3 _ _ l0_4 _ _ l0_5 _ _ l0_6 _ _ l0_7 nz dz l2z l3z l4z l5z l6z l7z _ (Kd.C_below HR0_2.out (bs HB)) HC0_2.out (Kd.C_below HR0_3.out (bs HB)) HC0_3.out (Kd.C_below HR0_4.out (bs HB)) HC0_4.out (Kd.C_below HR0_5.out (bs HB)) HC0_5.out (Kd.C_below HR0_6.out (bs HB)) HC0_6.out (Kd.C_below HR0_7.out (bs HB)) HC0_7.out Az.out).mono ?_;rintro e wu ⟨v2z,v3z,v4z,v5z,v6z,v7z,rfl,q2,q3,q4,q5,q6,q7,hb⟩;obtain ⟨A2z,c2z,e_⟩:=Kd.S_slice q2;subst e_;obtain ⟨A3z,c3z,e_⟩:=Kd.R_slice q3;subst e_;obtain ⟨A4z,c4z,e_⟩:=Kd.R_slice q4;subst e_;obtain ⟨A5z,c5z,e_⟩:=Kd.R_slice q5;subst e_;obtain ⟨A6z,c6z,e_⟩:=Kd.R_slice q6;subst e_;obtain ⟨A7z,c7z,e_⟩:=Kd.R_slice q7;subst e_;have Dbz:=am Gb.out.top;have Dgz:=am Gg.out.top;have L1z:=am (blk_lt B1.out);have L4z:=am (blk_lt B4.out);have L6z:=am (blk_lt B6.out);have Gz:=am (GG.make HB.out.size q2 q3 q4 q5 q6 q7);clear q2 q3 q4 q5 q6 q7;(try clear z1);(try clear z4);(try clear z6);replace B1:=am (blk_below (ks B1) hb);replace B4:=am (blk_below (ks B4) hb);replace B6:=am (blk_below (ks B6) hb);replace Gb:=am (Gb.out.below hb);replace Gg:=am (Gg.out.below hb);replace HB:=bq HB hb;clear hb;have z1:=cf8 B1;have z4:=cf8 B4;have z6:=cf8 B6;replace H:=bo H;obtain ⟨⟨nh,dh,l2h,l3h,l4h,l5h,l6h,l7h⟩,Ah,H⟩:=H;dsimp only at H
 try go_wp2_with (fail)
 go_at_call 8;refine (impl_GateNext.calls k nz dz _ _ l2z _ _ l3z _ _ l4z _ _ l5z _ _ l6z _ _ l7z nh dh l2h l3h l4h l5h l6h l7h _ Gz.out.c2 Gz.out.d2 Gz.out.c3 Gz.out.d3 Gz.out.c4 Gz.out.d4 Gz.out.c5 Gz.out.d5 Gz.out.c6 Gz.out.d6 Gz.out.c7 Gz.out.d7 Ah.out).mono ?_;rintro e wv ⟨v2h,v3h,v4h,v5h,v6h,v7h,rfl,q2,q3,q4,q5,q6,q7,hb⟩;obtain ⟨A2h,c2h,e_⟩:=Kd.S_slice q2;subst e_;obtain ⟨A3h,c3h,e_⟩:=Kd.R_slice q3;subst e_;obtain ⟨A4h,c4h,e_⟩:=Kd.R_slice q4;subst e_;obtain ⟨A5h,c5h,e_⟩:=Kd.R_slice q5;subst e_;obtain ⟨A6h,c6h,e_⟩:=Kd.R_slice q6;subst e_;obtain ⟨A7h,c7h,e_⟩:=Kd.R_slice q7;subst e_;have Dbh:=am Gb.out.top;have Dgh:=am Gg.out.top;have Dzh:=am Gz.out.top;have L1h:=am (blk_lt B1.out);have L4h:=am (blk_lt B4.out);have L6h:=am (blk_lt B6.out);have Gh:=am (GG.make HB.out.size q2 q3 q4 q5 q6 q7);clear q2 q3 q4 q5 q6 q7;(try clear z1);(try clear z4);(try clear z6);replace B1:=am (blk_below (ks B1) hb);replace B4:=am (blk_below (ks B4) hb);replace B6:=am (blk_below (ks B6) hb);replace Gb:=am (Gb.out.below hb);replace Gg:=am (Gg.out.below hb);replace Gz:=am (Gz.out.below hb);replace HB:=bq HB hb;clear hb;have z1:=cf8 B1;have z4:=cf8 B4;have z6:=cf8 B6;clear Gz
 try go_wp2_with (first|((with_reducible refine gate_dst (N:=10) rfl ?_);refine bx 10 (cs:=#[.string (⟨#[]⟩:ByteArray),.int .i64 0,.slice none 0 0,.slice none 0 0,.slice none 0 0,.slice none 0 0,.slice none 0 0,.slice none 0 0]) (t:=42) ?_;intro g10 hg ww hbox hb;(try clear z1);(try clear z4);(try clear z6);have U10b:=am (Nat.le_trans Gb.out.top (Nat.le_of_eq hg.symm));have U10g:=am (Nat.le_trans Gg.out.top (Nat.le_of_eq hg.symm));have U10h:=am (Nat.le_trans Gh.out.top (Nat.le_of_eq hg.symm));skip;have B10:=am hbox;have E10:=am (gs hg (bs HB));have N110:=am (gn hg B1.out);have N410:=am (gn hg B4.out);have N610:=am (gn hg B6.out);skip;replace B1:=am (blk_below (ks B1) hb);replace B4:=am (blk_below (ks B4) hb);replace B6:=am (blk_below (ks B6) hb);replace Gb:=am (Gb.out.below hb);replace Gg:=am (Gg.out.below hb);replace Gh:=am (Gh.out.below hb);replace HB:=bq HB hb;clear hb;clear hbox hg;have z10:=cf8 B10)|((with_reducible refine gate_store (t:=42) (p:=10) rfl ?_);refine store_event (t:=42) (p:=10) (v:=?vo10) (w1:=((((((((ww.setCell ⟨g10,0,none⟩ ((.string nh))).setCell ⟨g10,1,none⟩ ((.int .i64 dh))).setCell ⟨g10,2,none⟩ ((.slice A2h l2h.length c2h))).setCell ⟨g10,3,none⟩ ((.slice A3h l3h.length c3h))).setCell ⟨g10,4,none⟩ ((.slice A4h l4h.length c4h))).setCell ⟨g10,5,none⟩ ((.slice A5h l5h.length c5h))).setCell ⟨g10,6,none⟩ ((.slice A6h l6h.length c6h))).setCell ⟨g10,7,none⟩ ((.slice A7h l7h.length c7h)))) ?hg ?ho ?hn ?hr ?_;(case ho=>rfl);(case hg=>rfl);(case hn=>rfl);(case hr=>first|(go_simp;done)|(go_simp;rfl));intro wx hw;clear z10;obtain ⟨hx,hk,hB⟩:=box8 B10.out hw;clear hw;replace HB:=am (hB _ HB.out E10.out);replace Gb:=am (Gb.out.kept hk (fun k_ _ p_ e_=>by have:=U10b.out;omega));replace Gg:=am (Gg.out.kept hk (fun k_ _ p_ e_=>by have:=U10g.out;omega));replace Gh:=am (Gh.out.kept hk (fun k_ _ p_ e_=>by have:=U10h.out;omega));skip;replace B1:=am (blk_kept B1.out hk (fun e_=>N110.out e_));replace B4:=am (blk_kept B4.out hk (fun e_=>N410.out e_));replace B6:=am (blk_kept B6.out hk (fun e_=>N610.out e_));skip;replace B10:=am hx;clear hx hk hB;have z1:=cf8 B1;have z4:=cf8 B4;have z6:=cf8 B6;have z10:=cf8 B10))
 replace H:=bo H;obtain ⟨e4,Ae4,H⟩:=H
 try go_wp2_with (fail)
 go_at_call 9;refine (GG.eq Gh.out Gb.out Ae4.out).mono ?_;rintro e wy ⟨rfl,hb⟩;(try clear z1);(try clear z4);(try clear z6);(try clear z10);replace B1:=am (blk_below (ks B1) hb);replace B4:=am (blk_below (ks B4) hb);replace B6:=am (blk_below (ks B6) hb);replace B10:=am (blk_below (ks B10) hb);replace Gb:=am (Gb.out.below hb);replace Gg:=am (Gg.out.below hb);replace Gh:=am (Gh.out.below hb);replace HB:=bq HB hb;clear hb;have z1:=cf8 B1;have z4:=cf8 B4;have z6:=cf8 B6;have z10:=cf8 B10
 obtain rfl|rfl:=bt e4;rotate_left
 ·replace H:=itF H;cases H
 replace H:=itT H;clear Gh;replace H:=bo H;obtain ⟨q2,Aq2,H⟩:=H
 try go_wp2_with (fail)
 go_at_call 11;refine calls_of_args (args':=#[.agg #[.string ng,.int .i64 dg,.slice A2g r2m1.length c2g,.slice A3g r3m1.length c3g,.slice A4g r4m1.length c4g,.slice A5g r5m1.length c5g,.slice A6g r6m1.length c6g,.slice A7g r7m1.length c7g],.int .i64 1]) (by rw [Gg.out.e2,Gg.out.e3,Gg.out.e4,Gg.out.e5,Gg.out.e6,Gg.out.e7]) ?_;refine (laws_heldGate.calls k ng dg _ _ r2m1 _ _ r3m1 _ _ r4m1 _ _ r5m1 _ _ r6m1 _ _ r7m1 1 q2 _ Gg.out.c2 Gg.out.d2 Gg.out.c3 Gg.out.d3 Gg.out.c4 Gg.out.d4 Gg.out.c5 Gg.out.d5 Gg.out.c6 Gg.out.d6 Gg.out.c7 Gg.out.d7 Aq2.out).mono ?_;rintro e wz ⟨rfl,hb⟩;(try clear z1);(try clear z4);(try clear z6);(try clear z10);replace B1:=am (blk_below (ks B1) hb);replace B4:=am (blk_below (ks B4) hb);replace B6:=am (blk_below (ks B6) hb);replace B10:=am (blk_below (ks B10) hb);replace Gb:=am (Gb.out.below hb);replace Gg:=am (Gg.out.below hb);replace HB:=bq HB hb;clear hb;have z1:=cf8 B1;have z4:=cf8 B4;have z6:=cf8 B6;have z10:=cf8 B10
 revert H;refine id2 ?_ ?_;· intro _ H;cases H
 intro cq2 H;revert H;refine ie1 ?_;intro dq2 fq2 H;obtain rfl:=si H
 go_wp2
 go_ret
 exact ⟨ff,bs HB⟩
end Go.Proofs.YtomoflpgdbjojaaGreat.QN
