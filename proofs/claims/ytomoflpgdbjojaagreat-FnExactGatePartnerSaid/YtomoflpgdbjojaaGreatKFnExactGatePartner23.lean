-- Merged by a program of this session (wip/tool/pack.py) out of its own texts for this claim.
import Derived.Deep.Slices
import Derived.ChangeArms
import Derived.WalkKit
import Derived.ProofKit
import Derived.OpenShut
import Derived.ShutString
import Derived.ChangeOld
import Derived.Below
import Derived.SizedLaws
import Derived.Test.YtomoflpgdbjojaaGreatKFnExactGatePartner22
set_option maxHeartbeats 8000000
set_option maxRecDepth 100000
set_option linter.unusedSimpArgs false
set_option linter.unusedVariables false
namespace Go.Proofs.YtomoflpgdbjojaaGreat.QO
open Go.RowKit Go.Proofs.YtomoflpgdbjojaaGreatW.PrintWords Go.Proofs.YtomoflpgdbjojaaGreatW.PrintLast Go.Proofs.YtomoflpgdbjojaaGreatW.PrintMore
attribute [local go_sem] max2_int min2_int max_two min_two max_three min_three max_four min_four   -- for this text's walks alone
theorem laws_heldBook.calls (k:Nat) (A0_0:Option Addr) (c0_0:Nat) (l0_0:List (S152)) (A0_1:Option Addr) (c0_1:Nat) (l0_1:List (S161)) (a1:Int) (r:Int) (w:World) (hr0_0:Kd.C k152 w A0_0 l0_0.length l0_0) (hc0_0:l0_0.length≤c0_0) (hr0_1:Kd.C k161 w A0_1 l0_1.length l0_1) (hc0_1:l0_1.length≤c0_1) (H:laws_heldBook.f k l0_0 l0_1 a1=some r) :
  Calls Tryz.prog 45 #[.agg #[.slice A0_0 l0_0.length c0_0,.slice A0_1 l0_1.length c0_1],.int .i64 a1] w fun e w'=>e=.returned (.int .i64 r)∧Below w.heap.size w w':=by
 have hu38:=Tryz.underlying38;have HR0_0:=am hr0_0;have HC0_0:=am hc0_0;clear hr0_0 hc0_0;have HR0_1:=am hr0_1;have HC0_1:=am hc0_1;clear hr0_1 hc0_1;have HB:=am (Below.refl w.heap.size w);unfold laws_heldBook.f at H;replace H:=bo H;obtain ⟨t13,A3,H⟩:=H
 go_in
 try go_wp2_with (first|((with_reducible refine gate_dst (N:=2) rfl ?_);refine bz 2 (cs:=#[.slice A0_0 l0_0.length c0_0,.slice A0_1 l0_1.length c0_1]) (t:=38) HB ?_;clear HB;intro gb12 hg w4 BK12 GW12 hb HB;clear hb hg;have hcz5:=cf2 BK12))
 go_at_call 99;(with_reducible refine (laws_heldStockS.calls k _ _ l0_0 a1 t13 _ (Kd.C_below HR0_0.out (bs HB)) HC0_0.out A3.out).mono ?_);rintro e w6 ⟨rfl,hb⟩;replace BK12:=bb BK12 hb;replace HB:=bq HB hb;(try clear hb);(try clear hb2);(try clear hk);(try clear hi)
 revert H;refine id2 ?_ ?_
 ·intro c7b0 H;obtain rfl:=si H
  go_wp2
  go_ret
  exact ⟨ff,bs HB⟩
 ·intro c7b0 H;replace H:=bo H;obtain ⟨t14,A8,H⟩:=H;have hcz9:=cf2 BK12
  try go_wp2_with (fail)
  go_at_call 100;(with_reducible refine (laws_heldOrderLineS.calls k _ _ l0_1 t13 t14 _ (Kd.C_below HR0_1.out (bs HB)) HC0_1.out A8.out).mono ?_);rintro e w10 ⟨rfl,hb⟩;replace BK12:=bb BK12 hb;replace HB:=bq HB hb;(try clear hb);(try clear hb2);(try clear hk);(try clear hi)
  revert H;refine id2 ?_ ?_
  ·intro c11b0 H;obtain rfl:=si H
   go_wp2
   go_ret
   exact ⟨ff,bs HB⟩
  ·intro c11b0 H;obtain rfl:=si H
   go_wp2
   go_ret
   exact ⟨ff,bs HB⟩
theorem laws_heldDiffS.calls (k:Nat) (A0:Option Addr) (c0:Nat) (l0:List (S118)) (a1:Int) (r:Int) (w:World) (hr0:Kd.C k118 w A0 l0.length l0) (hc0:l0.length≤c0) (h:laws_heldDiffS.f k l0 a1=some r) :
  Calls Tryz.prog 46 #[.slice A0 l0.length c0,.int .i64 a1] w fun e w'=>e=.returned (.int .i64 r)∧Below w.heap.size w w':=by
 have HB:=am (Below.refl w.heap.size w);have HR0:=am hr0;have H':=am (show laws_heldDiffS.l0 k l0 a1 0=some r from h);clear h hr0 hc0
 go_in
 go_wp2
 go_loopg [1,5] k (fun kq v1 v5 w'=>∃ (x1:Int) (x5:Int),v1=.int .i64 x1∧v5=.int .i64 x5∧Aside0 (laws_heldDiffS.l0 kq l0 x1 x5=some r)∧Aside0 (kq≤k)∧Aside0 (Below w.heap.size w w'))
 case atStart=>exact ⟨a1,0,rfl,rfl,H',⟨Nat.le_refl _⟩,HB⟩
 case round =>
  clear H';obtain ⟨x1,x5,rfl,rfl,HA,HK1,HB⟩:=hrel
  cases gk with
  | zero=>exact absurd HA.out (by simp [laws_heldDiffS.l0])
  | succ k1 =>
   have H:=HA.out;clear HA;simp only [laws_heldDiffS.l0] at H
   revert H;refine id2 ?_ ?_
   ·intro c3b0 H
    revert H;refine id1 ?_
    intro c4b0 H;have p1:0≤(x5:Int):=oa;have q1:x5<(l0.length:Int):=oa;obtain ⟨ad,ead,g0,g1,g2,g3,g4,g5⟩:=at_T118 HR0.out x5 p1 q1;cases ead;replace p1:=eq_true p1;replace q1:=eq_true q1;have G0:=am g0;clear g0;have G1:=am g1;clear g1;have G2:=am g2;clear g2;have G3:=am g3;clear g3;have G4:=am g4;clear g4;have G5:=am g5;clear g5
    try go_upto_region 4 with (fail)
    have hx:=cb HB G0.out
    revert H;refine ie1 ?_;intro c0b0 c0b1 H
    try go_upto_region 7 with (fail)
    replace H:=bo H;obtain ⟨t1,A1,H⟩:=H;revert H;refine ie1 ?_;intro c1b0 c1b1 H;replace HB:=am (below_drew1 HB.out);refine sta 8 (hc (cb HB G1.out)) (fun hHeld=>?_);refine with_tabW (show rtab .any (opsOf Tryz.f46 7)=laws_heldT from by kernel_rfl) (show waitsOk laws_heldT.2 laws_heldB=true from by kernel_rfl) (fun HT_ HW_=>?_)
    generalize wr.drew=w1a at HB hHeld ⊢
    have hx:=cb HB G1.out;refine pz4 0 ?_;refine pz1 5 ?_;refine ta 4 ?_;refine oA 6 27 HT_ (fun K hK=>?_);refine gA Tryz.func94 #[.int .i64 (wrap64 (x1+1))] ?_;(with_reducible refine (laws_markText.calls k1 (wrap64 (x1+1)) t1 _ A1.out).mono ?_);rintro e w1b ⟨rfl,hb⟩;refine ⟨_,rfl,?_⟩;replace HB:=bq HB hb;clear hb hx;refine hK.out _ _ (hc (cb HB G1.out)).out (fun hHeld=>?_);clear hK K hHeld;refine nA 27 ?_;refine pz1 7 ?_;refine done_ (done_of HT_.out (by kernel_rfl)) ?_;clear HT_ HW_
    try go_upto_region 10 with (fail)
    replace H:=bo H;obtain ⟨t2,A2,H⟩:=H;revert H;refine ie1 ?_;intro c2b0 c2b1 H;replace HB:=am (below_drew1 HB.out);refine sta 8 (hc (cb HB G2.out)) (fun hHeld=>?_);refine with_tabW (show rtab .any (opsOf Tryz.f46 10)=laws_heldT from by kernel_rfl) (show waitsOk laws_heldT.2 laws_heldB=true from by kernel_rfl) (fun HT_ HW_=>?_)
    generalize w1b.drew=w2a at HB hHeld ⊢
    have hx:=cb HB G2.out;refine pz4 0 ?_;refine pz1 5 ?_;refine ta 4 ?_;refine oA 6 37 HT_ (fun K hK=>?_);refine gA Tryz.func94 #[.int .i64 (wrap64 ((wrap64 (x1+1))+1))] ?_;(with_reducible refine (laws_markText.calls k1 (wrap64 ((wrap64 (x1+1))+1)) t2 _ A2.out).mono ?_);rintro e w2b ⟨rfl,hb⟩;refine ⟨_,rfl,?_⟩;replace HB:=bq HB hb;clear hb hx;refine hK.out _ _ (hc (cb HB G2.out)).out (fun hHeld=>?_);clear hK K hHeld;refine nA 37 ?_;refine pz1 7 ?_;refine done_ (done_of HT_.out (by kernel_rfl)) ?_;clear HT_ HW_
    try go_upto_region 13 with (fail)
    have hx:=cb HB G3.out
    revert H;refine ie1 ?_;intro c3b0 c3b1 H
    try go_upto_region 16 with (fail)
    replace H:=bo H;obtain ⟨t4,A4,H⟩:=H;revert H;refine ie1 ?_;intro c4b0 c4b1 H;replace HB:=am (below_drew1 HB.out);refine sta 8 (hc (cb HB G4.out)) (fun hHeld=>?_);refine with_tabW (show rtab .any (opsOf Tryz.f46 16)=laws_heldT from by kernel_rfl) (show waitsOk laws_heldT.2 laws_heldB=true from by kernel_rfl) (fun HT_ HW_=>?_)
    generalize w2b.drew=w4a at HB hHeld ⊢
    have hx:=cb HB G4.out;refine pz4 0 ?_;refine pz1 5 ?_;refine ta 4 ?_;refine oA 6 56 HT_ (fun K hK=>?_);refine gA Tryz.func94 #[.int .i64 (wrap64 ((wrap64 ((wrap64 ((wrap64 (x1+1))+1))+1))+1))] ?_;(with_reducible refine (laws_markText.calls k1 (wrap64 ((wrap64 ((wrap64 ((wrap64 (x1+1))+1))+1))+1)) t4 _ A4.out).mono ?_);rintro e w4b ⟨rfl,hb⟩;refine ⟨_,rfl,?_⟩;replace HB:=bq HB hb;clear hb hx;refine hK.out _ _ (hc (cb HB G4.out)).out (fun hHeld=>?_);clear hK K hHeld;refine nA 56 ?_;refine pz1 7 ?_;refine done_ (done_of HT_.out (by kernel_rfl)) ?_;clear HT_ HW_
    try go_upto_region 19 with (fail)
    have hx:=cb HB G5.out
    revert H;refine ie1 ?_;intro c5b0 c5b1 H
    have H':=am H;clear H
    try go_wp2
    go_roundg k1
    case measure=>have:=HK1.out;omega
    case rel=>exact ⟨wrap64 ((wrap64 ((wrap64 ((wrap64 ((wrap64 ((wrap64 (x1+1))+1))+1))+1))+1))+1),wrap64 (x5+1),fg,fg,H',⟨by have:=HK1.out;omega⟩,⟨bs HB⟩⟩
   ·intro c3b0 H;obtain rfl:=si H
    go_wp2
    go_ret
    exact ⟨ff,bs HB⟩
theorem laws_heldOutS.calls (k:Nat) (A0:Option Addr) (c0:Nat) (l0:List (S120)) (a1:Int) (r:Int) (w:World) (hr0:Kd.C k120 w A0 l0.length l0) (hc0:l0.length≤c0) (h:laws_heldOutS.f k l0 a1=some r) :
  Calls Tryz.prog 47 #[.slice A0 l0.length c0,.int .i64 a1] w fun e w'=>e=.returned (.int .i64 r)∧Below w.heap.size w w':=by
 have HB:=am (Below.refl w.heap.size w);have HR0:=am hr0;have H':=am (show laws_heldOutS.l0 k l0 a1 0=some r from h);clear h hr0 hc0
 go_in
 go_wp2
 go_loopg [1,5] k (fun kq v1 v5 w'=>∃ (x1:Int) (x5:Int),v1=.int .i64 x1∧v5=.int .i64 x5∧Aside0 (laws_heldOutS.l0 kq l0 x1 x5=some r)∧Aside0 (kq≤k)∧Aside0 (Below w.heap.size w w'))
 case atStart=>exact ⟨a1,0,rfl,rfl,H',⟨Nat.le_refl _⟩,HB⟩
 case round =>
  clear H';obtain ⟨x1,x5,rfl,rfl,HA,HK1,HB⟩:=hrel
  cases gk with
  | zero=>exact absurd HA.out (by simp [laws_heldOutS.l0])
  | succ k1 =>
   have H:=HA.out;clear HA;simp only [laws_heldOutS.l0] at H
   revert H;refine id2 ?_ ?_
   ·intro c3b0 H
    revert H;refine id1 ?_
    intro c4b0 H;have p1:0≤(x5:Int):=oa;have q1:x5<(l0.length:Int):=oa;obtain ⟨ad,ead,g0,g1,g2,g3,g4⟩:=at_T120 HR0.out x5 p1 q1;cases ead;replace p1:=eq_true p1;replace q1:=eq_true q1;have G0:=am g0;clear g0;have G1:=am g1;clear g1;have G2:=am g2;clear g2;have G3:=am g3;clear g3;have G4:=am g4;clear g4
    try go_upto_region 4 with (fail)
    replace H:=bo H;obtain ⟨t0,A0,H⟩:=H;revert H;refine ie1 ?_;intro c0b0 c0b1 H;replace HB:=am (below_drew1 HB.out);refine sta 8 (hc (cb HB G0.out)) (fun hHeld=>?_);refine with_tabW (show rtab .any (opsOf Tryz.f47 4)=laws_heldT from by kernel_rfl) (show waitsOk laws_heldT.2 laws_heldB=true from by kernel_rfl) (fun HT_ HW_=>?_)
    generalize wr.drew=w0a at HB hHeld ⊢
    have hx:=cb HB G0.out;refine pz4 0 ?_;refine pz1 5 ?_;refine ta 4 ?_;refine oA 6 18 HT_ (fun K hK=>?_);refine gA Tryz.func94 #[.int .i64 x1] ?_;(with_reducible refine (laws_markText.calls k1 x1 t0 _ A0.out).mono ?_);rintro e w0b ⟨rfl,hb⟩;refine ⟨_,rfl,?_⟩;replace HB:=bq HB hb;clear hb hx;refine hK.out _ _ (hc (cb HB G0.out)).out (fun hHeld=>?_);clear hK K hHeld;refine nA 18 ?_;refine pz1 7 ?_;refine done_ (done_of HT_.out (by kernel_rfl)) ?_;clear HT_ HW_
    try go_upto_region 7 with (fail)
    have hx:=cb HB G1.out
    revert H;refine ie1 ?_;intro c1b0 c1b1 H
    try go_upto_region 10 with (fail)
    replace H:=bo H;obtain ⟨t2,A2,H⟩:=H;revert H;refine ie1 ?_;intro c2b0 c2b1 H;replace HB:=am (below_drew1 HB.out);refine sta 8 (hc (cb HB G2.out)) (fun hHeld=>?_);refine with_tabW (show rtab .any (opsOf Tryz.f47 10)=laws_heldT from by kernel_rfl) (show waitsOk laws_heldT.2 laws_heldB=true from by kernel_rfl) (fun HT_ HW_=>?_)
    generalize w0b.drew=w2a at HB hHeld ⊢
    have hx:=cb HB G2.out;refine pz4 0 ?_;refine pz1 5 ?_;refine ta 4 ?_;refine oA 6 37 HT_ (fun K hK=>?_);refine gA Tryz.func94 #[.int .i64 (wrap64 ((wrap64 (x1+1))+1))] ?_;(with_reducible refine (laws_markText.calls k1 (wrap64 ((wrap64 (x1+1))+1)) t2 _ A2.out).mono ?_);rintro e w2b ⟨rfl,hb⟩;refine ⟨_,rfl,?_⟩;replace HB:=bq HB hb;clear hb hx;refine hK.out _ _ (hc (cb HB G2.out)).out (fun hHeld=>?_);clear hK K hHeld;refine nA 37 ?_;refine pz1 7 ?_;refine done_ (done_of HT_.out (by kernel_rfl)) ?_;clear HT_ HW_
    try go_upto_region 13 with (fail)
    have hx:=cb HB G3.out
    revert H;refine ie1 ?_;intro c3b0 c3b1 H
    try go_upto_region 16 with (fail)
    have hx:=cb HB G4.out
    revert H;refine ie1 ?_;intro c4b0 c4b1 H
    have H':=am H;clear H
    try go_wp2
    go_roundg k1
    case measure=>have:=HK1.out;omega
    case rel=>exact ⟨wrap64 ((wrap64 ((wrap64 ((wrap64 ((wrap64 (x1+1))+1))+1))+1))+1),wrap64 (x5+1),fg,fg,H',⟨by have:=HK1.out;omega⟩,⟨bs HB⟩⟩
   ·intro c3b0 H;obtain rfl:=si H
    go_wp2
    go_ret
    exact ⟨ff,bs HB⟩
theorem laws_heldGate.calls (k:Nat) (a0_0:ByteArray) (a0_1:Int) (A0_2:Option Addr) (c0_2:Nat) (l0_2:List (S83)) (A0_3:Option Addr) (c0_3:Nat) (l0_3:List (S114)) (A0_4:Option Addr) (c0_4:Nat) (l0_4:List (S152)) (A0_5:Option Addr) (c0_5:Nat) (l0_5:List (S161)) (A0_6:Option Addr) (c0_6:Nat) (l0_6:List (S118)) (A0_7:Option Addr) (c0_7:Nat) (l0_7:List (S120)) (a1:Int) (r:Int) (w:World) (hr0_2:Kd.C k83 w A0_2 l0_2.length l0_2) (hc0_2:l0_2.length≤c0_2) (hr0_3:Kd.C k114 w A0_3 l0_3.length l0_3) (hc0_3:l0_3.length≤c0_3) (hr0_4:Kd.C k152 w A0_4 l0_4.length l0_4) (hc0_4:l0_4.length≤c0_4) (hr0_5:Kd.C k161 w A0_5 l0_5.length l0_5) (hc0_5:l0_5.length≤c0_5) (hr0_6:Kd.C k118 w A0_6 l0_6.length l0_6) (hc0_6:l0_6.length≤c0_6) (hr0_7:Kd.C k120 w A0_7 l0_7.length l0_7) (hc0_7:l0_7.length≤c0_7) (H:laws_heldGate.f k a0_0 a0_1 l0_2 l0_3 l0_4 l0_5 l0_6 l0_7 a1=some r) :
  Calls Tryz.prog 11 #[.agg #[.string a0_0,.int .i64 a0_1,.slice A0_2 l0_2.length c0_2,.slice A0_3 l0_3.length c0_3,.slice A0_4 l0_4.length c0_4,.slice A0_5 l0_5.length c0_5,.slice A0_6 l0_6.length c0_6,.slice A0_7 l0_7.length c0_7],.int .i64 a1] w fun e w'=>e=.returned (.int .i64 r)∧Below w.heap.size w w':=by
 have hu42:=Tryz.underlying42;have hu38:=Tryz.underlying38;have HR0_2:=am hr0_2;have HC0_2:=am hc0_2;clear hr0_2 hc0_2;have HR0_3:=am hr0_3;have HC0_3:=am hc0_3;clear hr0_3 hc0_3;have HR0_4:=am hr0_4;have HC0_4:=am hc0_4;clear hr0_4 hc0_4;have HR0_5:=am hr0_5;have HC0_5:=am hc0_5;clear hr0_5 hc0_5;have HR0_6:=am hr0_6;have HC0_6:=am hc0_6;clear hr0_6 hc0_6;have HR0_7:=am hr0_7;have HC0_7:=am hc0_7;clear hr0_7 hc0_7;have HB:=am (Below.refl w.heap.size w);unfold laws_heldGate.f at H;replace H:=bo H;obtain ⟨t25,A3,H⟩:=H
 go_in
 try go_wp2_with (first|((with_reducible refine gate_dst (N:=2) rfl ?_);refine bz 2 (cs:=#[.string a0_0,.int .i64 a0_1,.slice A0_2 l0_2.length c0_2,.slice A0_3 l0_3.length c0_3,.slice A0_4 l0_4.length c0_4,.slice A0_5 l0_5.length c0_5,.slice A0_6 l0_6.length c0_6,.slice A0_7 l0_7.length c0_7]) (t:=42) HB ?_;clear HB;intro gb24 hg w4 BK24 GW24 hb HB;clear hb hg;have hcz5:=cf8 BK24))
 go_at_call 43;(with_reducible refine (laws_heldPartnerS.calls k _ _ l0_2 a1 t25 _ (Kd.C_below HR0_2.out (bs HB)) HC0_2.out A3.out).mono ?_);rintro e w6 ⟨rfl,hb⟩;replace BK24:=bb BK24 hb;replace HB:=bq HB hb;(try clear hb);(try clear hb2);(try clear hk);(try clear hi)
 revert H;refine id2 ?_ ?_
 ·intro c7b0 H;obtain rfl:=si H
  go_wp2
  go_ret
  exact ⟨ff,bs HB⟩
 ·intro c7b0 H;replace H:=bo H;obtain ⟨t26,A8,H⟩:=H;have hcz9:=cf8 BK24
  try go_wp2_with (fail)
  go_at_call 44;(with_reducible refine (laws_heldCrossS.calls k _ _ l0_3 t25 t26 _ (Kd.C_below HR0_3.out (bs HB)) HC0_3.out A8.out).mono ?_);rintro e w10 ⟨rfl,hb⟩;replace BK24:=bb BK24 hb;replace HB:=bq HB hb;(try clear hb);(try clear hb2);(try clear hk);(try clear hi)
  revert H;refine id2 ?_ ?_
  ·intro c11b0 H;obtain rfl:=si H
   go_wp2
   go_ret
   exact ⟨ff,bs HB⟩
  ·intro c11b0 H;replace H:=bo H;obtain ⟨t27,A12,H⟩:=H;have hcz13:=cf8 BK24
   try go_wp2_with (fail)
   go_at_call 45;(with_reducible refine (laws_heldBook.calls k _ _ l0_4 _ _ l0_5 t26 t27 _ (Kd.C_below HR0_4.out (bs HB)) HC0_4.out (Kd.C_below HR0_5.out (bs HB)) HC0_5.out A12.out).mono ?_);rintro e w14 ⟨rfl,hb⟩;replace BK24:=bb BK24 hb;replace HB:=bq HB hb;(try clear hb);(try clear hb2);(try clear hk);(try clear hi)
   revert H;refine id2 ?_ ?_
   ·intro c15b0 H;obtain rfl:=si H
    go_wp2
    go_ret
    exact ⟨ff,bs HB⟩
   ·intro c15b0 H;replace H:=bo H;obtain ⟨t28,A16,H⟩:=H;have hcz17:=cf8 BK24
    try go_wp2_with (fail)
    go_at_call 46;(with_reducible refine (laws_heldDiffS.calls k _ _ l0_6 t27 t28 _ (Kd.C_below HR0_6.out (bs HB)) HC0_6.out A16.out).mono ?_);rintro e w18 ⟨rfl,hb⟩;replace BK24:=bb BK24 hb;replace HB:=bq HB hb;(try clear hb);(try clear hb2);(try clear hk);(try clear hi)
    revert H;refine id2 ?_ ?_
    ·intro c19b0 H;obtain rfl:=si H
     go_wp2
     go_ret
     exact ⟨ff,bs HB⟩
    ·intro c19b0 H;replace H:=bo H;obtain ⟨t29,A20,H⟩:=H;have hcz21:=cf8 BK24
     try go_wp2_with (fail)
     go_at_call 47;(with_reducible refine (laws_heldOutS.calls k _ _ l0_7 t28 t29 _ (Kd.C_below HR0_7.out (bs HB)) HC0_7.out A20.out).mono ?_);rintro e w22 ⟨rfl,hb⟩;replace BK24:=bb BK24 hb;replace HB:=bq HB hb;(try clear hb);(try clear hb2);(try clear hk);(try clear hi)
     revert H;refine id2 ?_ ?_
     ·intro c23b0 H;obtain rfl:=si H
      go_wp2
      go_ret
      exact ⟨ff,bs HB⟩
     ·intro c23b0 H;obtain rfl:=si H
      go_wp2
      go_ret
      exact ⟨ff,bs HB⟩
theorem laws_heldGateOut.calls (k:Nat) (a0_0:ByteArray) (a0_1:Int) (A2:Option Addr) (c2:Nat) (l2:List S83) (A3:Option Addr) (c3:Nat) (l3:List S114) (A4:Option Addr) (c4:Nat) (l4:List S152) (A5:Option Addr) (c5:Nat) (l5:List S161) (A6:Option Addr) (c6:Nat) (l6:List S118) (A7:Option Addr) (c7:Nat) (l7:List S120) (e8:ByteArray) (e9 e10 e11 e12 e13:Int) (a1:Int) (r:Int) (w:World) (hr2:Kd.C k83 w A2 l2.length l2) (hc2:l2.length≤c2) (hr3:Kd.C k114 w A3 l3.length l3) (hc3:l3.length≤c3) (hr4:Kd.C k152 w A4 l4.length l4) (hc4:l4.length≤c4) (hr5:Kd.C k161 w A5 l5.length l5) (hc5:l5.length≤c5) (hr6:Kd.C k118 w A6 l6.length l6) (hc6:l6.length≤c6) (hr7:Kd.C k120 w A7 l7.length l7) (hc7:l7.length≤c7) (H:laws_heldGateOut.f k a0_0 a0_1 l2 l3 l4 l5 l6 l7 e8 e9 e10 e11 e12 e13 a1=some r) :
  Calls Tryz.prog 16 #[.agg #[.string a0_0,.int .i64 a0_1,.slice A2 l2.length c2,.slice A3 l3.length c3,.slice A4 l4.length c4,.slice A5 l5.length c5,.slice A6 l6.length c6,.slice A7 l7.length c7,.string e8,.int .i64 e9,.int .i64 e10,.int .i64 e11,.int .i64 e12,.int .i64 e13],.int .i64 a1] w fun e w'=>e=.returned (.int .i64 r)∧Below w.heap.size w w':=by
 have hu:=Tryz.underlying42;have hu2:=Tryz.underlying49;have HB:=am (Below.refl w.heap.size w);replace H:=bo H;obtain ⟨q,A1,H⟩:=H
 go_in
 try go_wp2_with (first|((with_reducible refine gate_dst (N:=2) rfl ?_);refine bx 2 (cs:=#[.string a0_0,.int .i64 a0_1,.slice A2 l2.length c2,.slice A3 l3.length c3,.slice A4 l4.length c4,.slice A5 l5.length c5,.slice A6 l6.length c6,.slice A7 l7.length c7,.string e8,.int .i64 e9,.int .i64 e10,.int .i64 e11,.int .i64 e12,.int .i64 e13]) (t:=49) ?_;intro gb hg w7 hbox hb;have BK:=am hbox;replace HB:=am (below_step HB.out hb);clear hb hbox hg;have hz:=cf14 BK))
 go_at_call 11;refine (laws_heldGate.calls k a0_0 a0_1 _ _ l2 _ _ l3 _ _ l4 _ _ l5 _ _ l6 _ _ l7 a1 q _ (Kd.C_below hr2 HB.out) hc2 (Kd.C_below hr3 HB.out) hc3 (Kd.C_below hr4 HB.out) hc4 (Kd.C_below hr5 HB.out) hc5 (Kd.C_below hr6 HB.out) hc6 (Kd.C_below hr7 HB.out) hc7 A1.out).mono ?_;rintro e w8 ⟨rfl,hb⟩;replace HB:=bq HB hb;clear hb
 revert H;refine id2 ?_ ?_;· intro _ H;cases H
 intro c1 H;obtain rfl:=si H
 go_wp2
 go_ret
 exact ⟨ff,bs HB⟩
theorem GG.eq {k b loa hia lob hib:Nat} {W:World} {xa xb:ByteArray} {ya yb:Int} {A2a:Option Addr} {n2a c2a:Nat} {l2a:List S83} {A3a:Option Addr} {n3a c3a:Nat} {l3a:List S114} {A4a:Option Addr} {n4a c4a:Nat} {l4a:List S152} {A5a:Option Addr} {n5a c5a:Nat} {l5a:List S161} {A6a:Option Addr} {n6a c6a:Nat} {l6a:List S118} {A7a:Option Addr} {n7a c7a:Nat} {l7a:List S120} {A2b:Option Addr} {n2b c2b:Nat} {l2b:List S83} {A3b:Option Addr} {n3b c3b:Nat} {l3b:List S114} {A4b:Option Addr} {n4b c4b:Nat} {l4b:List S152} {A5b:Option Addr} {n5b c5b:Nat} {l5b:List S161} {A6b:Option Addr} {n6b c6b:Nat} {l6b:List S118} {A7b:Option Addr} {n7b c7b:Nat} {l7b:List S120} {r:Bool} (Ha:GG b loa hia W (.slice A2a n2a c2a) (.slice A3a n3a c3a) (.slice A4a n4a c4a) (.slice A5a n5a c5a) (.slice A6a n6a c6a) (.slice A7a n7a c7a) l2a l3a l4a l5a l6a l7a) (Hb:GG b lob hib W (.slice A2b n2b c2b) (.slice A3b n3b c3b) (.slice A4b n4b c4b) (.slice A5b n5b c5b) (.slice A6b n6b c6b) (.slice A7b n7b c7b) l2b l3b l4b l5b l6b l7b) (h:laws_eqGate.f k xa ya l2a l3a l4a l5a l6a l7a xb yb l2b l3b l4b l5b l6b l7b=some r):Calls Tryz.prog 9 #[.agg #[.string xa,.int .i64 ya,.slice A2a l2a.length c2a,.slice A3a l3a.length c3a,.slice A4a l4a.length c4a,.slice A5a l5a.length c5a,.slice A6a l6a.length c6a,.slice A7a l7a.length c7a],.agg #[.string xb,.int .i64 yb,.slice A2b l2b.length c2b,.slice A3b l3b.length c3b,.slice A4b l4b.length c4b,.slice A5b l5b.length c5b,.slice A6b l6b.length c6b,.slice A7b l7b.length c7b]] W fun e w'=>e=.returned (.bool r)∧Below W.heap.size W w':=laws_eqGate.calls k xa ya _ _ l2a _ _ l3a _ _ l4a _ _ l5a _ _ l6a _ _ l7a xb yb _ _ l2b _ _ l3b _ _ l4b _ _ l5b _ _ l6b _ _ l7b r W Ha.c2 Ha.d2 Ha.c3 Ha.d3 Ha.c4 Ha.d4 Ha.c5 Ha.d5 Ha.c6 Ha.d6 Ha.c7 Ha.d7 Hb.c2 Hb.d2 Hb.c3 Hb.d3 Hb.c4 Hb.d4 Hb.c5 Hb.d5 Hb.c6 Hb.d6 Hb.c7 Hb.d7 h
theorem box14 {W W2:World} {g:Nat} {t:TypeId} {z0 z1 z2 z3 z4 z5 z6 z7 z8 z9 z10 z11 z12 z13 v0 v1 v2 v3 v4 v5 v6 v7 v8 v9 v10 v11 v12 v13:Value} (h:W.heap[g]? = some (.cells #[z0,z1,z2,z3,z4,z5,z6,z7,z8,z9,z10,z11,z12,z13] t (0,0))) (hw:W2=((((((((((((((W.setCell ⟨g,0,none⟩ v0).setCell ⟨g,1,none⟩ v1).setCell ⟨g,2,none⟩ v2).setCell ⟨g,3,none⟩ v3).setCell ⟨g,4,none⟩ v4).setCell ⟨g,5,none⟩ v5).setCell ⟨g,6,none⟩ v6).setCell ⟨g,7,none⟩ v7).setCell ⟨g,8,none⟩ v8).setCell ⟨g,9,none⟩ v9).setCell ⟨g,10,none⟩ v10).setCell ⟨g,11,none⟩ v11).setCell ⟨g,12,none⟩ v12).setCell ⟨g,13,none⟩ v13)):W2.heap[g]? = some (.cells #[v0,v1,v2,v3,v4,v5,v6,v7,v8,v9,v10,v11,v12,v13] t (0,0))∧Kept W W2 (fun k=>k=g)∧∀ w:World,Below w.heap.size w W→w.heap.size≤g→Below w.heap.size w W2:=by
 subst hw
 exact ⟨kp ⟨h⟩,kept14,fun w hb hg=>below_set (below_set (below_set (below_set (below_set (below_set (below_set (below_set (below_set (below_set (below_set (below_set (below_set (below_set (hb) hg) hg) hg) hg) hg) hg) hg) hg) hg) hg) hg) hg) hg) hg⟩
theorem GG.eqO {k b loa hia lob hib:Nat} {W:World} {xa xb:ByteArray} {ya yb:Int} {e8a e8b:ByteArray} {e9a e10a e11a e12a e13a e9b e10b e11b e12b e13b:Int} {A2a:Option Addr} {n2a c2a:Nat} {l2a:List S83} {A3a:Option Addr} {n3a c3a:Nat} {l3a:List S114} {A4a:Option Addr} {n4a c4a:Nat} {l4a:List S152} {A5a:Option Addr} {n5a c5a:Nat} {l5a:List S161} {A6a:Option Addr} {n6a c6a:Nat} {l6a:List S118} {A7a:Option Addr} {n7a c7a:Nat} {l7a:List S120} {A2b:Option Addr} {n2b c2b:Nat} {l2b:List S83} {A3b:Option Addr} {n3b c3b:Nat} {l3b:List S114} {A4b:Option Addr} {n4b c4b:Nat} {l4b:List S152} {A5b:Option Addr} {n5b c5b:Nat} {l5b:List S161} {A6b:Option Addr} {n6b c6b:Nat} {l6b:List S118} {A7b:Option Addr} {n7b c7b:Nat} {l7b:List S120} {r:Bool} (Ha:GG b loa hia W (.slice A2a n2a c2a) (.slice A3a n3a c3a) (.slice A4a n4a c4a) (.slice A5a n5a c5a) (.slice A6a n6a c6a) (.slice A7a n7a c7a) l2a l3a l4a l5a l6a l7a) (Hb:GG b lob hib W (.slice A2b n2b c2b) (.slice A3b n3b c3b) (.slice A4b n4b c4b) (.slice A5b n5b c5b) (.slice A6b n6b c6b) (.slice A7b n7b c7b) l2b l3b l4b l5b l6b l7b) (h:laws_eqGateOut.f k xa ya l2a l3a l4a l5a l6a l7a e8a e9a e10a e11a e12a e13a xb yb l2b l3b l4b l5b l6b l7b e8b e9b e10b e11b e12b e13b=some r):Calls Tryz.prog 14 #[.agg #[.string xa,.int .i64 ya,.slice A2a l2a.length c2a,.slice A3a l3a.length c3a,.slice A4a l4a.length c4a,.slice A5a l5a.length c5a,.slice A6a l6a.length c6a,.slice A7a l7a.length c7a,.string e8a,.int .i64 e9a,.int .i64 e10a,.int .i64 e11a,.int .i64 e12a,.int .i64 e13a],.agg #[.string xb,.int .i64 yb,.slice A2b l2b.length c2b,.slice A3b l3b.length c3b,.slice A4b l4b.length c4b,.slice A5b l5b.length c5b,.slice A6b l6b.length c6b,.slice A7b l7b.length c7b,.string e8b,.int .i64 e9b,.int .i64 e10b,.int .i64 e11b,.int .i64 e12b,.int .i64 e13b]] W fun e w'=>e=.returned (.bool r)∧Below W.heap.size W w':=laws_eqGateOut.calls k xa ya _ _ l2a _ _ l3a _ _ l4a _ _ l5a _ _ l6a _ _ l7a e8a e9a e10a e11a e12a e13a xb yb _ _ l2b _ _ l3b _ _ l4b _ _ l5b _ _ l6b _ _ l7b e8b e9b e10b e11b e12b e13b r W Ha.c2 Ha.d2 Ha.c3 Ha.d3 Ha.c4 Ha.d4 Ha.c5 Ha.d5 Ha.c6 Ha.d6 Ha.c7 Ha.d7 Hb.c2 Hb.d2 Hb.c3 Hb.d3 Hb.c4 Hb.d4 Hb.c5 Hb.d5 Hb.c6 Hb.d6 Hb.c7 Hb.d7 h
theorem laws_FnExactGatePartner.calls (k:Nat) (a0_0:ByteArray) (a0_1:Int) (A0_2:Option Addr) (c0_2:Nat) (l0_2:List S93) (A0_3:Option Addr) (c0_3:Nat) (l0_3:List S96) (A0_4:Option Addr) (c0_4:Nat) (l0_4:List S147) (A0_5:Option Addr) (c0_5:Nat) (l0_5:List S150) (A0_6:Option Addr) (c0_6:Nat) (l0_6:List S101) (A0_7:Option Addr) (c0_7:Nat) (l0_7:List S104) (a1:ByteArray) (r:Bool) (w:World) (hr0_2:Kd.C k93 w A0_2 l0_2.length l0_2) (hc0_2:l0_2.length≤c0_2) (hr0_3:Kd.C k96 w A0_3 l0_3.length l0_3) (hc0_3:l0_3.length≤c0_3) (hr0_4:Kd.C k147 w A0_4 l0_4.length l0_4) (hc0_4:l0_4.length≤c0_4) (hr0_5:Kd.C k150 w A0_5 l0_5.length l0_5) (hc0_5:l0_5.length≤c0_5) (hr0_6:Kd.C k101 w A0_6 l0_6.length l0_6) (hc0_6:l0_6.length≤c0_6) (hr0_7:Kd.C k104 w A0_7 l0_7.length l0_7) (hc0_7:l0_7.length≤c0_7) (H:laws_FnExactGatePartner.f k a0_0 a0_1 l0_2 l0_3 l0_4 l0_5 l0_6 l0_7 a1=some r) :
  Calls Tryz.prog 4 #[.agg #[.string a0_0,.int .i64 a0_1,.slice A0_2 l0_2.length c0_2,.slice A0_3 l0_3.length c0_3,.slice A0_4 l0_4.length c0_4,.slice A0_5 l0_5.length c0_5,.slice A0_6 l0_6.length c0_6,.slice A0_7 l0_7.length c0_7],.string a1] w fun e w'=>e=.returned (.bool r)∧Below w.heap.size w w':=by
 have hu:=Tryz.underlying31;have hu2:=Tryz.underlying42;have hu3:=Tryz.underlying49;have HR0_2:=am hr0_2;have HC0_2:=am hc0_2;clear hr0_2 hc0_2;have HR0_3:=am hr0_3;have HC0_3:=am hc0_3;clear hr0_3 hc0_3;have HR0_4:=am hr0_4;have HC0_4:=am hc0_4;clear hr0_4 hc0_4;have HR0_5:=am hr0_5;have HC0_5:=am hc0_5;clear hr0_5 hc0_5;have HR0_6:=am hr0_6;have HC0_6:=am hc0_6;clear hr0_6 hc0_6;have HR0_7:=am hr0_7;have HC0_7:=am hc0_7;clear hr0_7 hc0_7;have HB:=am (Below.refl w.heap.size w);unfold laws_FnExactGatePartner.f at H
 revert H;refine ip2 ?_ ?_
 ·intro c6 H;have c6b0:decide (1048576<(a1.size:Int))=true:=decide_eq_true c6;have c6b1:decide (1048576<a1.size)=true:=decide_eq_true (by omega);clear c6;obtain rfl:=si H
  go_in
  go_wp2_with (first|((with_reducible refine gate_dst (N:=2) rfl ?_);refine bx 2 (cs:=#[.string a0_0,.int .i64 a0_1,.slice A0_2 l0_2.length c0_2,.slice A0_3 l0_3.length c0_3,.slice A0_4 l0_4.length c0_4,.slice A0_5 l0_5.length c0_5,.slice A0_6 l0_6.length c0_6,.slice A0_7 l0_7.length c0_7]) (t:=31) ?_;intro g1 hg wa hbox hb;have B2:=am hbox;replace HB:=bq HB hb;clear hb hbox hg))
  go_ret
  exact ⟨ff,bs HB⟩
 intro c6 H;have c6b0:decide (1048576<(a1.size:Int))=false:=decide_eq_false c6;have c6b1:decide (1048576<a1.size)=false:=decide_eq_false (by omega);clear c6;replace H:=bo H;obtain ⟨t,Asz,H⟩:=H
 go_in
 try go_wp2_with (first|((with_reducible refine gate_dst (N:=2) rfl ?_);refine bx 2 (cs:=#[.string a0_0,.int .i64 a0_1,.slice A0_2 l0_2.length c0_2,.slice A0_3 l0_3.length c0_3,.slice A0_4 l0_4.length c0_4,.slice A0_5 l0_5.length c0_5,.slice A0_6 l0_6.length c0_6,.slice A0_7 l0_7.length c0_7]) (t:=31) ?_;intro g1 hg wa hbox hb;have B2:=am hbox;replace HB:=bq HB hb;clear hb hbox hg;have z2:=cf8 B2))
 go_at_call 5;refine (laws_szGate.calls k a0_0 a0_1 _ _ l0_2 _ _ l0_3 _ _ l0_4 _ _ l0_5 _ _ l0_6 _ _ l0_7 1048576 t _ (Kd.C_below HR0_2.out (bs HB)) HC0_2.out (Kd.C_below HR0_3.out (bs HB)) HC0_3.out (Kd.C_below HR0_4.out (bs HB)) HC0_4.out (Kd.C_below HR0_5.out (bs HB)) HC0_5.out (Kd.C_below HR0_6.out (bs HB)) HC0_6.out (Kd.C_below HR0_7.out (bs HB)) HC0_7.out Asz.out).mono ?_;rintro e wb ⟨rfl,hb⟩;(try clear z2);replace B2:=am (blk_below (ks B2) hb);replace HB:=bq HB hb;clear hb;have z2:=cf8 B2
 revert H;refine id2 ?_ ?_
 ·intro c0 H;obtain rfl:=si H
  go_wp2
  go_ret
  exact ⟨ff,bs HB⟩
 intro c0 H;replace H:=bo H;obtain ⟨⟨na,da,l2a,l3a,l4a,l5a,l6a,l7a⟩,Aa,H⟩:=H;dsimp only at H
 try go_wp2_with (fail)
 go_at_call 7;refine (laws_toGate.calls k a0_0 a0_1 _ _ l0_2 _ _ l0_3 _ _ l0_4 _ _ l0_5 _ _ l0_6 _ _ l0_7 na da l2a l3a l4a l5a l6a l7a _ (Kd.C_below HR0_2.out (bs HB)) HC0_2.out (Kd.C_below HR0_3.out (bs HB)) HC0_3.out (Kd.C_below HR0_4.out (bs HB)) HC0_4.out (Kd.C_below HR0_5.out (bs HB)) HC0_5.out (Kd.C_below HR0_6.out (bs HB)) HC0_6.out (Kd.C_below HR0_7.out (bs HB)) HC0_7.out Aa.out).mono ?_;rintro e wc ⟨v2a,v3a,v4a,v5a,v6a,v7a,rfl,q2,q3,q4,q5,q6,q7,hb⟩;obtain ⟨A2a,c2a,e_⟩:=Kd.S_slice q2;subst e_;obtain ⟨A3a,c3a,e_⟩:=Kd.R_slice q3;subst e_;obtain ⟨A4a,c4a,e_⟩:=Kd.R_slice q4;subst e_;obtain ⟨A5a,c5a,e_⟩:=Kd.R_slice q5;subst e_;obtain ⟨A6a,c6a,e_⟩:=Kd.R_slice q6;subst e_;obtain ⟨A7a,c7a,e_⟩:=Kd.R_slice q7;subst e_;have L2a:=am (blk_lt B2.out);have Ga:=am (GG.make HB.out.size q2 q3 q4 q5 q6 q7);clear q2 q3 q4 q5 q6 q7;(try clear z2);replace B2:=am (blk_below (ks B2) hb);replace HB:=bq HB hb;clear hb;have z2:=cf8 B2;replace H:=bo H;obtain ⟨⟨nb,db,l2b,l3b,l4b,l5b,l6b,l7b,e8b,e9b,e10b,e11b,e12b,e13b⟩,Ab,H⟩:=H;dsimp only at H
 try go_wp2_with (fail)
 go_at_call 12;refine (spec_GatePartner.calls k na da _ _ l2a _ _ l3a _ _ l4a _ _ l5a _ _ l6a _ _ l7a a1 nb db l2b l3b l4b l5b l6b l7b e8b e9b e10b e11b e12b e13b _ Ga.out.c2 Ga.out.d2 Ga.out.c3 Ga.out.d3 Ga.out.c4 Ga.out.d4 Ga.out.c5 Ga.out.d5 Ga.out.c6 Ga.out.d6 Ga.out.c7 Ga.out.d7 Ab.out).mono ?_;rintro e wd ⟨v2b,v3b,v4b,v5b,v6b,v7b,rfl,q2,q3,q4,q5,q6,q7,hb⟩;obtain ⟨A2b,c2b,e_⟩:=Kd.S_slice q2;subst e_;obtain ⟨A3b,c3b,e_⟩:=Kd.R_slice q3;subst e_;obtain ⟨A4b,c4b,e_⟩:=Kd.R_slice q4;subst e_;obtain ⟨A5b,c5b,e_⟩:=Kd.R_slice q5;subst e_;obtain ⟨A6b,c6b,e_⟩:=Kd.R_slice q6;subst e_;obtain ⟨A7b,c7b,e_⟩:=Kd.R_slice q7;subst e_;have Dab:=am Ga.out.top;have L2b:=am (blk_lt B2.out);have Gb:=am (GG.make HB.out.size q2 q3 q4 q5 q6 q7);clear q2 q3 q4 q5 q6 q7;(try clear z2);replace B2:=am (blk_below (ks B2) hb);replace Ga:=am (Ga.out.below hb);replace HB:=bq HB hb;clear hb;have z2:=cf8 B2;clear Ga
 try go_wp2_with (first|((with_reducible refine gate_dst (N:=6) rfl ?_);refine bx 6 (cs:=#[.string (⟨#[]⟩:ByteArray),.int .i64 0,.slice none 0 0,.slice none 0 0,.slice none 0 0,.slice none 0 0,.slice none 0 0,.slice none 0 0,.string (⟨#[]⟩:ByteArray),.int .i64 0,.int .i64 0,.int .i64 0,.int .i64 0,.int .i64 0]) (t:=49) ?_;intro g6 hg we hbox hb;(try clear z2);have U6b:=am (Nat.le_trans Gb.out.top (Nat.le_of_eq hg.symm));skip;have B6:=am hbox;have E6:=am (gs hg (bs HB));have N26:=am (gn hg B2.out);skip;replace B2:=am (blk_below (ks B2) hb);replace Gb:=am (Gb.out.below hb);replace HB:=bq HB hb;clear hb;clear hbox hg;have z6:=cf14 B6)|((with_reducible refine gate_store (t:=49) (p:=6) rfl ?_);refine store_event (t:=49) (p:=6) (v:=?vo6) (w1:=((((((((((((((we.setCell ⟨g6,0,none⟩ ((.string nb))).setCell ⟨g6,1,none⟩ ((.int .i64 db))).setCell ⟨g6,2,none⟩ ((.slice A2b l2b.length c2b))).setCell ⟨g6,3,none⟩ ((.slice A3b l3b.length c3b))).setCell ⟨g6,4,none⟩ ((.slice A4b l4b.length c4b))).setCell ⟨g6,5,none⟩ ((.slice A5b l5b.length c5b))).setCell ⟨g6,6,none⟩ ((.slice A6b l6b.length c6b))).setCell ⟨g6,7,none⟩ ((.slice A7b l7b.length c7b))).setCell ⟨g6,8,none⟩ ((.string e8b))).setCell ⟨g6,9,none⟩ ((.int .i64 e9b))).setCell ⟨g6,10,none⟩ ((.int .i64 e10b))).setCell ⟨g6,11,none⟩ ((.int .i64 e11b))).setCell ⟨g6,12,none⟩ ((.int .i64 e12b))).setCell ⟨g6,13,none⟩ ((.int .i64 e13b)))) ?hg ?ho ?hn ?hr ?_;(case ho=>rfl);(case hg=>rfl);(case hn=>rfl);(case hr=>first|(go_simp;done)|(go_simp;rfl));intro wf hw;clear z6;obtain ⟨hx,hk,hB⟩:=box14 B6.out hw;clear hw;replace HB:=am (hB _ HB.out E6.out);replace Gb:=am (Gb.out.kept hk (fun k_ _ p_ e_=>by have:=U6b.out;omega));skip;replace B2:=am (blk_kept B2.out hk (fun e_=>N26.out e_));skip;replace B6:=am hx;clear hx hk hB;have z2:=cf8 B2;have z6:=cf14 B6))
 replace H:=bo H;obtain ⟨⟨nx,dx,l2x,l3x,l4x,l5x,l6x,l7x⟩,Ax,H⟩:=H;dsimp only at H
 try go_wp2_with (fail)
 go_at_call 7;refine (laws_toGate.calls k a0_0 a0_1 _ _ l0_2 _ _ l0_3 _ _ l0_4 _ _ l0_5 _ _ l0_6 _ _ l0_7 nx dx l2x l3x l4x l5x l6x l7x _ (Kd.C_below HR0_2.out (bs HB)) HC0_2.out (Kd.C_below HR0_3.out (bs HB)) HC0_3.out (Kd.C_below HR0_4.out (bs HB)) HC0_4.out (Kd.C_below HR0_5.out (bs HB)) HC0_5.out (Kd.C_below HR0_6.out (bs HB)) HC0_6.out (Kd.C_below HR0_7.out (bs HB)) HC0_7.out Ax.out).mono ?_;rintro e wg ⟨v2x,v3x,v4x,v5x,v6x,v7x,rfl,q2,q3,q4,q5,q6,q7,hb⟩;obtain ⟨A2x,c2x,e_⟩:=Kd.S_slice q2;subst e_;obtain ⟨A3x,c3x,e_⟩:=Kd.R_slice q3;subst e_;obtain ⟨A4x,c4x,e_⟩:=Kd.R_slice q4;subst e_;obtain ⟨A5x,c5x,e_⟩:=Kd.R_slice q5;subst e_;obtain ⟨A6x,c6x,e_⟩:=Kd.R_slice q6;subst e_;obtain ⟨A7x,c7x,e_⟩:=Kd.R_slice q7;subst e_;have Dbx:=am Gb.out.top;have L2x:=am (blk_lt B2.out);have L6x:=am (blk_lt B6.out);have Gx:=am (GG.make HB.out.size q2 q3 q4 q5 q6 q7);clear q2 q3 q4 q5 q6 q7;(try clear z2);(try clear z6);replace B2:=am (blk_below (ks B2) hb);replace B6:=am (blk_below (ks B6) hb);replace Gb:=am (Gb.out.below hb);replace HB:=bq HB hb;clear hb;have z2:=cf8 B2;have z6:=cf14 B6
 try go_wp2_with (first|((with_reducible refine gate_dst (N:=7) rfl ?_);refine bx 7 (cs:=#[.string (⟨#[]⟩:ByteArray),.int .i64 0,.slice none 0 0,.slice none 0 0,.slice none 0 0,.slice none 0 0,.slice none 0 0,.slice none 0 0]) (t:=42) ?_;intro g7 hg wh hbox hb;(try clear z2);(try clear z6);have U7b:=am (Nat.le_trans Gb.out.top (Nat.le_of_eq hg.symm));have U7x:=am (Nat.le_trans Gx.out.top (Nat.le_of_eq hg.symm));skip;have B7:=am hbox;have E7:=am (gs hg (bs HB));have N27:=am (gn hg B2.out);have N67:=am (gn hg B6.out);skip;replace B2:=am (blk_below (ks B2) hb);replace B6:=am (blk_below (ks B6) hb);replace Gb:=am (Gb.out.below hb);replace Gx:=am (Gx.out.below hb);replace HB:=bq HB hb;clear hb;clear hbox hg;have z7:=cf8 B7)|((with_reducible refine gate_store (t:=42) (p:=7) rfl ?_);refine store_event (t:=42) (p:=7) (v:=?vo7) (w1:=((((((((wh.setCell ⟨g7,0,none⟩ ((.string nx))).setCell ⟨g7,1,none⟩ ((.int .i64 dx))).setCell ⟨g7,2,none⟩ ((.slice A2x l2x.length c2x))).setCell ⟨g7,3,none⟩ ((.slice A3x l3x.length c3x))).setCell ⟨g7,4,none⟩ ((.slice A4x l4x.length c4x))).setCell ⟨g7,5,none⟩ ((.slice A5x l5x.length c5x))).setCell ⟨g7,6,none⟩ ((.slice A6x l6x.length c6x))).setCell ⟨g7,7,none⟩ ((.slice A7x l7x.length c7x)))) ?hg ?ho ?hn ?hr ?_;(case ho=>rfl);(case hg=>rfl);(case hn=>rfl);(case hr=>first|(go_simp;done)|(go_simp;rfl));intro wi hw;clear z7;obtain ⟨hx,hk,hB⟩:=box8 B7.out hw;clear hw;replace HB:=am (hB _ HB.out E7.out);replace Gb:=am (Gb.out.kept hk (fun k_ _ p_ e_=>by have:=U7b.out;omega));replace Gx:=am (Gx.out.kept hk (fun k_ _ p_ e_=>by have:=U7x.out;omega));skip;replace B2:=am (blk_kept B2.out hk (fun e_=>N27.out e_));replace B6:=am (blk_kept B6.out hk (fun e_=>N67.out e_));skip;replace B7:=am hx;clear hx hk hB;have z2:=cf8 B2;have z6:=cf14 B6;have z7:=cf8 B7))
 replace H:=bo H;obtain ⟨⟨ng,dg,l2g,l3g,l4g,l5g,l6g,l7g,e8g,e9g,e10g,e11g,e12g,e13g⟩,Ag,H⟩:=H;dsimp only at H
 try go_wp2_with (fail)
 go_at_call 13;refine (impl_GatePartner.calls k nx dx _ _ l2x _ _ l3x _ _ l4x _ _ l5x _ _ l6x _ _ l7x a1 ng dg l2g l3g l4g l5g l6g l7g e8g e9g e10g e11g e12g e13g _ Gx.out.c2 Gx.out.d2 Gx.out.c3 Gx.out.d3 Gx.out.c4 Gx.out.d4 Gx.out.c5 Gx.out.d5 Gx.out.c6 Gx.out.d6 Gx.out.c7 Gx.out.d7 Ag.out).mono ?_;rintro e wj ⟨v2g,v3g,v4g,v5g,v6g,v7g,rfl,q2,q3,q4,q5,q6,q7,hb⟩;obtain ⟨A2g,c2g,e_⟩:=Kd.S_slice q2;subst e_;obtain ⟨A3g,c3g,e_⟩:=Kd.R_slice q3;subst e_;obtain ⟨A4g,c4g,e_⟩:=Kd.R_slice q4;subst e_;obtain ⟨A5g,c5g,e_⟩:=Kd.R_slice q5;subst e_;obtain ⟨A6g,c6g,e_⟩:=Kd.R_slice q6;subst e_;obtain ⟨A7g,c7g,e_⟩:=Kd.R_slice q7;subst e_;have Dbg:=am Gb.out.top;have Dxg:=am Gx.out.top;have L2g:=am (blk_lt B2.out);have L6g:=am (blk_lt B6.out);have L7g:=am (blk_lt B7.out);have Gg:=am (GG.make HB.out.size q2 q3 q4 q5 q6 q7);clear q2 q3 q4 q5 q6 q7;(try clear z2);(try clear z6);(try clear z7);replace B2:=am (blk_below (ks B2) hb);replace B6:=am (blk_below (ks B6) hb);replace B7:=am (blk_below (ks B7) hb);replace Gb:=am (Gb.out.below hb);replace Gx:=am (Gx.out.below hb);replace HB:=bq HB hb;clear hb;have z2:=cf8 B2;have z6:=cf14 B6;have z7:=cf8 B7
 try go_wp2_with (first|((with_reducible refine gate_dst (N:=8) rfl ?_);refine bx 8 (cs:=#[.string (⟨#[]⟩:ByteArray),.int .i64 0,.slice none 0 0,.slice none 0 0,.slice none 0 0,.slice none 0 0,.slice none 0 0,.slice none 0 0,.string (⟨#[]⟩:ByteArray),.int .i64 0,.int .i64 0,.int .i64 0,.int .i64 0,.int .i64 0]) (t:=49) ?_;intro g8 hg wk hbox hb;(try clear z2);(try clear z6);(try clear z7);have U8b:=am (Nat.le_trans Gb.out.top (Nat.le_of_eq hg.symm));have U8x:=am (Nat.le_trans Gx.out.top (Nat.le_of_eq hg.symm));have U8g:=am (Nat.le_trans Gg.out.top (Nat.le_of_eq hg.symm));skip;have B8:=am hbox;have E8:=am (gs hg (bs HB));have N28:=am (gn hg B2.out);have N68:=am (gn hg B6.out);have N78:=am (gn hg B7.out);skip;replace B2:=am (blk_below (ks B2) hb);replace B6:=am (blk_below (ks B6) hb);replace B7:=am (blk_below (ks B7) hb);replace Gb:=am (Gb.out.below hb);replace Gx:=am (Gx.out.below hb);replace Gg:=am (Gg.out.below hb);replace HB:=bq HB hb;clear hb;clear hbox hg;have z8:=cf14 B8)|((with_reducible refine gate_store (t:=49) (p:=8) rfl ?_);refine store_event (t:=49) (p:=8) (v:=?vo8) (w1:=((((((((((((((wk.setCell ⟨g8,0,none⟩ ((.string ng))).setCell ⟨g8,1,none⟩ ((.int .i64 dg))).setCell ⟨g8,2,none⟩ ((.slice A2g l2g.length c2g))).setCell ⟨g8,3,none⟩ ((.slice A3g l3g.length c3g))).setCell ⟨g8,4,none⟩ ((.slice A4g l4g.length c4g))).setCell ⟨g8,5,none⟩ ((.slice A5g l5g.length c5g))).setCell ⟨g8,6,none⟩ ((.slice A6g l6g.length c6g))).setCell ⟨g8,7,none⟩ ((.slice A7g l7g.length c7g))).setCell ⟨g8,8,none⟩ ((.string e8g))).setCell ⟨g8,9,none⟩ ((.int .i64 e9g))).setCell ⟨g8,10,none⟩ ((.int .i64 e10g))).setCell ⟨g8,11,none⟩ ((.int .i64 e11g))).setCell ⟨g8,12,none⟩ ((.int .i64 e12g))).setCell ⟨g8,13,none⟩ ((.int .i64 e13g)))) ?hg ?ho ?hn ?hr ?_;(case ho=>rfl);(case hg=>rfl);(case hn=>rfl);(case hr=>first|(go_simp;done)|(go_simp;rfl));intro wl hw;clear z8;obtain ⟨hx,hk,hB⟩:=box14 B8.out hw;clear hw;replace HB:=am (hB _ HB.out E8.out);replace Gb:=am (Gb.out.kept hk (fun k_ _ p_ e_=>by have:=U8b.out;omega));replace Gx:=am (Gx.out.kept hk (fun k_ _ p_ e_=>by have:=U8x.out;omega));replace Gg:=am (Gg.out.kept hk (fun k_ _ p_ e_=>by have:=U8g.out;omega));skip;replace B2:=am (blk_kept B2.out hk (fun e_=>N28.out e_));replace B6:=am (blk_kept B6.out hk (fun e_=>N68.out e_));replace B7:=am (blk_kept B7.out hk (fun e_=>N78.out e_));skip;replace B8:=am hx;clear hx hk hB;have z2:=cf8 B2;have z6:=cf14 B6;have z7:=cf8 B7;have z8:=cf14 B8))
 replace H:=bo H;obtain ⟨e1,Ae1,H⟩:=H
 try go_wp2_with (fail)
 go_at_call 14;refine (GG.eqO Gg.out Gb.out Ae1.out).mono ?_;rintro e wm ⟨rfl,hb⟩;(try clear z2);(try clear z6);(try clear z7);(try clear z8);replace B2:=am (blk_below (ks B2) hb);replace B6:=am (blk_below (ks B6) hb);replace B7:=am (blk_below (ks B7) hb);replace B8:=am (blk_below (ks B8) hb);replace Gb:=am (Gb.out.below hb);replace Gx:=am (Gx.out.below hb);replace Gg:=am (Gg.out.below hb);replace HB:=bq HB hb;clear hb;have z2:=cf8 B2;have z6:=cf14 B6;have z7:=cf8 B7;have z8:=cf14 B8
 obtain rfl|rfl:=bt e1;rotate_left
 ·replace H:=itF H;cases H
 replace H:=itT H;replace H:=bo H;obtain ⟨⟨ny,dy,l2y,l3y,l4y,l5y,l6y,l7y⟩,Ay,H⟩:=H;dsimp only at H;replace H:=bo H;obtain ⟨e2,Ae2,H⟩:=H
 try go_wp2_with (fail)
 (try clear z2);(try clear z6);(try clear z7);(try clear z8);replace B2:=am (blk_drew B2.out);replace B6:=am (blk_drew B6.out);replace B7:=am (blk_drew B7.out);replace B8:=am (blk_drew B8.out);replace Gb:=am Gb.out.drew;replace Gx:=am Gx.out.drew;replace Gg:=am Gg.out.drew;replace HB:=am (below_drew1 HB.out);refine sta 5 (hb8a B7 (hb8 B2)) (fun hHeld=>?_)
 generalize wm.drew=wn at B2 B6 B7 B8 Gb Gx Gg HB hHeld ⊢
 refine take_ (i:=0) (N:=some 34) (v:=?_) (a':=?_) #[true,false,false,false,false] rfl rfl (by kernel_rfl) (fun _ _ _ h=>h) (Or.inl ⟨by rfl,?_⟩) hHeld ?_ ?_
 rotate_left
 ·rintro w' ⟨s0,s1,s2,s3,s4,s5,s6,s7,s8,s9,s10,s11,s12,s13,s14,s15⟩
  go_simp
  (with_reducible rfl)
 rotate_left
 ·simp only [Act.put,List.setIfInBounds_toArray,List.set_cons_zero,List.set_cons_succ,i64_w,i32_w]
  rfl
 refine take_ (i:=1) (N:=some 35) (v:=?_) (a':=?_) #[true,true,false,false,false] rfl rfl (by kernel_rfl) (fun _ _ _ h=>h) (Or.inl ⟨by rfl,?_⟩) hHeld ?_ ?_
 rotate_left
 ·rintro w' ⟨s0,s1,s2,s3,s4,s5,s6,s7,s8,s9,s10,s11,s12,s13,s14,s15⟩
  go_simp
  (with_reducible rfl)
 rotate_left
 ·simp only [Act.put,List.setIfInBounds_toArray,List.set_cons_zero,List.set_cons_succ,i64_w,i32_w]
  rfl
 refine one_ (i:=2) (N:=some 36) #[true,true,true,false,false] rfl rfl (by kernel_rfl) (by decide) (fun K hK=>?_);refine gA Tryz.func7 #[.agg #[.string a0_0,.int .i64 a0_1,.slice A0_2 l0_2.length c0_2,.slice A0_3 l0_3.length c0_3,.slice A0_4 l0_4.length c0_4,.slice A0_5 l0_5.length c0_5,.slice A0_6 l0_6.length c0_6,.slice A0_7 l0_7.length c0_7]] ?_;refine (laws_toGate.calls k a0_0 a0_1 _ _ l0_2 _ _ l0_3 _ _ l0_4 _ _ l0_5 _ _ l0_6 _ _ l0_7 ny dy l2y l3y l4y l5y l6y l7y _ (Kd.C_below HR0_2.out (bs HB)) HC0_2.out (Kd.C_below HR0_3.out (bs HB)) HC0_3.out (Kd.C_below HR0_4.out (bs HB)) HC0_4.out (Kd.C_below HR0_5.out (bs HB)) HC0_5.out (Kd.C_below HR0_6.out (bs HB)) HC0_6.out (Kd.C_below HR0_7.out (bs HB)) HC0_7.out Ay.out).mono ?_;rintro e wo ⟨v2y,v3y,v4y,v5y,v6y,v7y,rfl,q2,q3,q4,q5,q6,q7,hb⟩;obtain ⟨A2y,c2y,e_⟩:=Kd.S_slice q2;subst e_;obtain ⟨A3y,c3y,e_⟩:=Kd.R_slice q3;subst e_;obtain ⟨A4y,c4y,e_⟩:=Kd.R_slice q4;subst e_;obtain ⟨A5y,c5y,e_⟩:=Kd.R_slice q5;subst e_;obtain ⟨A6y,c6y,e_⟩:=Kd.R_slice q6;subst e_;obtain ⟨A7y,c7y,e_⟩:=Kd.R_slice q7;subst e_;refine ⟨_,rfl,?_⟩;have Dby:=am Gb.out.top;have Dxy:=am Gx.out.top;have Dgy:=am Gg.out.top;have L2y:=am (blk_lt B2.out);have L6y:=am (blk_lt B6.out);have L7y:=am (blk_lt B7.out);have L8y:=am (blk_lt B8.out);have Gy:=am (GG.make HB.out.size q2 q3 q4 q5 q6 q7);clear q2 q3 q4 q5 q6 q7;(try clear z2);(try clear z6);(try clear z7);(try clear z8);replace B2:=am (blk_below (ks B2) hb);replace B6:=am (blk_below (ks B6) hb);replace B7:=am (blk_below (ks B7) hb);replace B8:=am (blk_below (ks B8) hb);replace Gb:=am (Gb.out.below hb);replace Gx:=am (Gx.out.below hb);replace Gg:=am (Gg.out.below hb);replace HB:=bq HB hb;clear hb;refine hK.out _ _ (hb8a B7 (hb8 B2)).out (fun hHeld=>?_);clear hK K;refine nA 36 ?_;refine one_ (i:=3) (N:=some 37) #[true,true,true,true,false] rfl rfl (by kernel_rfl) (by decide) (fun K hK=>?_);refine gA Tryz.func9 #[.agg #[.string nx,.int .i64 dx,.slice A2x l2x.length c2x,.slice A3x l3x.length c3x,.slice A4x l4x.length c4x,.slice A5x l5x.length c5x,.slice A6x l6x.length c6x,.slice A7x l7x.length c7x],.agg #[.string ny,.int .i64 dy,.slice A2y l2y.length c2y,.slice A3y l3y.length c3y,.slice A4y l4y.length c4y,.slice A5y l5y.length c5y,.slice A6y l6y.length c6y,.slice A7y l7y.length c7y]] ?_;refine (GG.eq Gx.out Gy.out Ae2.out).mono ?_;rintro e wp ⟨rfl,hb⟩;refine ⟨_,rfl,?_⟩;replace B2:=am (blk_below (ks B2) hb);replace B6:=am (blk_below (ks B6) hb);replace B7:=am (blk_below (ks B7) hb);replace B8:=am (blk_below (ks B8) hb);replace Gb:=am (Gb.out.below hb);replace Gx:=am (Gx.out.below hb);replace Gg:=am (Gg.out.below hb);replace Gy:=am (Gy.out.below hb);replace HB:=bq HB hb;clear hb;refine hK.out _ _ (hb8a B7 (hb8 B2)).out (fun hHeld=>?_);clear hK K;refine nA 37 ?_;refine pure_ (i:=4) (N:=some 38) (v:=?_) (a':=?_) #[true,true,true,true,true] rfl rfl (by kernel_rfl) (fun _ _ _ h=>h) (Or.inl ⟨by rfl,?_⟩) ?_ ?_
 rotate_left
 ·intro w'
  go_simp
  (with_reducible rfl)
 rotate_left
 ·simp only [Act.put,List.setIfInBounds_toArray,List.set_cons_zero,List.set_cons_succ,i64_w,i32_w]
  rfl
 refine done_ (by kernel_rfl) ?_;clear hHeld;clear Gy
 obtain rfl|rfl:=bt e2;rotate_left
 ·replace H:=itF H;cases H
 replace H:=itT H;have z2:=cf8 B2;have z6:=cf14 B6;have z7:=cf8 B7;have z8:=cf14 B8;replace H:=bo H;obtain ⟨⟨m0,r2m0,r3m0,r4m0,r5m0,r6m0,r7m0⟩,Am0,H⟩:=H;dsimp only at H
 try go_wp2_with (fail)
 go_at_call 10;refine (laws_markGate.calls k nx dx _ _ _ _ _ _ _ _ l2x l3x l4x l5x l6x l7x 1 m0 r2m0 r3m0 r4m0 r5m0 r6m0 r7m0 w _ HB.out Gx.out Am0.out).mono ?_;rintro e wq ⟨rfl,hG,hb,hk⟩;(try clear z2);(try clear z6);(try clear z7);(try clear z8);replace Gb:=am (Gb.out.kept hk (fun k_ p_ q_ s_=>by have:=Dbx.out;omega));replace Gg:=am (Gg.out.kept hk (fun k_ p_ q_ s_=>by have:=Dxg.out;omega));replace B2:=am (blk_kept B2.out hk (fun s_=>by have:=L2x.out;omega));replace B6:=am (blk_kept B6.out hk (fun s_=>by have:=L6x.out;omega));replace B7:=am (blk_kept B7.out hk (fun s_=>by have:=U7x.out;omega));replace B8:=am (blk_kept B8.out hk (fun s_=>by have:=U8x.out;omega));replace Gx:=am hG;replace HB:=am hb;clear hG hb hk;have z2:=cf8 B2;have z6:=cf14 B6;have z7:=cf8 B7;have z8:=cf14 B8;clear Gx
 revert H;refine id2 ?_ ?_;· intro _ H;cases H
 intro c1 H;clear B7;(try clear z7);replace H:=bo H;obtain ⟨e3,Ae3,H⟩:=H
 try go_wp2_with (fail)
 go_at_call 14;refine (GG.eqO Gg.out Gb.out Ae3.out).mono ?_;rintro e wr ⟨rfl,hb⟩;(try clear z2);(try clear z6);(try clear z8);replace B2:=am (blk_below (ks B2) hb);replace B6:=am (blk_below (ks B6) hb);replace B8:=am (blk_below (ks B8) hb);replace Gb:=am (Gb.out.below hb);replace Gg:=am (Gg.out.below hb);replace HB:=bq HB hb;clear hb;have z2:=cf8 B2;have z6:=cf14 B6;have z8:=cf14 B8
 obtain rfl|rfl:=bt e3;rotate_left
 ·replace H:=itF H;cases H
 replace H:=itT H;replace H:=bo H;obtain ⟨⟨m1,r2m1,r3m1,r4m1,r5m1,r6m1,r7m1⟩,Am1,H⟩:=H;dsimp only at H
 try go_wp2_with (fail)
 go_at_call 15;refine (laws_markGateOut.calls k ng dg _ _ _ _ _ _ _ _ l2g l3g l4g l5g l6g l7g e8g e9g e10g e11g e12g e13g 1 m1 r2m1 r3m1 r4m1 r5m1 r6m1 r7m1 w _ HB.out Gg.out Am1.out).mono ?_;rintro e ws ⟨rfl,hG,hb,hk⟩;(try clear z2);(try clear z6);(try clear z8);replace Gb:=am (Gb.out.kept hk (fun k_ p_ q_ s_=>by have:=Dbg.out;omega));replace B2:=am (blk_kept B2.out hk (fun s_=>by have:=L2g.out;omega));replace B6:=am (blk_kept B6.out hk (fun s_=>by have:=L6g.out;omega));replace B8:=am (blk_kept B8.out hk (fun s_=>by have:=U8g.out;omega));replace Gg:=am hG;replace HB:=am hb;clear hG hb hk;have z2:=cf8 B2;have z6:=cf14 B6;have z8:=cf14 B8;replace H:=bo H;obtain ⟨q1,Aq1,H⟩:=H
 try go_wp2_with (fail)
 go_at_call 16;refine calls_of_args (args':=#[.agg #[.string ng,.int .i64 dg,.slice A2g r2m1.length c2g,.slice A3g r3m1.length c3g,.slice A4g r4m1.length c4g,.slice A5g r5m1.length c5g,.slice A6g r6m1.length c6g,.slice A7g r7m1.length c7g,.string e8g,.int .i64 e9g,.int .i64 e10g,.int .i64 e11g,.int .i64 e12g,.int .i64 e13g],.int .i64 1]) (by rw [Gg.out.e2,Gg.out.e3,Gg.out.e4,Gg.out.e5,Gg.out.e6,Gg.out.e7]) ?_;refine (laws_heldGateOut.calls k ng dg _ _ r2m1 _ _ r3m1 _ _ r4m1 _ _ r5m1 _ _ r6m1 _ _ r7m1 e8g e9g e10g e11g e12g e13g 1 q1 _ Gg.out.c2 Gg.out.d2 Gg.out.c3 Gg.out.d3 Gg.out.c4 Gg.out.d4 Gg.out.c5 Gg.out.d5 Gg.out.c6 Gg.out.d6 Gg.out.c7 Gg.out.d7 Aq1.out).mono ?_;rintro e wt ⟨rfl,hb⟩;(try clear z2);(try clear z6);(try clear z8);replace B2:=am (blk_below (ks B2) hb);replace B6:=am (blk_below (ks B6) hb);replace B8:=am (blk_below (ks B8) hb);replace Gb:=am (Gb.out.below hb);replace Gg:=am (Gg.out.below hb);replace HB:=bq HB hb;clear hb;have z2:=cf8 B2;have z6:=cf14 B6;have z8:=cf14 B8
 revert H;refine id2 ?_ ?_;· intro _ H;cases H
 intro cq1 H;revert H;refine ie1 ?_;intro dq1 fq1 H;replace H:=bo H;obtain ⟨⟨nz,dz,l2z,l3z,l4z,l5z,l6z,l7z⟩,Az,H⟩:=H;dsimp only at H
 try go_wp2_with (fail)
 go_at_call 7;refine (laws_toGate.calls k a0_0 a0_1 _ _ l0_2 _ _ l0_3 _ _ l0_4 _ _ l0_5 _ _ l0_6 _ _ l0_7 nz dz l2z l3z l4z l5z l6z l7z _ (Kd.C_below HR0_2.out (bs HB)) HC0_2.out (Kd.C_below HR0_3.out (bs HB)) HC0_3.out (Kd.C_below HR0_4.out (bs HB)) HC0_4.out (Kd.C_below HR0_5.out (bs HB)) HC0_5.out (Kd.C_below HR0_6.out (bs HB)) HC0_6.out (Kd.C_below HR0_7.out (bs HB)) HC0_7.out Az.out).mono ?_;rintro e wu ⟨v2z,v3z,v4z,v5z,v6z,v7z,rfl,q2,q3,q4,q5,q6,q7,hb⟩;obtain ⟨A2z,c2z,e_⟩:=Kd.S_slice q2;subst e_;obtain ⟨A3z,c3z,e_⟩:=Kd.R_slice q3;subst e_;obtain ⟨A4z,c4z,e_⟩:=Kd.R_slice q4;subst e_;obtain ⟨A5z,c5z,e_⟩:=Kd.R_slice q5;subst e_;obtain ⟨A6z,c6z,e_⟩:=Kd.R_slice q6;subst e_;obtain ⟨A7z,c7z,e_⟩:=Kd.R_slice q7;subst e_;have Dbz:=am Gb.out.top;have Dgz:=am Gg.out.top;have L2z:=am (blk_lt B2.out);have L6z:=am (blk_lt B6.out);have L8z:=am (blk_lt B8.out);have Gz:=am (GG.make HB.out.size q2 q3 q4 q5 q6 q7);clear q2 q3 q4 q5 q6 q7;(try clear z2);(try clear z6);(try clear z8);replace B2:=am (blk_below (ks B2) hb);replace B6:=am (blk_below (ks B6) hb);replace B8:=am (blk_below (ks B8) hb);replace Gb:=am (Gb.out.below hb);replace Gg:=am (Gg.out.below hb);replace HB:=bq HB hb;clear hb;have z2:=cf8 B2;have z6:=cf14 B6;have z8:=cf14 B8;replace H:=bo H;obtain ⟨⟨nh,dh,l2h,l3h,l4h,l5h,l6h,l7h,e8h,e9h,e10h,e11h,e12h,e13h⟩,Ah,H⟩:=H;dsimp only at H
 try go_wp2_with (fail)
 go_at_call 13;refine (impl_GatePartner.calls k nz dz _ _ l2z _ _ l3z _ _ l4z _ _ l5z _ _ l6z _ _ l7z a1 nh dh l2h l3h l4h l5h l6h l7h e8h e9h e10h e11h e12h e13h _ Gz.out.c2 Gz.out.d2 Gz.out.c3 Gz.out.d3 Gz.out.c4 Gz.out.d4 Gz.out.c5 Gz.out.d5 Gz.out.c6 Gz.out.d6 Gz.out.c7 Gz.out.d7 Ah.out).mono ?_;rintro e wv ⟨v2h,v3h,v4h,v5h,v6h,v7h,rfl,q2,q3,q4,q5,q6,q7,hb⟩;obtain ⟨A2h,c2h,e_⟩:=Kd.S_slice q2;subst e_;obtain ⟨A3h,c3h,e_⟩:=Kd.R_slice q3;subst e_;obtain ⟨A4h,c4h,e_⟩:=Kd.R_slice q4;subst e_;obtain ⟨A5h,c5h,e_⟩:=Kd.R_slice q5;subst e_;obtain ⟨A6h,c6h,e_⟩:=Kd.R_slice q6;subst e_;obtain ⟨A7h,c7h,e_⟩:=Kd.R_slice q7;subst e_;have Dbh:=am Gb.out.top;have Dgh:=am Gg.out.top;have Dzh:=am Gz.out.top;have L2h:=am (blk_lt B2.out);have L6h:=am (blk_lt B6.out);have L8h:=am (blk_lt B8.out);have Gh:=am (GG.make HB.out.size q2 q3 q4 q5 q6 q7);clear q2 q3 q4 q5 q6 q7;(try clear z2);(try clear z6);(try clear z8);replace B2:=am (blk_below (ks B2) hb);replace B6:=am (blk_below (ks B6) hb);replace B8:=am (blk_below (ks B8) hb);replace Gb:=am (Gb.out.below hb);replace Gg:=am (Gg.out.below hb);replace Gz:=am (Gz.out.below hb);replace HB:=bq HB hb;clear hb;have z2:=cf8 B2;have z6:=cf14 B6;have z8:=cf14 B8;clear Gz
 try go_wp2_with (first|((with_reducible refine gate_dst (N:=12) rfl ?_);refine bx 12 (cs:=#[.string (⟨#[]⟩:ByteArray),.int .i64 0,.slice none 0 0,.slice none 0 0,.slice none 0 0,.slice none 0 0,.slice none 0 0,.slice none 0 0,.string (⟨#[]⟩:ByteArray),.int .i64 0,.int .i64 0,.int .i64 0,.int .i64 0,.int .i64 0]) (t:=49) ?_;intro g12 hg ww hbox hb;(try clear z2);(try clear z6);(try clear z8);have U12b:=am (Nat.le_trans Gb.out.top (Nat.le_of_eq hg.symm));have U12g:=am (Nat.le_trans Gg.out.top (Nat.le_of_eq hg.symm));have U12h:=am (Nat.le_trans Gh.out.top (Nat.le_of_eq hg.symm));skip;have B12:=am hbox;have E12:=am (gs hg (bs HB));have N212:=am (gn hg B2.out);have N612:=am (gn hg B6.out);have N812:=am (gn hg B8.out);skip;replace B2:=am (blk_below (ks B2) hb);replace B6:=am (blk_below (ks B6) hb);replace B8:=am (blk_below (ks B8) hb);replace Gb:=am (Gb.out.below hb);replace Gg:=am (Gg.out.below hb);replace Gh:=am (Gh.out.below hb);replace HB:=bq HB hb;clear hb;clear hbox hg;have z12:=cf14 B12)|((with_reducible refine gate_store (t:=49) (p:=12) rfl ?_);refine store_event (t:=49) (p:=12) (v:=?vo12) (w1:=((((((((((((((ww.setCell ⟨g12,0,none⟩ ((.string nh))).setCell ⟨g12,1,none⟩ ((.int .i64 dh))).setCell ⟨g12,2,none⟩ ((.slice A2h l2h.length c2h))).setCell ⟨g12,3,none⟩ ((.slice A3h l3h.length c3h))).setCell ⟨g12,4,none⟩ ((.slice A4h l4h.length c4h))).setCell ⟨g12,5,none⟩ ((.slice A5h l5h.length c5h))).setCell ⟨g12,6,none⟩ ((.slice A6h l6h.length c6h))).setCell ⟨g12,7,none⟩ ((.slice A7h l7h.length c7h))).setCell ⟨g12,8,none⟩ ((.string e8h))).setCell ⟨g12,9,none⟩ ((.int .i64 e9h))).setCell ⟨g12,10,none⟩ ((.int .i64 e10h))).setCell ⟨g12,11,none⟩ ((.int .i64 e11h))).setCell ⟨g12,12,none⟩ ((.int .i64 e12h))).setCell ⟨g12,13,none⟩ ((.int .i64 e13h)))) ?hg ?ho ?hn ?hr ?_;(case ho=>rfl);(case hg=>rfl);(case hn=>rfl);(case hr=>first|(go_simp;done)|(go_simp;rfl));intro wx hw;clear z12;obtain ⟨hx,hk,hB⟩:=box14 B12.out hw;clear hw;replace HB:=am (hB _ HB.out E12.out);replace Gb:=am (Gb.out.kept hk (fun k_ _ p_ e_=>by have:=U12b.out;omega));replace Gg:=am (Gg.out.kept hk (fun k_ _ p_ e_=>by have:=U12g.out;omega));replace Gh:=am (Gh.out.kept hk (fun k_ _ p_ e_=>by have:=U12h.out;omega));skip;replace B2:=am (blk_kept B2.out hk (fun e_=>N212.out e_));replace B6:=am (blk_kept B6.out hk (fun e_=>N612.out e_));replace B8:=am (blk_kept B8.out hk (fun e_=>N812.out e_));skip;replace B12:=am hx;clear hx hk hB;have z2:=cf8 B2;have z6:=cf14 B6;have z8:=cf14 B8;have z12:=cf14 B12))
 replace H:=bo H;obtain ⟨e4,Ae4,H⟩:=H
 try go_wp2_with (fail)
 go_at_call 14;refine (GG.eqO Gh.out Gb.out Ae4.out).mono ?_;rintro e wy ⟨rfl,hb⟩;(try clear z2);(try clear z6);(try clear z8);(try clear z12);replace B2:=am (blk_below (ks B2) hb);replace B6:=am (blk_below (ks B6) hb);replace B8:=am (blk_below (ks B8) hb);replace B12:=am (blk_below (ks B12) hb);replace Gb:=am (Gb.out.below hb);replace Gg:=am (Gg.out.below hb);replace Gh:=am (Gh.out.below hb);replace HB:=bq HB hb;clear hb;have z2:=cf8 B2;have z6:=cf14 B6;have z8:=cf14 B8;have z12:=cf14 B12
 obtain rfl|rfl:=bt e4;rotate_left
 ·replace H:=itF H;cases H
 replace H:=itT H;clear Gh;replace H:=bo H;obtain ⟨q2,Aq2,H⟩:=H
 try go_wp2_with (fail)
 go_at_call 16;refine calls_of_args (args':=#[.agg #[.string ng,.int .i64 dg,.slice A2g r2m1.length c2g,.slice A3g r3m1.length c3g,.slice A4g r4m1.length c4g,.slice A5g r5m1.length c5g,.slice A6g r6m1.length c6g,.slice A7g r7m1.length c7g,.string e8g,.int .i64 e9g,.int .i64 e10g,.int .i64 e11g,.int .i64 e12g,.int .i64 e13g],.int .i64 1]) (by rw [Gg.out.e2,Gg.out.e3,Gg.out.e4,Gg.out.e5,Gg.out.e6,Gg.out.e7]) ?_;refine (laws_heldGateOut.calls k ng dg _ _ r2m1 _ _ r3m1 _ _ r4m1 _ _ r5m1 _ _ r6m1 _ _ r7m1 e8g e9g e10g e11g e12g e13g 1 q2 _ Gg.out.c2 Gg.out.d2 Gg.out.c3 Gg.out.d3 Gg.out.c4 Gg.out.d4 Gg.out.c5 Gg.out.d5 Gg.out.c6 Gg.out.d6 Gg.out.c7 Gg.out.d7 Aq2.out).mono ?_;rintro e wz ⟨rfl,hb⟩;(try clear z2);(try clear z6);(try clear z8);(try clear z12);replace B2:=am (blk_below (ks B2) hb);replace B6:=am (blk_below (ks B6) hb);replace B8:=am (blk_below (ks B8) hb);replace B12:=am (blk_below (ks B12) hb);replace Gb:=am (Gb.out.below hb);replace Gg:=am (Gg.out.below hb);replace HB:=bq HB hb;clear hb;have z2:=cf8 B2;have z6:=cf14 B6;have z8:=cf14 B8;have z12:=cf14 B12
 revert H;refine id2 ?_ ?_;· intro _ H;cases H
 intro cq2 H;revert H;refine ie1 ?_;intro dq2 fq2 H;obtain rfl:=si H
 go_wp2
 go_ret
 exact ⟨ff,bs HB⟩
end Go.Proofs.YtomoflpgdbjojaaGreat.QO
namespace Go.Proofs.YtomoflpgdbjojaaGreat.Rd
open Go.RowKit Go.ChangeShapes Go.WideShapes Go.Proofs.YtomoflpgdbjojaaGreatW.PrintWords
def Rd (P:Program) (t:TypeId) {α:Type} (d:Kd α) (wf:α→Prop):Prop :=
 ∀ (H:Type) (enc:TypeId × Value→H) (w:World) (base:Nat) (sp:Nat→Bool) (held:Bool) (fuel:Nat) (cs:List Value) (x:DataW H × List MemPlace),
  DataW.trod enc P w base sp held fuel t cs=some x→∃ a:α,d.K w a cs∧wf a
def RdF (P:Program) (fs:List Field) (off:Nat) {α:Type} (d:Kd α) (wf:α→Prop):Prop :=
 ∀ (H:Type) (enc:TypeId × Value→H) (w:World) (base:Nat) (sp:Nat→Bool) (held:Bool) (n:Nat) (cs:List Value),
  cs.length=off+d.sz→(∀ f ∈ fs,∃ y,DataW.trod enc P w base sp held n f.type ((cs.drop f.offset).take (P.cellsOf f.type))=some y)→∃ a:α,d.K w a (cs.drop off)∧wf a
def WfInt (k:IntKind) (n:Int):Prop:=(Lit.int k n).wf=true
def WfStr (s:ByteArray):Prop:=s.size≤maxLen
def WfRow {α:Type} (wf:α→Prop) (l:List α):Prop:=l.length≤maxLen∧∀ x ∈ l,wf x
theorem rd_int {P:Program} {t:TypeId} {k:IntKind} (hu:P.underlying t=some (.int k)):Rd P t (Kd.int k) (WfInt k):=by
 intro H enc w base sp held fuel cs x h
 cases fuel with
 | zero=>simp [DataW.trod] at h
 | succ n =>
  match cs with
  | [.int k' m] =>
   simp only [DataW.trod,hu] at h
   split at h
   ·rename_i hk
    obtain ⟨rfl,hw⟩:=hk
    exact ⟨m,rfl,hw⟩
   ·cases h
  | []=>simp [DataW.trod,hu] at h
  | [.bool _]=>simp [DataW.trod,hu] at h
  | [.float _ _]=>simp [DataW.trod,hu] at h
  | [.complex _ _ _]=>simp [DataW.trod,hu] at h
  | [.string _]=>simp [DataW.trod,hu] at h
  | [.pointer _]=>simp [DataW.trod,hu] at h
  | [.slice _ _ _]=>simp [DataW.trod,hu] at h
  | [.map _]=>simp [DataW.trod,hu] at h
  | [.chan _]=>simp [DataW.trod,hu] at h
  | [.func _ _ _]=>simp [DataW.trod,hu] at h
  | [.nilFunc]=>simp [DataW.trod,hu] at h
  | [.iface _ _]=>simp [DataW.trod,hu] at h
  | [.nilIface]=>simp [DataW.trod,hu] at h
  | [.agg _]=>simp [DataW.trod,hu] at h
  | [.tuple _]=>simp [DataW.trod,hu] at h
  | _ :: _ :: _=>simp [DataW.trod,hu] at h
theorem rd_str {P:Program} {t:TypeId} (hu:P.underlying t=some .string):Rd P t Kd.string WfStr:=by
 intro H enc w base sp held fuel cs x h
 cases fuel with
 | zero=>simp [DataW.trod] at h
 | succ n =>
  match cs with
  | [.string s] =>
   simp only [DataW.trod,hu] at h
   split at h
   ·rename_i hk
    exact ⟨s,rfl,hk⟩
   ·cases h
  | []=>simp [DataW.trod,hu] at h
  | [.int _ _]=>simp [DataW.trod,hu] at h
  | [.bool _]=>simp [DataW.trod,hu] at h
  | [.float _ _]=>simp [DataW.trod,hu] at h
  | [.complex _ _ _]=>simp [DataW.trod,hu] at h
  | [.pointer _]=>simp [DataW.trod,hu] at h
  | [.slice _ _ _]=>simp [DataW.trod,hu] at h
  | [.map _]=>simp [DataW.trod,hu] at h
  | [.chan _]=>simp [DataW.trod,hu] at h
  | [.func _ _ _]=>simp [DataW.trod,hu] at h
  | [.nilFunc]=>simp [DataW.trod,hu] at h
  | [.iface _ _]=>simp [DataW.trod,hu] at h
  | [.nilIface]=>simp [DataW.trod,hu] at h
  | [.agg _]=>simp [DataW.trod,hu] at h
  | [.tuple _]=>simp [DataW.trod,hu] at h
  | _ :: _ :: _=>simp [DataW.trod,hu] at h
theorem rdF_last {P:Program} {f:Field} {off:Nat} {α:Type} {d:Kd α} {wf:α→Prop} (h:Rd P f.type d wf) (ho:f.offset=off) (hc:P.cellsOf f.type=d.sz):RdF P [f] off d wf:=by
 intro H enc w base sp held n cs hl hy
 obtain ⟨y,hy⟩:=hy f (List.mem_singleton.2 rfl)
 rw [ho,hc,List.take_of_length_le (by rw [List.length_drop];omega)] at hy
 exact h H enc w base sp held n _ y hy
theorem rdF_cons {P:Program} {f:Field} {fs:List Field} {off off2:Nat} {α β:Type} {d:Kd α} {e:Kd β} {wf:α→Prop} {wg:β→Prop} (h:Rd P f.type d wf) (ho:f.offset=off) (hc:P.cellsOf f.type=d.sz)
  (h2:off2=off+d.sz) (hs:RdF P fs off2 e wg):RdF P (f :: fs) off (Kd.pair d e) (fun x=>wf x.1∧wg x.2):=by
 intro H enc w base sp held n cs hl hy
 obtain ⟨y,hy1⟩:=hy f (List.mem_cons_self ..)
 have hl':cs.length=off+(d.sz+e.sz):=hl
 obtain ⟨a,ha,hwa⟩:=h H enc w base sp held n _ y hy1
 obtain ⟨b,hb,hwb⟩:=hs H enc w base sp held n cs (by omega) (fun g hg=>hy g (List.mem_cons_of_mem _ hg))
 rw [ho,hc] at ha
 refine ⟨(a,b),⟨_,_,?_,ha,hb⟩,hwa,hwb⟩
 rw [h2,← List.drop_drop,List.take_append_drop]
theorem rd_struct {P:Program} {t:TypeId} {fs:Array Field} {α β:Type} {d:Kd α} {wf:α→Prop} {wg:β→Prop} (g:β→α) (gi:α→β) (hg:∀ a,g (gi a)=a) (hwg:∀ a,wf a→wg (gi a))
  (hu:P.underlying t=some (.struct fs)) (hc:P.cellsOf t=d.sz) (hF:RdF P fs.toList 0 d wf):Rd P t (Kd.iso d g) wg:=by
 intro H enc w base sp held fuel cs x h
 obtain ⟨xs,n,_,rfl,hl,hlen,hf⟩:=DataW.trod_struct hu h
 obtain ⟨a,ha,hwa⟩:=hF H enc w base sp held n cs (by omega) (fun f hfm=>by
  obtain ⟨i,hi,rfl⟩:=List.mem_iff_getElem.1 hfm
  have hi':i<fs.size:=by simpa using hi
  have z:=hf i (fs[i]) (by simp [hi'])
  rw [List.getElem?_eq_getElem (by omega)] at z
  exact ⟨_,by simpa using z⟩)
 refine ⟨gi a,?_,hwg a hwa⟩
 show d.K w (g (gi a)) cs
 rw [hg]
 simpa using ha
theorem rd_slice {P:Program} {t e:TypeId} {α:Type} {d:Kd α} {wf:α→Prop} (hu:P.underlying t=some (.slice e)) (hc:P.cellsOf e=d.sz) (hd:Rd P e d wf):Rd P t (Kd.slice e d) (WfRow wf):=by
 intro H enc w base sp held fuel cs x h
 rcases Go.Deep.open_slice hu h with ⟨rfl,_⟩ | ⟨a,len,cap,m,n,D,Pl,rfl,hb,hl,hm,hmm,_,hx⟩
 ·exact ⟨[],⟨none,0,rfl,Nat.le_refl _,rfl,by simp,fun h=>absurd h (by simp)⟩,by simp [maxLen],by simp⟩
 ·have hlm:len≤m:=by rw [hmm];split <;> omega
  have hall:∀ i,i<len→∃ cs',w.cells? base (a.add (i * P.cellsOf e)) (P.cellsOf e)=some cs'∧DataW.trod enc P w base sp held n e cs'=some (D i,Pl i):=fun i hi=>hx i (by omega)
  have key:∀ (k:Nat),k≤len→∃ l:List α,l.length=k∧(∀ x ∈ l,wf x)∧∀ j p,l[j]? = some p→∃ c,c.length=d.sz∧d.K w p c∧∀ i u,c[i]? = some u→w.cell? (a.add (j * d.sz+i))=some u:=by
   intro k
   induction k with
   | zero=>intro _;exact ⟨[],rfl,by simp,by simp⟩
   | succ k ih =>
    intro hk
    obtain ⟨l,hl1,hl2,hl3⟩:=ih (by omega)
    obtain ⟨cs',h1,h2⟩:=hall k (by omega)
    obtain ⟨b,hb1,hb2⟩:=hd H enc w base sp held n cs' _ h2
    refine ⟨l++[b],by simp [hl1],?_,?_⟩
    ·intro z hz
     rcases List.mem_append.1 hz with hz|hz
     ·exact hl2 z hz
     ·rw [List.mem_singleton.1 hz];exact hb2
    ·intro j p hj
     by_cases hjl:j<l.length
     ·rw [List.getElem?_append_left hjl] at hj
      exact hl3 j p hj
     ·rw [List.getElem?_append_right (by omega)] at hj
      have hj0:j - l.length=0:=by
       cases hz:j - l.length with
       | zero=>rfl
       | succ q=>rw [hz] at hj;simp at hj
      rw [hj0] at hj
      obtain rfl:b=p:=by simpa using hj
      have hjk:j=k:=by omega
      subst hjk
      refine ⟨cs',d.K_len hb1,hb1,fun i u hu'=>?_⟩
      obtain ⟨_,hlen',hcell⟩:=World.cells?_some h1
      have hi:i<cs'.length:=by
       rcases Nat.lt_or_ge i cs'.length with h|h
       ·exact h
       ·rw [List.getElem?_eq_none h] at hu';cases hu'
      have z:=hcell i (by omega)
      rw [hu',Go.Deep.add_add,hc] at z
      exact z
  obtain ⟨l,hl1,hl2,hl3⟩:=key len (Nat.le_refl _)
  refine ⟨l,⟨some a,cap,by rw [hl1],by omega,?_⟩,by rw [hl1];exact Nat.le_trans hl hm,hl2⟩
  exact ⟨rfl,by rw [hl1];have:cap≤2 ^ 63 - 1:=hm;omega,fun _=>⟨a,rfl,hl3⟩⟩
end Go.Proofs.YtomoflpgdbjojaaGreat.Rd
namespace Go.Proofs.YtomoflpgdbjojaaGreat.QO
open Go.RowKit Go.Proofs.YtomoflpgdbjojaaGreat Go.Proofs.YtomoflpgdbjojaaGreatW.PrintWords
def wf179 (x:S179):Prop:=(Rd.WfInt .i64) x.f0∧(Rd.WfInt .i64) x.f1∧(Rd.WfInt .i64) x.f2
def wf93 (x:S93):Prop:=Rd.WfStr x.f0∧(Rd.WfInt .i64) x.f1∧(Rd.WfInt .i64) x.f2∧(Rd.WfRow wf179) x.f3
def wf96 (x:S96):Prop:=Rd.WfStr x.f0∧Rd.WfStr x.f1∧Rd.WfStr x.f2
def wf147 (x:S147):Prop:=Rd.WfStr x.f0∧(Rd.WfInt .i64) x.f1
def wf150 (x:S150):Prop:=Rd.WfStr x.f0∧Rd.WfStr x.f1∧(Rd.WfInt .i64) x.f2∧Rd.WfStr x.f3∧(Rd.WfInt .i64) x.f4∧(Rd.WfInt .i64) x.f5∧(Rd.WfInt .i64) x.f6∧(Rd.WfInt .i64) x.f7
def wf27 (x:S27):Prop:=(Rd.WfRow wf147) x.f0∧(Rd.WfRow wf150) x.f1
def wf101 (x:S101):Prop:=(Rd.WfInt .i64) x.f0∧Rd.WfStr x.f1∧Rd.WfStr x.f2∧(Rd.WfInt .i64) x.f3∧Rd.WfStr x.f4∧(Rd.WfInt .i64) x.f5
def wf104 (x:S104):Prop:=Rd.WfStr x.f0∧(Rd.WfInt .i64) x.f1∧Rd.WfStr x.f2∧(Rd.WfInt .i64) x.f3∧(Rd.WfInt .i64) x.f4
def wf31 (x:S31):Prop:=Rd.WfStr x.f0∧(Rd.WfInt .i64) x.f1∧(Rd.WfRow wf93) x.f2∧(Rd.WfRow wf96) x.f3∧wf27 x.f4∧(Rd.WfRow wf101) x.f5∧(Rd.WfRow wf104) x.f6
theorem rd179:Rd.Rd Tryz.prog 179 k179 wf179:=Rd.rd_struct _ (fun a=>⟨a.1,a.2.1,a.2.2⟩) (fun _=>rfl) (fun _ h=>h) Tryz.underlying179 (by kernel_rfl) (Rd.rdF_cons (Rd.rd_int (Tryz.underlying2)) rfl (by kernel_rfl) (off2:=1) rfl (Rd.rdF_cons (Rd.rd_int (Tryz.underlying2)) rfl (by kernel_rfl) (off2:=2) rfl (Rd.rdF_last (Rd.rd_int (Tryz.underlying2)) rfl (by kernel_rfl))))
theorem rd93:Rd.Rd Tryz.prog 93 k93 wf93:=Rd.rd_struct _ (fun a=>⟨a.1,a.2.1,a.2.2.1,a.2.2.2⟩) (fun _=>rfl) (fun _ h=>h) Tryz.underlying93 (by kernel_rfl) (Rd.rdF_cons (Rd.rd_str (Tryz.underlying9)) rfl (by kernel_rfl) (off2:=1) rfl (Rd.rdF_cons (Rd.rd_int (Tryz.underlying2)) rfl (by kernel_rfl) (off2:=2) rfl (Rd.rdF_cons (Rd.rd_int (Tryz.underlying2)) rfl (by kernel_rfl) (off2:=3) rfl (Rd.rdF_last (Rd.rd_slice Tryz.underlying91 (by kernel_rfl) rd179) rfl (by kernel_rfl)))))
theorem rd96:Rd.Rd Tryz.prog 96 k96 wf96:=Rd.rd_struct _ (fun a=>⟨a.1,a.2.1,a.2.2⟩) (fun _=>rfl) (fun _ h=>h) Tryz.underlying96 (by kernel_rfl) (Rd.rdF_cons (Rd.rd_str (Tryz.underlying9)) rfl (by kernel_rfl) (off2:=1) rfl (Rd.rdF_cons (Rd.rd_str (Tryz.underlying9)) rfl (by kernel_rfl) (off2:=2) rfl (Rd.rdF_last (Rd.rd_str (Tryz.underlying9)) rfl (by kernel_rfl))))
theorem rd147:Rd.Rd Tryz.prog 147 k147 wf147:=Rd.rd_struct _ (fun a=>⟨a.1,a.2⟩) (fun _=>rfl) (fun _ h=>h) Tryz.underlying147 (by kernel_rfl) (Rd.rdF_cons (Rd.rd_str (Tryz.underlying9)) rfl (by kernel_rfl) (off2:=1) rfl (Rd.rdF_last (Rd.rd_int (Tryz.underlying2)) rfl (by kernel_rfl)))
theorem rd150:Rd.Rd Tryz.prog 150 k150 wf150:=Rd.rd_struct _ (fun a=>⟨a.1,a.2.1,a.2.2.1,a.2.2.2.1,a.2.2.2.2.1,a.2.2.2.2.2.1,a.2.2.2.2.2.2.1,a.2.2.2.2.2.2.2⟩) (fun _=>rfl) (fun _ h=>h) Tryz.underlying150 (by kernel_rfl) (Rd.rdF_cons (Rd.rd_str (Tryz.underlying9)) rfl (by kernel_rfl) (off2:=1) rfl (Rd.rdF_cons (Rd.rd_str (Tryz.underlying9)) rfl (by kernel_rfl) (off2:=2) rfl (Rd.rdF_cons (Rd.rd_int (Tryz.underlying2)) rfl (by kernel_rfl) (off2:=3) rfl (Rd.rdF_cons (Rd.rd_str (Tryz.underlying9)) rfl (by kernel_rfl) (off2:=4) rfl (Rd.rdF_cons (Rd.rd_int (Tryz.underlying2)) rfl (by kernel_rfl) (off2:=5) rfl (Rd.rdF_cons (Rd.rd_int (Tryz.underlying2)) rfl (by kernel_rfl) (off2:=6) rfl (Rd.rdF_cons (Rd.rd_int (Tryz.underlying2)) rfl (by kernel_rfl) (off2:=7) rfl (Rd.rdF_last (Rd.rd_int (Tryz.underlying2)) rfl (by kernel_rfl)))))))))
theorem rd27:Rd.Rd Tryz.prog 27 k27 wf27:=Rd.rd_struct _ (fun a=>⟨a.1,a.2⟩) (fun _=>rfl) (fun _ h=>h) Tryz.underlying27 (by kernel_rfl) (Rd.rdF_cons (Rd.rd_slice Tryz.underlying24 (by kernel_rfl) rd147) rfl (by kernel_rfl) (off2:=1) rfl (Rd.rdF_last (Rd.rd_slice Tryz.underlying25 (by kernel_rfl) rd150) rfl (by kernel_rfl)))
theorem rd101:Rd.Rd Tryz.prog 101 k101 wf101:=Rd.rd_struct _ (fun a=>⟨a.1,a.2.1,a.2.2.1,a.2.2.2.1,a.2.2.2.2.1,a.2.2.2.2.2⟩) (fun _=>rfl) (fun _ h=>h) Tryz.underlying101 (by kernel_rfl) (Rd.rdF_cons (Rd.rd_int (Tryz.underlying2)) rfl (by kernel_rfl) (off2:=1) rfl (Rd.rdF_cons (Rd.rd_str (Tryz.underlying9)) rfl (by kernel_rfl) (off2:=2) rfl (Rd.rdF_cons (Rd.rd_str (Tryz.underlying9)) rfl (by kernel_rfl) (off2:=3) rfl (Rd.rdF_cons (Rd.rd_int (Tryz.underlying2)) rfl (by kernel_rfl) (off2:=4) rfl (Rd.rdF_cons (Rd.rd_str (Tryz.underlying9)) rfl (by kernel_rfl) (off2:=5) rfl (Rd.rdF_last (Rd.rd_int (Tryz.underlying2)) rfl (by kernel_rfl)))))))
theorem rd104:Rd.Rd Tryz.prog 104 k104 wf104:=Rd.rd_struct _ (fun a=>⟨a.1,a.2.1,a.2.2.1,a.2.2.2.1,a.2.2.2.2⟩) (fun _=>rfl) (fun _ h=>h) Tryz.underlying104 (by kernel_rfl) (Rd.rdF_cons (Rd.rd_str (Tryz.underlying9)) rfl (by kernel_rfl) (off2:=1) rfl (Rd.rdF_cons (Rd.rd_int (Tryz.underlying2)) rfl (by kernel_rfl) (off2:=2) rfl (Rd.rdF_cons (Rd.rd_str (Tryz.underlying9)) rfl (by kernel_rfl) (off2:=3) rfl (Rd.rdF_cons (Rd.rd_int (Tryz.underlying2)) rfl (by kernel_rfl) (off2:=4) rfl (Rd.rdF_last (Rd.rd_int (Tryz.underlying2)) rfl (by kernel_rfl))))))
theorem rd31:Rd.Rd Tryz.prog 31 k31 wf31:=Rd.rd_struct _ (fun a=>⟨a.1,a.2.1,a.2.2.1,a.2.2.2.1,a.2.2.2.2.1,a.2.2.2.2.2.1,a.2.2.2.2.2.2⟩) (fun _=>rfl) (fun _ h=>h) Tryz.underlying31 (by kernel_rfl) (Rd.rdF_cons (Rd.rd_str (Tryz.underlying9)) rfl (by kernel_rfl) (off2:=1) rfl (Rd.rdF_cons (Rd.rd_int (Tryz.underlying2)) rfl (by kernel_rfl) (off2:=2) rfl (Rd.rdF_cons (Rd.rd_slice Tryz.underlying22 (by kernel_rfl) rd93) rfl (by kernel_rfl) (off2:=3) rfl (Rd.rdF_cons (Rd.rd_slice Tryz.underlying23 (by kernel_rfl) rd96) rfl (by kernel_rfl) (off2:=4) rfl (Rd.rdF_cons rd27 rfl (by kernel_rfl) (off2:=6) rfl (Rd.rdF_cons (Rd.rd_slice Tryz.underlying28 (by kernel_rfl) rd101) rfl (by kernel_rfl) (off2:=7) rfl (Rd.rdF_last (Rd.rd_slice Tryz.underlying29 (by kernel_rfl) rd104) rfl (by kernel_rfl))))))))
end Go.Proofs.YtomoflpgdbjojaaGreat.QO
namespace Go.Proofs.YtomoflpgdbjojaaGreat.QO
open Go.Proofs.YtomoflpgdbjojaaGreat Go.Proofs.YtomoflpgdbjojaaGreatW.PrintWords
def laws_FnExactGatePartner.Pure:Prop:=∀ (a0_0:ByteArray) (a0_1:Int) (l0_2:List (S93)) (l0_3:List (S96)) (l0_4:List (S147)) (l0_5:List (S150)) (l0_6:List (S101)) (l0_7:List (S104)) (a1:ByteArray),Rd.WfStr a0_0→(Rd.WfInt .i64) a0_1→(Rd.WfRow wf93) l0_2→(Rd.WfRow wf96) l0_3→(Rd.WfRow wf147) l0_4→(Rd.WfRow wf150) l0_5→(Rd.WfRow wf101) l0_6→(Rd.WfRow wf104) l0_7→Rd.WfStr a1→∃ k,laws_FnExactGatePartner.f k a0_0 a0_1 l0_2 l0_3 l0_4 l0_5 l0_6 l0_7 a1=some true
end Go.Proofs.YtomoflpgdbjojaaGreat.QO
