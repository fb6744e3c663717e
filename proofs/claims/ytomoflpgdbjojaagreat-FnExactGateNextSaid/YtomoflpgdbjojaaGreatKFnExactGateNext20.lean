-- Merged by a program of this session (wip/tool/pack.py) out of its own texts for this claim.
import Derived.Test.YtomoflpgdbjojaaGreatKFnExactGateNext19
set_option maxHeartbeats 8000000
set_option maxRecDepth 100000
set_option linter.unusedSimpArgs false
set_option linter.unusedVariables false
namespace Go.Proofs.YtomoflpgdbjojaaGreat.QN
open Go.RowKit Go.Proofs.YtomoflpgdbjojaaGreatW.PrintWords Go.Proofs.YtomoflpgdbjojaaGreatW.PrintLast Go.Proofs.YtomoflpgdbjojaaGreatW.PrintMore
attribute [local go_sem] max2_int min2_int max_two min_two max_three min_three max_four min_four   -- for this text's walks alone
def laws_eqPartnerS.T6:Bool × List (List Nat × List Nat):=(true,[([],[]),([],[]),([0,1],[0,1]),([2],[2]),([],[]),([],[]),([4,5],[4,5]),([6],[6]),([3,7],[3,7]),([8],[8])])
def laws_eqPartnerS.B6:List Nat:=[0,0,3,7,0,0,48,112,255,511]
theorem laws_eqPartnerS.tab6:rtab .any (opsOf Tryz.f33 6)=laws_eqPartnerS.T6:=by kernel_rfl
theorem laws_eqPartnerS.bits6:waitsOk laws_eqPartnerS.T6.2 laws_eqPartnerS.B6=true:=by kernel_rfl
theorem laws_eqPartnerS.calls (k:Nat) (A0:Option Addr) (c0:Nat) (l0:List (S83)) (A1:Option Addr) (c1:Nat) (l1:List (S83)) (r:Bool) (w:World) (hr0:Kd.C k83 w A0 l0.length l0) (hc0:l0.length≤c0) (hr1:Kd.C k83 w A1 l1.length l1) (hc1:l1.length≤c1) (H:laws_eqPartnerS.f k l0 l1=some r) :
  Calls Tryz.prog 33 #[.slice A0 l0.length c0,.slice A1 l1.length c1] w fun e w'=>e=.returned (.bool r)∧Below w.heap.size w w':=by
 have hu83:=Tryz.underlying83;have HR0:=am hr0;have HC0:=am hc0;clear hr0 hc0;have HR1:=am hr1;have HC1:=am hc1;clear hr1 hc1;have HB:=am (Below.refl w.heap.size w);unfold laws_eqPartnerS.f at H
 revert H;refine ie2k ?_ ?_
 ·intro c3 c3b0 c3b1 H
  have c3b2:(l0.length == l1.length)=true:=by first|simpa using c3|(simp at c3 ⊢;omega)
  clear c3;have H':=am H;clear H
  go_in
  go_wp2
  go_loopg [5] k (fun kq v5 w'=>∃ (x5_1:Int),v5=.int .i64 x5_1∧Aside0 (laws_eqPartnerS.l0 kq l0 l1 x5_1=some r)∧Aside0 (kq≤k)∧Aside0 (Below w.heap.size w w'))
  case atStart=>exact ⟨(0),fg,H',⟨Nat.le_refl _⟩,⟨bs HB⟩⟩
  case round =>
   clear H'
   try clear c1
   try clear c3
   try clear c3b0
   try clear c3b1
   try clear c3b2
   obtain ⟨x5_1,rfl,HA,HK1,HB⟩:=hrel
   cases gk with
   | zero=>exact absurd HA.out (by simp [laws_eqPartnerS.l0])
   | succ k1 =>
    have H:=HA.out;clear HA;simp only [laws_eqPartnerS.l0] at H
    revert H;refine id2 ?_ ?_
    ·intro c4b0 H
     revert H;refine id1 ?_
     intro c5b0 H
     revert H;refine id1 ?_
     intro c6b0 H;replace H:=bo H;obtain ⟨t15,A7,H⟩:=H
     obtain rfl|rfl:=bt t15
     ·replace H:=itT H;have H':=am H;clear H
      try go_wp2
      replace HB:=am (below_drew1 HB.out);have p13:0≤(x5_1:Int):=oa;have q13:x5_1<(l0.length:Int):=oa;obtain ⟨ad13,A13_3,c13_3,e13,hx13_0,hx13_1,hx13_2,hx13_3,hl13_3,hi13_3⟩:=at_T83 HR0.out x5_1 p13 q13;have hw13_3:=hx13_3;have hw13_2:=hx13_2;have hw13_1:=hx13_1;have hw13_0:=hx13_0
      cases e13
      replace hx13_0:=cb HB hx13_0;replace hx13_1:=cb HB hx13_1;replace hx13_2:=cb HB hx13_2;replace hx13_3:=cb HB hx13_3;have HR13_3:=am hi13_3;have HC13_3:=am hl13_3;clear hi13_3 hl13_3;replace p13:=eq_true p13;replace q13:=eq_true q13;have p14:0≤(x5_1:Int):=oa;have q14:x5_1<(l1.length:Int):=oa;obtain ⟨ad14,A14_3,c14_3,e14,hx14_0,hx14_1,hx14_2,hx14_3,hl14_3,hi14_3⟩:=at_T83 HR1.out x5_1 p14 q14;have hw14_3:=hx14_3;have hw14_2:=hx14_2;have hw14_1:=hx14_1;have hw14_0:=hx14_0
      cases e14
      replace hx14_0:=cb HB hx14_0;replace hx14_1:=cb HB hx14_1;replace hx14_2:=cb HB hx14_2;replace hx14_3:=cb HB hx14_3;have HR14_3:=am hi14_3;have HC14_3:=am hl14_3;clear hi14_3 hl14_3;replace p14:=eq_true p14;replace q14:=eq_true q14;refine sta 10 (hca (cb HB hw13_0) (hca (cb HB hw13_1) (hca (cb HB hw13_2) (hca (cb HB hw13_3) (hca (cb HB hw14_0) (hca (cb HB hw14_1) (hca (cb HB hw14_2) (hc (cb HB hw14_3))))))))) (fun hHeld=>?_);refine with_tabW laws_eqPartnerS.tab6 laws_eqPartnerS.bits6 (fun HT_ HW_=>?_)
      generalize wr.drew=w9 at HB HR13_3 HR14_3 hx13_0 hx13_1 hx13_2 hx13_3 hx14_0 hx14_1 hx14_2 hx14_3 hHeld ⊢
      refine pA 0 17 HT_ ?_;refine pA 1 18 HT_ ?_;refine pA 2 19 HT_ ?_;refine pA 4 21 HT_ ?_;refine pA 5 22 HT_ ?_;refine pA 6 23 HT_ ?_;refine tA 3 20 HT_ HW_ hHeld ?_;refine tA 7 24 HT_ HW_ hHeld ?_;refine oA 8 25 HT_ (fun K hK=>?_);refine gA Tryz.func88 #[.agg #[.string ((rd_T83 l0 x5_1).f0),.int .i64 ((rd_T83 l0 x5_1).f1),.int .i64 ((rd_T83 l0 x5_1).f2),.slice A13_3 ((rd_T83 l0 x5_1).f3).length c13_3],.agg #[.string ((rd_T83 l1 x5_1).f0),.int .i64 ((rd_T83 l1 x5_1).f1),.int .i64 ((rd_T83 l1 x5_1).f2),.slice A14_3 ((rd_T83 l1 x5_1).f3).length c14_3]] ?_;(with_reducible refine (laws_eqPartner.calls k1 ((rd_T83 l0 x5_1).f0) ((rd_T83 l0 x5_1).f1) ((rd_T83 l0 x5_1).f2) _ _ ((rd_T83 l0 x5_1).f3) ((rd_T83 l1 x5_1).f0) ((rd_T83 l1 x5_1).f1) ((rd_T83 l1 x5_1).f2) _ _ ((rd_T83 l1 x5_1).f3) true _ ?side1 ?side2 ?side3 ?side4 A7.out).mono ?_)
      (case side1=>exact sd (Kd.C_below HR13_3.out HB.out))
      (case side2=>exact HC13_3.out)
      (case side3=>exact sd (Kd.C_below HR14_3.out HB.out))
      (case side4=>exact HC14_3.out)
      rintro e w10 ⟨rfl,hb⟩;refine ⟨_,rfl,?_⟩;replace HB:=bq HB hb;(try clear hb);(try clear hb2);(try clear hk);(try clear hi);refine hK.out _ _ (hca (cb HB hw13_0) (hca (cb HB hw13_1) (hca (cb HB hw13_2) (hca (cb HB hw13_3) (hca (cb HB hw14_0) (hca (cb HB hw14_1) (hca (cb HB hw14_2) (hc (cb HB hw14_3))))))))).out (fun hHeld=>?_);clear hK K;refine nA 25 ?_;refine pA 9 26 HT_ ?_;refine done_ (done_of HT_.out (by kernel_rfl)) ?_
      try go_wp2
      go_roundg k1
      case measure=>have:=HK1.out;omega
      case rel=>exact ⟨(wrap64 (x5_1+1)),fg,H',⟨by have:=HK1.out;omega⟩,⟨bs HB⟩⟩
     ·replace H:=itF H;obtain rfl:=si H
      try go_wp2
      replace HB:=am (below_drew1 HB.out);have p13:0≤(x5_1:Int):=oa;have q13:x5_1<(l0.length:Int):=oa;obtain ⟨ad13,A13_3,c13_3,e13,hx13_0,hx13_1,hx13_2,hx13_3,hl13_3,hi13_3⟩:=at_T83 HR0.out x5_1 p13 q13;have hw13_3:=hx13_3;have hw13_2:=hx13_2;have hw13_1:=hx13_1;have hw13_0:=hx13_0
      cases e13
      replace hx13_0:=cb HB hx13_0;replace hx13_1:=cb HB hx13_1;replace hx13_2:=cb HB hx13_2;replace hx13_3:=cb HB hx13_3;have HR13_3:=am hi13_3;have HC13_3:=am hl13_3;clear hi13_3 hl13_3;replace p13:=eq_true p13;replace q13:=eq_true q13;have p14:0≤(x5_1:Int):=oa;have q14:x5_1<(l1.length:Int):=oa;obtain ⟨ad14,A14_3,c14_3,e14,hx14_0,hx14_1,hx14_2,hx14_3,hl14_3,hi14_3⟩:=at_T83 HR1.out x5_1 p14 q14;have hw14_3:=hx14_3;have hw14_2:=hx14_2;have hw14_1:=hx14_1;have hw14_0:=hx14_0
      cases e14
      replace hx14_0:=cb HB hx14_0;replace hx14_1:=cb HB hx14_1;replace hx14_2:=cb HB hx14_2;replace hx14_3:=cb HB hx14_3;have HR14_3:=am hi14_3;have HC14_3:=am hl14_3;clear hi14_3 hl14_3;replace p14:=eq_true p14;replace q14:=eq_true q14;refine sta 10 (hca (cb HB hw13_0) (hca (cb HB hw13_1) (hca (cb HB hw13_2) (hca (cb HB hw13_3) (hca (cb HB hw14_0) (hca (cb HB hw14_1) (hca (cb HB hw14_2) (hc (cb HB hw14_3))))))))) (fun hHeld=>?_);refine with_tabW laws_eqPartnerS.tab6 laws_eqPartnerS.bits6 (fun HT_ HW_=>?_)
      generalize wr.drew=w11 at HB HR13_3 HR14_3 hx13_0 hx13_1 hx13_2 hx13_3 hx14_0 hx14_1 hx14_2 hx14_3 hHeld ⊢
      refine pA 0 17 HT_ ?_;refine pA 1 18 HT_ ?_;refine pA 2 19 HT_ ?_;refine pA 4 21 HT_ ?_;refine pA 5 22 HT_ ?_;refine pA 6 23 HT_ ?_;refine tA 3 20 HT_ HW_ hHeld ?_;refine tA 7 24 HT_ HW_ hHeld ?_;refine oA 8 25 HT_ (fun K hK=>?_);refine gA Tryz.func88 #[.agg #[.string ((rd_T83 l0 x5_1).f0),.int .i64 ((rd_T83 l0 x5_1).f1),.int .i64 ((rd_T83 l0 x5_1).f2),.slice A13_3 ((rd_T83 l0 x5_1).f3).length c13_3],.agg #[.string ((rd_T83 l1 x5_1).f0),.int .i64 ((rd_T83 l1 x5_1).f1),.int .i64 ((rd_T83 l1 x5_1).f2),.slice A14_3 ((rd_T83 l1 x5_1).f3).length c14_3]] ?_;(with_reducible refine (laws_eqPartner.calls k1 ((rd_T83 l0 x5_1).f0) ((rd_T83 l0 x5_1).f1) ((rd_T83 l0 x5_1).f2) _ _ ((rd_T83 l0 x5_1).f3) ((rd_T83 l1 x5_1).f0) ((rd_T83 l1 x5_1).f1) ((rd_T83 l1 x5_1).f2) _ _ ((rd_T83 l1 x5_1).f3) false _ ?side1 ?side2 ?side3 ?side4 A7.out).mono ?_)
      (case side1=>exact sd (Kd.C_below HR13_3.out HB.out))
      (case side2=>exact HC13_3.out)
      (case side3=>exact sd (Kd.C_below HR14_3.out HB.out))
      (case side4=>exact HC14_3.out)
      rintro e w12 ⟨rfl,hb⟩;refine ⟨_,rfl,?_⟩;replace HB:=bq HB hb;(try clear hb);(try clear hb2);(try clear hk);(try clear hi);refine hK.out _ _ (hca (cb HB hw13_0) (hca (cb HB hw13_1) (hca (cb HB hw13_2) (hca (cb HB hw13_3) (hca (cb HB hw14_0) (hca (cb HB hw14_1) (hca (cb HB hw14_2) (hc (cb HB hw14_3))))))))).out (fun hHeld=>?_);clear hK K;refine nA 25 ?_;refine pA 9 26 HT_ ?_;refine done_ (done_of HT_.out (by kernel_rfl)) ?_
      try go_wp2
      go_ret
      exact ⟨ff,bs HB⟩
    ·intro c4b0 H;obtain rfl:=si H
     go_wp2
     go_ret
     exact ⟨ff,bs HB⟩
 ·intro c3 c3b0 c3b1 H
  have c3b2:(l0.length == l1.length)=false:=by first|simpa using c3|(simp at c3 ⊢;omega)
  obtain rfl:=si H
  go_in
  go_wp2
  go_ret
  exact ⟨ff,bs HB⟩
theorem laws_eqCross.calls (a0_0:ByteArray) (a0_1:ByteArray) (a0_2:ByteArray) (a1_0:ByteArray) (a1_1:ByteArray) (a1_2:ByteArray) (r:Bool) (w:World) (H:laws_eqCross.f a0_0 a0_1 a0_2 a1_0 a1_1 a1_2=some r) :
  Calls Tryz.prog 89 #[.agg #[.string a0_0,.string a0_1,.string a0_2],.agg #[.string a1_0,.string a1_1,.string a1_2]] w fun e w'=>e=.returned (.bool r)∧Below w.heap.size w w':=by
 have hu:=Tryz.underlying114;have HB:=am (Below.refl w.heap.size w);unfold laws_eqCross.f at H
 go_in
 go_upto_region 1 with (first|((with_reducible refine gate_dst (N:=2) rfl ?_);refine bx 2 (cs:=#[.string a0_0,.string a0_1,.string a0_2]) (t:=114) ?_;intro g0 hg wa hbox hb;have B0:=am hbox;replace HB:=bq HB hb;clear hb hbox hg)|((with_reducible refine gate_dst (N:=3) rfl ?_);refine bx 3 (cs:=#[.string a1_0,.string a1_1,.string a1_2]) (t:=114) ?_;intro g1 hg wb hbox hb;have B1:=am hbox;replace HB:=bq HB hb;replace B0:=am (blk_below (ks B0) hb);clear hb hbox hg;have z0:=cf3 B0;have z1:=cf3 B1))
 revert H;refine ie1 ?_
 intro c0b0 c0b1 H
 go_upto_region 3 with (fail)
 revert H;refine ie1 ?_
 intro c1b0 c1b1 H
 go_upto_region 5 with (fail)
 revert H;refine ie1 ?_
 intro c2b0 c2b1 H;obtain rfl:=si H
 go_wp2
 go_ret
 exact ⟨ff,bs HB⟩
theorem laws_eqCrossS.calls (k:Nat) (A0:Option Addr) (c0:Nat) (l0:List (S114)) (A1:Option Addr) (c1:Nat) (l1:List (S114)) (r:Bool) (w:World) (hr0:Kd.C k114 w A0 l0.length l0) (hc0:l0.length≤c0) (hr1:Kd.C k114 w A1 l1.length l1) (hc1:l1.length≤c1) (H:laws_eqCrossS.f k l0 l1=some r) :
  Calls Tryz.prog 34 #[.slice A0 l0.length c0,.slice A1 l1.length c1] w fun e w'=>e=.returned (.bool r)∧Below w.heap.size w w':=by
 have hu:=Tryz.underlying114;have HR0:=am hr0;have HR1:=am hr1;clear hr0 hc0 hr1 hc1;have HB:=am (Below.refl w.heap.size w);unfold laws_eqCrossS.f at H
 go_in
 revert H;refine ie1k ?_
 intro c3 c3b0 c3b1 H
 have c3b2:(l0.length == l1.length)=true:=by first|simpa using c3|(simp at c3 ⊢;omega)
 clear c3;have H':=am H;clear H
 go_wp2
 go_loopg [5] k (fun kq v5 w'=>∃ (x5:Int),v5=.int .i64 x5∧Aside0 (laws_eqCrossS.l0 kq l0 l1 x5=some r)∧Aside0 (kq≤k)∧Aside0 (Below w.heap.size w w'))
 case atStart=>exact ⟨0,fg,H',⟨Nat.le_refl _⟩,⟨bs HB⟩⟩
 case round =>
  clear H';(try clear c3b0);(try clear c3b1);(try clear c3b2);obtain ⟨x5,rfl,HA,HK1,HB⟩:=hrel
  cases gk with
  | zero=>exact absurd HA.out (by simp [laws_eqCrossS.l0])
  | succ k1 =>
   have H:=HA.out;clear HA;simp only [laws_eqCrossS.l0] at H
   revert H;refine id2 ?_ ?_
   ·intro c4b0 H;revert H;refine id1 ?_;intro c5b0 H;revert H;refine id1 ?_;intro c6b0 H;replace H:=bo H;obtain ⟨t,A7,H⟩:=H;have p1:0≤(x5:Int):=oa;have q1:x5<(l0.length:Int):=oa;have q2:x5<(l1.length:Int):=oa;obtain ⟨ad,ea,g0,g1,g2⟩:=at_T114 HR0.out x5 p1 q1;obtain ⟨ae,ee,j0,j1,j2⟩:=at_T114 HR1.out x5 p1 q2;cases ea;cases ee;replace p1:=eq_true p1;replace q1:=eq_true q1;replace q2:=eq_true q2;have G0:=am g0;have J0:=am j0;clear g0 j0;have G1:=am g1;have J1:=am j1;clear g1 j1;have G2:=am g2;have J2:=am j2;clear g2 j2
    try go_wp2
    replace HB:=am (below_drew1 HB.out);refine sta 10 (hca (cb HB G0.out) (hca (cb HB G1.out) (hca (cb HB G2.out) (hca (cb HB J0.out) (hca (cb HB J1.out) (hc (cb HB J2.out))))))) (fun hHeld=>?_);refine with_tabW (show rtab .any (opsOf Tryz.f34 6)=laws_eqT from by kernel_rfl) (show waitsOk laws_eqT.2 laws_eqB=true from by kernel_rfl) (fun HT_ HW_=>?_)
    generalize wr.drew=wa at HB hHeld ⊢
    refine pA 0 17 HT_ ?_;refine pA 1 18 HT_ ?_;refine pA 2 19 HT_ ?_;refine pA 4 21 HT_ ?_;refine pA 5 22 HT_ ?_;refine pA 6 23 HT_ ?_;refine tA 3 20 HT_ HW_ hHeld ?_;refine tA 7 24 HT_ HW_ hHeld ?_;refine oA 8 25 HT_ (fun K hK=>?_);refine gA Tryz.func89 #[.agg #[.string (rd_T114 l0 x5).f0,.string (rd_T114 l0 x5).f1,.string (rd_T114 l0 x5).f2],.agg #[.string (rd_T114 l1 x5).f0,.string (rd_T114 l1 x5).f1,.string (rd_T114 l1 x5).f2]] ?_;(with_reducible refine (laws_eqCross.calls ((rd_T114 l0 x5).f0) ((rd_T114 l0 x5).f1) ((rd_T114 l0 x5).f2) ((rd_T114 l1 x5).f0) ((rd_T114 l1 x5).f1) ((rd_T114 l1 x5).f2) t _ A7.out).mono ?_);rintro e wb ⟨rfl,hb⟩;refine ⟨_,rfl,?_⟩;replace HB:=bq HB hb;clear hb;refine hK.out _ _ (hca (cb HB G0.out) (hca (cb HB G1.out) (hca (cb HB G2.out) (hca (cb HB J0.out) (hca (cb HB J1.out) (hc (cb HB J2.out))))))).out (fun hHeld=>?_);clear hK K;refine nA 25 ?_;refine pA 9 26 HT_ ?_;refine done_ (done_of HT_.out (by kernel_rfl)) ?_;clear HT_ HW_ hHeld
    obtain rfl|rfl:=bt t;rotate_left
    ·replace H:=itF H;cases H
    replace H:=itT H;have H':=am H;clear H
    try go_wp2
    go_roundg k1
    case measure=>have:=HK1.out;omega
    case rel=>exact ⟨wrap64 (x5+1),fg,H',⟨by have:=HK1.out;omega⟩,⟨bs HB⟩⟩
   ·intro c4b0 H;obtain rfl:=si H
    go_wp2
    go_ret
    exact ⟨ff,bs HB⟩
theorem laws_eqStock.calls (a0_0:ByteArray) (a0_1:Int) (a1_0:ByteArray) (a1_1:Int) (r:Bool) (w:World) (H:laws_eqStock.f a0_0 a0_1 a1_0 a1_1=some r) :
  Calls Tryz.prog 136 #[.agg #[.string a0_0,.int .i64 a0_1],.agg #[.string a1_0,.int .i64 a1_1]] w fun e w'=>e=.returned (.bool r)∧Below w.heap.size w w':=by
 have hu:=Tryz.underlying152;have HB:=am (Below.refl w.heap.size w);unfold laws_eqStock.f at H
 go_in
 go_upto_region 1 with (first|((with_reducible refine gate_dst (N:=2) rfl ?_);refine bx 2 (cs:=#[.string a0_0,.int .i64 a0_1]) (t:=152) ?_;intro g0 hg wa hbox hb;have B0:=am hbox;replace HB:=bq HB hb;clear hb hbox hg)|((with_reducible refine gate_dst (N:=3) rfl ?_);refine bx 3 (cs:=#[.string a1_0,.int .i64 a1_1]) (t:=152) ?_;intro g1 hg wb hbox hb;have B1:=am hbox;replace HB:=bq HB hb;replace B0:=am (blk_below (ks B0) hb);clear hb hbox hg;have z0:=cf2 B0;have z1:=cf2 B1))
 revert H;refine ie1 ?_
 intro c0b0 c0b1 H
 go_upto_region 3 with (fail)
 revert H;refine ie1 ?_
 intro c1b0 c1b1 H;obtain rfl:=si H
 go_wp2
 go_ret
 exact ⟨ff,bs HB⟩
theorem laws_eqStockS.calls (k:Nat) (A0:Option Addr) (c0:Nat) (l0:List (S152)) (A1:Option Addr) (c1:Nat) (l1:List (S152)) (r:Bool) (w:World) (hr0:Kd.C k152 w A0 l0.length l0) (hc0:l0.length≤c0) (hr1:Kd.C k152 w A1 l1.length l1) (hc1:l1.length≤c1) (H:laws_eqStockS.f k l0 l1=some r) :
  Calls Tryz.prog 90 #[.slice A0 l0.length c0,.slice A1 l1.length c1] w fun e w'=>e=.returned (.bool r)∧Below w.heap.size w w':=by
 have hu:=Tryz.underlying152;have HR0:=am hr0;have HR1:=am hr1;clear hr0 hc0 hr1 hc1;have HB:=am (Below.refl w.heap.size w);unfold laws_eqStockS.f at H
 go_in
 revert H;refine ie1k ?_
 intro c3 c3b0 c3b1 H
 have c3b2:(l0.length == l1.length)=true:=by first|simpa using c3|(simp at c3 ⊢;omega)
 clear c3;have H':=am H;clear H
 go_wp2
 go_loopg [5] k (fun kq v5 w'=>∃ (x5:Int),v5=.int .i64 x5∧Aside0 (laws_eqStockS.l0 kq l0 l1 x5=some r)∧Aside0 (kq≤k)∧Aside0 (Below w.heap.size w w'))
 case atStart=>exact ⟨0,fg,H',⟨Nat.le_refl _⟩,⟨bs HB⟩⟩
 case round =>
  clear H';(try clear c3b0);(try clear c3b1);(try clear c3b2);obtain ⟨x5,rfl,HA,HK1,HB⟩:=hrel
  cases gk with
  | zero=>exact absurd HA.out (by simp [laws_eqStockS.l0])
  | succ k1 =>
   have H:=HA.out;clear HA;simp only [laws_eqStockS.l0] at H
   revert H;refine id2 ?_ ?_
   ·intro c4b0 H;revert H;refine id1 ?_;intro c5b0 H;revert H;refine id1 ?_;intro c6b0 H;replace H:=bo H;obtain ⟨t,A7,H⟩:=H;have p1:0≤(x5:Int):=oa;have q1:x5<(l0.length:Int):=oa;have q2:x5<(l1.length:Int):=oa;obtain ⟨ad,ea,g0,g1⟩:=at_T152 HR0.out x5 p1 q1;obtain ⟨ae,ee,j0,j1⟩:=at_T152 HR1.out x5 p1 q2;cases ea;cases ee;replace p1:=eq_true p1;replace q1:=eq_true q1;replace q2:=eq_true q2;have G0:=am g0;have J0:=am j0;clear g0 j0;have G1:=am g1;have J1:=am j1;clear g1 j1
    try go_wp2
    replace HB:=am (below_drew1 HB.out);refine sta 10 (hca (cb HB G0.out) (hca (cb HB G1.out) (hca (cb HB J0.out) (hc (cb HB J1.out))))) (fun hHeld=>?_);refine with_tabW (show rtab .any (opsOf Tryz.f90 6)=laws_eqT from by kernel_rfl) (show waitsOk laws_eqT.2 laws_eqB=true from by kernel_rfl) (fun HT_ HW_=>?_)
    generalize wr.drew=wa at HB hHeld ⊢
    refine pA 0 17 HT_ ?_;refine pA 1 18 HT_ ?_;refine pA 2 19 HT_ ?_;refine pA 4 21 HT_ ?_;refine pA 5 22 HT_ ?_;refine pA 6 23 HT_ ?_;refine tA 3 20 HT_ HW_ hHeld ?_;refine tA 7 24 HT_ HW_ hHeld ?_;refine oA 8 25 HT_ (fun K hK=>?_);refine gA Tryz.func136 #[.agg #[.string (rd_T152 l0 x5).f0,.int .i64 (rd_T152 l0 x5).f1],.agg #[.string (rd_T152 l1 x5).f0,.int .i64 (rd_T152 l1 x5).f1]] ?_;(with_reducible refine (laws_eqStock.calls ((rd_T152 l0 x5).f0) ((rd_T152 l0 x5).f1) ((rd_T152 l1 x5).f0) ((rd_T152 l1 x5).f1) t _ A7.out).mono ?_);rintro e wb ⟨rfl,hb⟩;refine ⟨_,rfl,?_⟩;replace HB:=bq HB hb;clear hb;refine hK.out _ _ (hca (cb HB G0.out) (hca (cb HB G1.out) (hca (cb HB J0.out) (hc (cb HB J1.out))))).out (fun hHeld=>?_);clear hK K;refine nA 25 ?_;refine pA 9 26 HT_ ?_;refine done_ (done_of HT_.out (by kernel_rfl)) ?_;clear HT_ HW_ hHeld
    obtain rfl|rfl:=bt t;rotate_left
    ·replace H:=itF H;cases H
    replace H:=itT H;have H':=am H;clear H
    try go_wp2
    go_roundg k1
    case measure=>have:=HK1.out;omega
    case rel=>exact ⟨wrap64 (x5+1),fg,H',⟨by have:=HK1.out;omega⟩,⟨bs HB⟩⟩
   ·intro c4b0 H;obtain rfl:=si H
    go_wp2
    go_ret
    exact ⟨ff,bs HB⟩
theorem laws_eqOrderLine.calls (a0_0:ByteArray) (a0_1:ByteArray) (a0_2:Int) (a0_3:ByteArray) (a0_4:Int) (a0_5:Int) (a0_6:Int) (a0_7:Int) (a1_0:ByteArray) (a1_1:ByteArray) (a1_2:Int) (a1_3:ByteArray) (a1_4:Int) (a1_5:Int) (a1_6:Int) (a1_7:Int) (r:Bool) (w:World) (H:laws_eqOrderLine.f a0_0 a0_1 a0_2 a0_3 a0_4 a0_5 a0_6 a0_7 a1_0 a1_1 a1_2 a1_3 a1_4 a1_5 a1_6 a1_7=some r) :
  Calls Tryz.prog 137 #[.agg #[.string a0_0,.string a0_1,.int .i64 a0_2,.string a0_3,.int .i64 a0_4,.int .i64 a0_5,.int .i64 a0_6,.int .i64 a0_7],.agg #[.string a1_0,.string a1_1,.int .i64 a1_2,.string a1_3,.int .i64 a1_4,.int .i64 a1_5,.int .i64 a1_6,.int .i64 a1_7]] w fun e w'=>e=.returned (.bool r)∧Below w.heap.size w w':=by
 have hu:=Tryz.underlying161;have HB:=am (Below.refl w.heap.size w);unfold laws_eqOrderLine.f at H
 go_in
 go_upto_region 1 with (first|((with_reducible refine gate_dst (N:=2) rfl ?_);refine bx 2 (cs:=#[.string a0_0,.string a0_1,.int .i64 a0_2,.string a0_3,.int .i64 a0_4,.int .i64 a0_5,.int .i64 a0_6,.int .i64 a0_7]) (t:=161) ?_;intro g0 hg wa hbox hb;have B0:=am hbox;replace HB:=bq HB hb;clear hb hbox hg)|((with_reducible refine gate_dst (N:=3) rfl ?_);refine bx 3 (cs:=#[.string a1_0,.string a1_1,.int .i64 a1_2,.string a1_3,.int .i64 a1_4,.int .i64 a1_5,.int .i64 a1_6,.int .i64 a1_7]) (t:=161) ?_;intro g1 hg wb hbox hb;have B1:=am hbox;replace HB:=bq HB hb;replace B0:=am (blk_below (ks B0) hb);clear hb hbox hg;have z0:=cf8 B0;have z1:=cf8 B1))
 revert H;refine ie1 ?_
 intro c0b0 c0b1 H
 go_upto_region 3 with (fail)
 revert H;refine ie1 ?_
 intro c1b0 c1b1 H
 go_upto_region 5 with (fail)
 revert H;refine ie1 ?_
 intro c2b0 c2b1 H
 go_upto_region 7 with (fail)
 revert H;refine ie1 ?_
 intro c3b0 c3b1 H
 go_upto_region 9 with (fail)
 revert H;refine ie1 ?_
 intro c4b0 c4b1 H
 go_upto_region 11 with (fail)
 revert H;refine ie1 ?_
 intro c5b0 c5b1 H
 go_upto_region 13 with (fail)
 revert H;refine ie1 ?_
 intro c6b0 c6b1 H
 go_upto_region 15 with (fail)
 revert H;refine ie1 ?_
 intro c7b0 c7b1 H;obtain rfl:=si H
 go_wp2
 go_ret
 exact ⟨ff,bs HB⟩
theorem laws_eqOrderLineS.calls (k:Nat) (A0:Option Addr) (c0:Nat) (l0:List (S161)) (A1:Option Addr) (c1:Nat) (l1:List (S161)) (r:Bool) (w:World) (hr0:Kd.C k161 w A0 l0.length l0) (hc0:l0.length≤c0) (hr1:Kd.C k161 w A1 l1.length l1) (hc1:l1.length≤c1) (H:laws_eqOrderLineS.f k l0 l1=some r) :
  Calls Tryz.prog 91 #[.slice A0 l0.length c0,.slice A1 l1.length c1] w fun e w'=>e=.returned (.bool r)∧Below w.heap.size w w':=by
 have hu:=Tryz.underlying161;have HR0:=am hr0;have HR1:=am hr1;clear hr0 hc0 hr1 hc1;have HB:=am (Below.refl w.heap.size w);unfold laws_eqOrderLineS.f at H
 go_in
 revert H;refine ie1k ?_
 intro c3 c3b0 c3b1 H
 have c3b2:(l0.length == l1.length)=true:=by first|simpa using c3|(simp at c3 ⊢;omega)
 clear c3;have H':=am H;clear H
 go_wp2
 go_loopg [5] k (fun kq v5 w'=>∃ (x5:Int),v5=.int .i64 x5∧Aside0 (laws_eqOrderLineS.l0 kq l0 l1 x5=some r)∧Aside0 (kq≤k)∧Aside0 (Below w.heap.size w w'))
 case atStart=>exact ⟨0,fg,H',⟨Nat.le_refl _⟩,⟨bs HB⟩⟩
 case round =>
  clear H';(try clear c3b0);(try clear c3b1);(try clear c3b2);obtain ⟨x5,rfl,HA,HK1,HB⟩:=hrel
  cases gk with
  | zero=>exact absurd HA.out (by simp [laws_eqOrderLineS.l0])
  | succ k1 =>
   have H:=HA.out;clear HA;simp only [laws_eqOrderLineS.l0] at H
   revert H;refine id2 ?_ ?_
   ·intro c4b0 H;revert H;refine id1 ?_;intro c5b0 H;revert H;refine id1 ?_;intro c6b0 H;replace H:=bo H;obtain ⟨t,A7,H⟩:=H;have p1:0≤(x5:Int):=oa;have q1:x5<(l0.length:Int):=oa;have q2:x5<(l1.length:Int):=oa;obtain ⟨ad,ea,g0,g1,g2,g3,g4,g5,g6,g7⟩:=at_T161 HR0.out x5 p1 q1;obtain ⟨ae,ee,j0,j1,j2,j3,j4,j5,j6,j7⟩:=at_T161 HR1.out x5 p1 q2;cases ea;cases ee;replace p1:=eq_true p1;replace q1:=eq_true q1;replace q2:=eq_true q2;have G0:=am g0;have J0:=am j0;clear g0 j0;have G1:=am g1;have J1:=am j1;clear g1 j1;have G2:=am g2;have J2:=am j2;clear g2 j2;have G3:=am g3;have J3:=am j3;clear g3 j3;have G4:=am g4;have J4:=am j4;clear g4 j4;have G5:=am g5;have J5:=am j5;clear g5 j5;have G6:=am g6;have J6:=am j6;clear g6 j6;have G7:=am g7;have J7:=am j7;clear g7 j7
    try go_wp2
    replace HB:=am (below_drew1 HB.out);refine sta 10 (hca (cb HB G0.out) (hca (cb HB G1.out) (hca (cb HB G2.out) (hca (cb HB G3.out) (hca (cb HB G4.out) (hca (cb HB G5.out) (hca (cb HB G6.out) (hca (cb HB G7.out) (hca (cb HB J0.out) (hca (cb HB J1.out) (hca (cb HB J2.out) (hca (cb HB J3.out) (hca (cb HB J4.out) (hca (cb HB J5.out) (hca (cb HB J6.out) (hc (cb HB J7.out))))))))))))))))) (fun hHeld=>?_);refine with_tabW (show rtab .any (opsOf Tryz.f91 6)=laws_eqT from by kernel_rfl) (show waitsOk laws_eqT.2 laws_eqB=true from by kernel_rfl) (fun HT_ HW_=>?_)
    generalize wr.drew=wa at HB hHeld ⊢
    refine pA 0 17 HT_ ?_;refine pA 1 18 HT_ ?_;refine pA 2 19 HT_ ?_;refine pA 4 21 HT_ ?_;refine pA 5 22 HT_ ?_;refine pA 6 23 HT_ ?_;refine tA 3 20 HT_ HW_ hHeld ?_;refine tA 7 24 HT_ HW_ hHeld ?_;refine oA 8 25 HT_ (fun K hK=>?_);refine gA Tryz.func137 #[.agg #[.string (rd_T161 l0 x5).f0,.string (rd_T161 l0 x5).f1,.int .i64 (rd_T161 l0 x5).f2,.string (rd_T161 l0 x5).f3,.int .i64 (rd_T161 l0 x5).f4,.int .i64 (rd_T161 l0 x5).f5,.int .i64 (rd_T161 l0 x5).f6,.int .i64 (rd_T161 l0 x5).f7],.agg #[.string (rd_T161 l1 x5).f0,.string (rd_T161 l1 x5).f1,.int .i64 (rd_T161 l1 x5).f2,.string (rd_T161 l1 x5).f3,.int .i64 (rd_T161 l1 x5).f4,.int .i64 (rd_T161 l1 x5).f5,.int .i64 (rd_T161 l1 x5).f6,.int .i64 (rd_T161 l1 x5).f7]] ?_;(with_reducible refine (laws_eqOrderLine.calls ((rd_T161 l0 x5).f0) ((rd_T161 l0 x5).f1) ((rd_T161 l0 x5).f2) ((rd_T161 l0 x5).f3) ((rd_T161 l0 x5).f4) ((rd_T161 l0 x5).f5) ((rd_T161 l0 x5).f6) ((rd_T161 l0 x5).f7) ((rd_T161 l1 x5).f0) ((rd_T161 l1 x5).f1) ((rd_T161 l1 x5).f2) ((rd_T161 l1 x5).f3) ((rd_T161 l1 x5).f4) ((rd_T161 l1 x5).f5) ((rd_T161 l1 x5).f6) ((rd_T161 l1 x5).f7) t _ A7.out).mono ?_);rintro e wb ⟨rfl,hb⟩;refine ⟨_,rfl,?_⟩;replace HB:=bq HB hb;clear hb;refine hK.out _ _ (hca (cb HB G0.out) (hca (cb HB G1.out) (hca (cb HB G2.out) (hca (cb HB G3.out) (hca (cb HB G4.out) (hca (cb HB G5.out) (hca (cb HB G6.out) (hca (cb HB G7.out) (hca (cb HB J0.out) (hca (cb HB J1.out) (hca (cb HB J2.out) (hca (cb HB J3.out) (hca (cb HB J4.out) (hca (cb HB J5.out) (hca (cb HB J6.out) (hc (cb HB J7.out))))))))))))))))).out (fun hHeld=>?_);clear hK K;refine nA 25 ?_;refine pA 9 26 HT_ ?_;refine done_ (done_of HT_.out (by kernel_rfl)) ?_;clear HT_ HW_ hHeld
    obtain rfl|rfl:=bt t;rotate_left
    ·replace H:=itF H;cases H
    replace H:=itT H;have H':=am H;clear H
    try go_wp2
    go_roundg k1
    case measure=>have:=HK1.out;omega
    case rel=>exact ⟨wrap64 (x5+1),fg,H',⟨by have:=HK1.out;omega⟩,⟨bs HB⟩⟩
   ·intro c4b0 H;obtain rfl:=si H
    go_wp2
    go_ret
    exact ⟨ff,bs HB⟩
theorem laws_eqBook.calls (k:Nat) (A0_0:Option Addr) (c0_0:Nat) (l0_0:List (S152)) (A0_1:Option Addr) (c0_1:Nat) (l0_1:List (S161)) (A1_0:Option Addr) (c1_0:Nat) (l1_0:List (S152)) (A1_1:Option Addr) (c1_1:Nat) (l1_1:List (S161)) (r:Bool) (w:World) (hr0_0:Kd.C k152 w A0_0 l0_0.length l0_0) (hc0_0:l0_0.length≤c0_0) (hr0_1:Kd.C k161 w A0_1 l0_1.length l0_1) (hc0_1:l0_1.length≤c0_1) (hr1_0:Kd.C k152 w A1_0 l1_0.length l1_0) (hc1_0:l1_0.length≤c1_0) (hr1_1:Kd.C k161 w A1_1 l1_1.length l1_1) (hc1_1:l1_1.length≤c1_1) (H:laws_eqBook.f k l0_0 l0_1 l1_0 l1_1=some r) :
  Calls Tryz.prog 35 #[.agg #[.slice A0_0 l0_0.length c0_0,.slice A0_1 l0_1.length c0_1],.agg #[.slice A1_0 l1_0.length c1_0,.slice A1_1 l1_1.length c1_1]] w fun e w'=>e=.returned (.bool r)∧Below w.heap.size w w':=by
 have hu38:=Tryz.underlying38;have HR0_0:=am hr0_0;have HC0_0:=am hc0_0;clear hr0_0 hc0_0;have HR0_1:=am hr0_1;have HC0_1:=am hc0_1;clear hr0_1 hc0_1;have HR1_0:=am hr1_0;have HC1_0:=am hc1_0;clear hr1_0 hc1_0;have HR1_1:=am hr1_1;have HC1_1:=am hc1_1;clear hr1_1 hc1_1;have HB:=am (Below.refl w.heap.size w);unfold laws_eqBook.f at H;replace H:=bo H;obtain ⟨t17,A3,H⟩:=H
 go_in
 try go_wp2_with (first|((with_reducible refine gate_dst (N:=2) rfl ?_);refine bz 2 (cs:=#[.slice A0_0 l0_0.length c0_0,.slice A0_1 l0_1.length c0_1]) (t:=38) HB ?_;clear HB;intro gb10 hg w4 BK10 GW10 hb HB;clear hb hg)|((with_reducible refine gate_dst (N:=3) rfl ?_);refine bz 3 (cs:=#[.slice A1_0 l1_0.length c1_0,.slice A1_1 l1_1.length c1_1]) (t:=38) HB ?_;clear HB;intro gb16 hg w5 BK16 GW16 hb HB;have NB10_16:=na hg BK10;have NB16_10:=nc hg BK10;replace BK10:=bb BK10 hb;clear hb hg;have hnb6:=NB10_16.out;have hnc6:=NB16_10.out;have hcz7:=cf2 BK10;have hcz8:=cf2 BK16))
 go_at_call 90;(with_reducible refine (laws_eqStockS.calls k _ _ l0_0 _ _ l1_0 t17 _ (Kd.C_below HR0_0.out (bs HB)) HC0_0.out (Kd.C_below HR1_0.out (bs HB)) HC1_0.out A3.out).mono ?_);rintro e w9 ⟨rfl,hb⟩;replace BK10:=bb BK10 hb;replace BK16:=bb BK16 hb;replace HB:=bq HB hb;(try clear hb);(try clear hb2);(try clear hk);(try clear hi)
 obtain rfl|rfl:=bt t17
 ·replace H:=itT H;replace H:=bo H;obtain ⟨t18,A11,H⟩:=H;have hnb12:=NB10_16.out;have hnc12:=NB16_10.out;have hcz13:=cf2 BK10;have hcz14:=cf2 BK16
  try go_wp2_with (fail)
  go_at_call 91;(with_reducible refine (laws_eqOrderLineS.calls k _ _ l0_1 _ _ l1_1 t18 _ (Kd.C_below HR0_1.out (bs HB)) HC0_1.out (Kd.C_below HR1_1.out (bs HB)) HC1_1.out A11.out).mono ?_);rintro e w15 ⟨rfl,hb⟩;replace BK10:=bb BK10 hb;replace BK16:=bb BK16 hb;replace HB:=bq HB hb;(try clear hb);(try clear hb2);(try clear hk);(try clear hi)
  obtain rfl|rfl:=bt t18
  ·replace H:=itT H;obtain rfl:=si H
   go_wp2
   go_ret
   exact ⟨ff,bs HB⟩
  ·replace H:=itF H;obtain rfl:=si H
   go_wp2
   go_ret
   exact ⟨ff,bs HB⟩
 ·replace H:=itF H;obtain rfl:=si H
  go_wp2
  go_ret
  exact ⟨ff,bs HB⟩
theorem laws_eqDiff.calls (a0_0:Int) (a0_1:ByteArray) (a0_2:ByteArray) (a0_3:Int) (a0_4:ByteArray) (a0_5:Int) (a1_0:Int) (a1_1:ByteArray) (a1_2:ByteArray) (a1_3:Int) (a1_4:ByteArray) (a1_5:Int) (r:Bool) (w:World) (H:laws_eqDiff.f a0_0 a0_1 a0_2 a0_3 a0_4 a0_5 a1_0 a1_1 a1_2 a1_3 a1_4 a1_5=some r) :
  Calls Tryz.prog 92 #[.agg #[.int .i64 a0_0,.string a0_1,.string a0_2,.int .i64 a0_3,.string a0_4,.int .i64 a0_5],.agg #[.int .i64 a1_0,.string a1_1,.string a1_2,.int .i64 a1_3,.string a1_4,.int .i64 a1_5]] w fun e w'=>e=.returned (.bool r)∧Below w.heap.size w w':=by
 have hu:=Tryz.underlying118;have HB:=am (Below.refl w.heap.size w);unfold laws_eqDiff.f at H
 go_in
 go_upto_region 1 with (first|((with_reducible refine gate_dst (N:=2) rfl ?_);refine bx 2 (cs:=#[.int .i64 a0_0,.string a0_1,.string a0_2,.int .i64 a0_3,.string a0_4,.int .i64 a0_5]) (t:=118) ?_;intro g0 hg wa hbox hb;have B0:=am hbox;replace HB:=bq HB hb;clear hb hbox hg)|((with_reducible refine gate_dst (N:=3) rfl ?_);refine bx 3 (cs:=#[.int .i64 a1_0,.string a1_1,.string a1_2,.int .i64 a1_3,.string a1_4,.int .i64 a1_5]) (t:=118) ?_;intro g1 hg wb hbox hb;have B1:=am hbox;replace HB:=bq HB hb;replace B0:=am (blk_below (ks B0) hb);clear hb hbox hg;have z0:=cf6 B0;have z1:=cf6 B1))
 revert H;refine ie1 ?_
 intro c0b0 c0b1 H
 go_upto_region 3 with (fail)
 revert H;refine ie1 ?_
 intro c1b0 c1b1 H
 go_upto_region 5 with (fail)
 revert H;refine ie1 ?_
 intro c2b0 c2b1 H
 go_upto_region 7 with (fail)
 revert H;refine ie1 ?_
 intro c3b0 c3b1 H
 go_upto_region 9 with (fail)
 revert H;refine ie1 ?_
 intro c4b0 c4b1 H
 go_upto_region 11 with (fail)
 revert H;refine ie1 ?_
 intro c5b0 c5b1 H;obtain rfl:=si H
 go_wp2
 go_ret
 exact ⟨ff,bs HB⟩
theorem laws_eqDiffS.calls (k:Nat) (A0:Option Addr) (c0:Nat) (l0:List (S118)) (A1:Option Addr) (c1:Nat) (l1:List (S118)) (r:Bool) (w:World) (hr0:Kd.C k118 w A0 l0.length l0) (hc0:l0.length≤c0) (hr1:Kd.C k118 w A1 l1.length l1) (hc1:l1.length≤c1) (H:laws_eqDiffS.f k l0 l1=some r) :
  Calls Tryz.prog 36 #[.slice A0 l0.length c0,.slice A1 l1.length c1] w fun e w'=>e=.returned (.bool r)∧Below w.heap.size w w':=by
 have hu:=Tryz.underlying118;have HR0:=am hr0;have HR1:=am hr1;clear hr0 hc0 hr1 hc1;have HB:=am (Below.refl w.heap.size w);unfold laws_eqDiffS.f at H
 go_in
 revert H;refine ie1k ?_
 intro c3 c3b0 c3b1 H
 have c3b2:(l0.length == l1.length)=true:=by first|simpa using c3|(simp at c3 ⊢;omega)
 clear c3;have H':=am H;clear H
 go_wp2
 go_loopg [5] k (fun kq v5 w'=>∃ (x5:Int),v5=.int .i64 x5∧Aside0 (laws_eqDiffS.l0 kq l0 l1 x5=some r)∧Aside0 (kq≤k)∧Aside0 (Below w.heap.size w w'))
 case atStart=>exact ⟨0,fg,H',⟨Nat.le_refl _⟩,⟨bs HB⟩⟩
 case round =>
  clear H';(try clear c3b0);(try clear c3b1);(try clear c3b2);obtain ⟨x5,rfl,HA,HK1,HB⟩:=hrel
  cases gk with
  | zero=>exact absurd HA.out (by simp [laws_eqDiffS.l0])
  | succ k1 =>
   have H:=HA.out;clear HA;simp only [laws_eqDiffS.l0] at H
   revert H;refine id2 ?_ ?_
   ·intro c4b0 H;revert H;refine id1 ?_;intro c5b0 H;revert H;refine id1 ?_;intro c6b0 H;replace H:=bo H;obtain ⟨t,A7,H⟩:=H;have p1:0≤(x5:Int):=oa;have q1:x5<(l0.length:Int):=oa;have q2:x5<(l1.length:Int):=oa;obtain ⟨ad,ea,g0,g1,g2,g3,g4,g5⟩:=at_T118 HR0.out x5 p1 q1;obtain ⟨ae,ee,j0,j1,j2,j3,j4,j5⟩:=at_T118 HR1.out x5 p1 q2;cases ea;cases ee;replace p1:=eq_true p1;replace q1:=eq_true q1;replace q2:=eq_true q2;have G0:=am g0;have J0:=am j0;clear g0 j0;have G1:=am g1;have J1:=am j1;clear g1 j1;have G2:=am g2;have J2:=am j2;clear g2 j2;have G3:=am g3;have J3:=am j3;clear g3 j3;have G4:=am g4;have J4:=am j4;clear g4 j4;have G5:=am g5;have J5:=am j5;clear g5 j5
    try go_wp2
    replace HB:=am (below_drew1 HB.out);refine sta 10 (hca (cb HB G0.out) (hca (cb HB G1.out) (hca (cb HB G2.out) (hca (cb HB G3.out) (hca (cb HB G4.out) (hca (cb HB G5.out) (hca (cb HB J0.out) (hca (cb HB J1.out) (hca (cb HB J2.out) (hca (cb HB J3.out) (hca (cb HB J4.out) (hc (cb HB J5.out))))))))))))) (fun hHeld=>?_);refine with_tabW (show rtab .any (opsOf Tryz.f36 6)=laws_eqT from by kernel_rfl) (show waitsOk laws_eqT.2 laws_eqB=true from by kernel_rfl) (fun HT_ HW_=>?_)
    generalize wr.drew=wa at HB hHeld ⊢
    refine pA 0 17 HT_ ?_;refine pA 1 18 HT_ ?_;refine pA 2 19 HT_ ?_;refine pA 4 21 HT_ ?_;refine pA 5 22 HT_ ?_;refine pA 6 23 HT_ ?_;refine tA 3 20 HT_ HW_ hHeld ?_;refine tA 7 24 HT_ HW_ hHeld ?_;refine oA 8 25 HT_ (fun K hK=>?_);refine gA Tryz.func92 #[.agg #[.int .i64 (rd_T118 l0 x5).f0,.string (rd_T118 l0 x5).f1,.string (rd_T118 l0 x5).f2,.int .i64 (rd_T118 l0 x5).f3,.string (rd_T118 l0 x5).f4,.int .i64 (rd_T118 l0 x5).f5],.agg #[.int .i64 (rd_T118 l1 x5).f0,.string (rd_T118 l1 x5).f1,.string (rd_T118 l1 x5).f2,.int .i64 (rd_T118 l1 x5).f3,.string (rd_T118 l1 x5).f4,.int .i64 (rd_T118 l1 x5).f5]] ?_;(with_reducible refine (laws_eqDiff.calls ((rd_T118 l0 x5).f0) ((rd_T118 l0 x5).f1) ((rd_T118 l0 x5).f2) ((rd_T118 l0 x5).f3) ((rd_T118 l0 x5).f4) ((rd_T118 l0 x5).f5) ((rd_T118 l1 x5).f0) ((rd_T118 l1 x5).f1) ((rd_T118 l1 x5).f2) ((rd_T118 l1 x5).f3) ((rd_T118 l1 x5).f4) ((rd_T118 l1 x5).f5) t _ A7.out).mono ?_);rintro e wb ⟨rfl,hb⟩;refine ⟨_,rfl,?_⟩;replace HB:=bq HB hb;clear hb;refine hK.out _ _ (hca (cb HB G0.out) (hca (cb HB G1.out) (hca (cb HB G2.out) (hca (cb HB G3.out) (hca (cb HB G4.out) (hca (cb HB G5.out) (hca (cb HB J0.out) (hca (cb HB J1.out) (hca (cb HB J2.out) (hca (cb HB J3.out) (hca (cb HB J4.out) (hc (cb HB J5.out))))))))))))).out (fun hHeld=>?_);clear hK K;refine nA 25 ?_;refine pA 9 26 HT_ ?_;refine done_ (done_of HT_.out (by kernel_rfl)) ?_;clear HT_ HW_ hHeld
    obtain rfl|rfl:=bt t;rotate_left
    ·replace H:=itF H;cases H
    replace H:=itT H;have H':=am H;clear H
    try go_wp2
    go_roundg k1
    case measure=>have:=HK1.out;omega
    case rel=>exact ⟨wrap64 (x5+1),fg,H',⟨by have:=HK1.out;omega⟩,⟨bs HB⟩⟩
   ·intro c4b0 H;obtain rfl:=si H
    go_wp2
    go_ret
    exact ⟨ff,bs HB⟩
theorem laws_eqOut.calls (a0_0:ByteArray) (a0_1:Int) (a0_2:ByteArray) (a0_3:Int) (a0_4:Int) (a1_0:ByteArray) (a1_1:Int) (a1_2:ByteArray) (a1_3:Int) (a1_4:Int) (r:Bool) (w:World) (H:laws_eqOut.f a0_0 a0_1 a0_2 a0_3 a0_4 a1_0 a1_1 a1_2 a1_3 a1_4=some r) :
  Calls Tryz.prog 93 #[.agg #[.string a0_0,.int .i64 a0_1,.string a0_2,.int .i64 a0_3,.int .i64 a0_4],.agg #[.string a1_0,.int .i64 a1_1,.string a1_2,.int .i64 a1_3,.int .i64 a1_4]] w fun e w'=>e=.returned (.bool r)∧Below w.heap.size w w':=by
 have hu:=Tryz.underlying120;have HB:=am (Below.refl w.heap.size w);unfold laws_eqOut.f at H
 go_in
 go_upto_region 1 with (first|((with_reducible refine gate_dst (N:=2) rfl ?_);refine bx 2 (cs:=#[.string a0_0,.int .i64 a0_1,.string a0_2,.int .i64 a0_3,.int .i64 a0_4]) (t:=120) ?_;intro g0 hg wa hbox hb;have B0:=am hbox;replace HB:=bq HB hb;clear hb hbox hg)|((with_reducible refine gate_dst (N:=3) rfl ?_);refine bx 3 (cs:=#[.string a1_0,.int .i64 a1_1,.string a1_2,.int .i64 a1_3,.int .i64 a1_4]) (t:=120) ?_;intro g1 hg wb hbox hb;have B1:=am hbox;replace HB:=bq HB hb;replace B0:=am (blk_below (ks B0) hb);clear hb hbox hg;have z0:=cf5 B0;have z1:=cf5 B1))
 revert H;refine ie1 ?_
 intro c0b0 c0b1 H
 go_upto_region 3 with (fail)
 revert H;refine ie1 ?_
 intro c1b0 c1b1 H
 go_upto_region 5 with (fail)
 revert H;refine ie1 ?_
 intro c2b0 c2b1 H
 go_upto_region 7 with (fail)
 revert H;refine ie1 ?_
 intro c3b0 c3b1 H
 go_upto_region 9 with (fail)
 revert H;refine ie1 ?_
 intro c4b0 c4b1 H;obtain rfl:=si H
 go_wp2
 go_ret
 exact ⟨ff,bs HB⟩
theorem laws_eqOutS.calls (k:Nat) (A0:Option Addr) (c0:Nat) (l0:List (S120)) (A1:Option Addr) (c1:Nat) (l1:List (S120)) (r:Bool) (w:World) (hr0:Kd.C k120 w A0 l0.length l0) (hc0:l0.length≤c0) (hr1:Kd.C k120 w A1 l1.length l1) (hc1:l1.length≤c1) (H:laws_eqOutS.f k l0 l1=some r) :
  Calls Tryz.prog 37 #[.slice A0 l0.length c0,.slice A1 l1.length c1] w fun e w'=>e=.returned (.bool r)∧Below w.heap.size w w':=by
 have hu:=Tryz.underlying120;have HR0:=am hr0;have HR1:=am hr1;clear hr0 hc0 hr1 hc1;have HB:=am (Below.refl w.heap.size w);unfold laws_eqOutS.f at H
 go_in
 revert H;refine ie1k ?_
 intro c3 c3b0 c3b1 H
 have c3b2:(l0.length == l1.length)=true:=by first|simpa using c3|(simp at c3 ⊢;omega)
 clear c3;have H':=am H;clear H
 go_wp2
 go_loopg [5] k (fun kq v5 w'=>∃ (x5:Int),v5=.int .i64 x5∧Aside0 (laws_eqOutS.l0 kq l0 l1 x5=some r)∧Aside0 (kq≤k)∧Aside0 (Below w.heap.size w w'))
 case atStart=>exact ⟨0,fg,H',⟨Nat.le_refl _⟩,⟨bs HB⟩⟩
 case round =>
  clear H';(try clear c3b0);(try clear c3b1);(try clear c3b2);obtain ⟨x5,rfl,HA,HK1,HB⟩:=hrel
  cases gk with
  | zero=>exact absurd HA.out (by simp [laws_eqOutS.l0])
  | succ k1 =>
   have H:=HA.out;clear HA;simp only [laws_eqOutS.l0] at H
   revert H;refine id2 ?_ ?_
   ·intro c4b0 H;revert H;refine id1 ?_;intro c5b0 H;revert H;refine id1 ?_;intro c6b0 H;replace H:=bo H;obtain ⟨t,A7,H⟩:=H;have p1:0≤(x5:Int):=oa;have q1:x5<(l0.length:Int):=oa;have q2:x5<(l1.length:Int):=oa;obtain ⟨ad,ea,g0,g1,g2,g3,g4⟩:=at_T120 HR0.out x5 p1 q1;obtain ⟨ae,ee,j0,j1,j2,j3,j4⟩:=at_T120 HR1.out x5 p1 q2;cases ea;cases ee;replace p1:=eq_true p1;replace q1:=eq_true q1;replace q2:=eq_true q2;have G0:=am g0;have J0:=am j0;clear g0 j0;have G1:=am g1;have J1:=am j1;clear g1 j1;have G2:=am g2;have J2:=am j2;clear g2 j2;have G3:=am g3;have J3:=am j3;clear g3 j3;have G4:=am g4;have J4:=am j4;clear g4 j4
    try go_wp2
    replace HB:=am (below_drew1 HB.out);refine sta 10 (hca (cb HB G0.out) (hca (cb HB G1.out) (hca (cb HB G2.out) (hca (cb HB G3.out) (hca (cb HB G4.out) (hca (cb HB J0.out) (hca (cb HB J1.out) (hca (cb HB J2.out) (hca (cb HB J3.out) (hc (cb HB J4.out))))))))))) (fun hHeld=>?_);refine with_tabW (show rtab .any (opsOf Tryz.f37 6)=laws_eqT from by kernel_rfl) (show waitsOk laws_eqT.2 laws_eqB=true from by kernel_rfl) (fun HT_ HW_=>?_)
    generalize wr.drew=wa at HB hHeld ⊢
    refine pA 0 17 HT_ ?_;refine pA 1 18 HT_ ?_;refine pA 2 19 HT_ ?_;refine pA 4 21 HT_ ?_;refine pA 5 22 HT_ ?_;refine pA 6 23 HT_ ?_;refine tA 3 20 HT_ HW_ hHeld ?_;refine tA 7 24 HT_ HW_ hHeld ?_;refine oA 8 25 HT_ (fun K hK=>?_);refine gA Tryz.func93 #[.agg #[.string (rd_T120 l0 x5).f0,.int .i64 (rd_T120 l0 x5).f1,.string (rd_T120 l0 x5).f2,.int .i64 (rd_T120 l0 x5).f3,.int .i64 (rd_T120 l0 x5).f4],.agg #[.string (rd_T120 l1 x5).f0,.int .i64 (rd_T120 l1 x5).f1,.string (rd_T120 l1 x5).f2,.int .i64 (rd_T120 l1 x5).f3,.int .i64 (rd_T120 l1 x5).f4]] ?_;(with_reducible refine (laws_eqOut.calls ((rd_T120 l0 x5).f0) ((rd_T120 l0 x5).f1) ((rd_T120 l0 x5).f2) ((rd_T120 l0 x5).f3) ((rd_T120 l0 x5).f4) ((rd_T120 l1 x5).f0) ((rd_T120 l1 x5).f1) ((rd_T120 l1 x5).f2) ((rd_T120 l1 x5).f3) ((rd_T120 l1 x5).f4) t _ A7.out).mono ?_);rintro e wb ⟨rfl,hb⟩;refine ⟨_,rfl,?_⟩;replace HB:=bq HB hb;clear hb;refine hK.out _ _ (hca (cb HB G0.out) (hca (cb HB G1.out) (hca (cb HB G2.out) (hca (cb HB G3.out) (hca (cb HB G4.out) (hca (cb HB J0.out) (hca (cb HB J1.out) (hca (cb HB J2.out) (hca (cb HB J3.out) (hc (cb HB J4.out))))))))))).out (fun hHeld=>?_);clear hK K;refine nA 25 ?_;refine pA 9 26 HT_ ?_;refine done_ (done_of HT_.out (by kernel_rfl)) ?_;clear HT_ HW_ hHeld
    obtain rfl|rfl:=bt t;rotate_left
    ·replace H:=itF H;cases H
    replace H:=itT H;have H':=am H;clear H
    try go_wp2
    go_roundg k1
    case measure=>have:=HK1.out;omega
    case rel=>exact ⟨wrap64 (x5+1),fg,H',⟨by have:=HK1.out;omega⟩,⟨bs HB⟩⟩
   ·intro c4b0 H;obtain rfl:=si H
    go_wp2
    go_ret
    exact ⟨ff,bs HB⟩
theorem laws_eqGate.calls (k:Nat) (a0_0:ByteArray) (a0_1:Int) (A0_2:Option Addr) (c0_2:Nat) (l0_2:List (S83)) (A0_3:Option Addr) (c0_3:Nat) (l0_3:List (S114)) (A0_4:Option Addr) (c0_4:Nat) (l0_4:List (S152)) (A0_5:Option Addr) (c0_5:Nat) (l0_5:List (S161)) (A0_6:Option Addr) (c0_6:Nat) (l0_6:List (S118)) (A0_7:Option Addr) (c0_7:Nat) (l0_7:List (S120)) (a1_0:ByteArray) (a1_1:Int) (A1_2:Option Addr) (c1_2:Nat) (l1_2:List (S83)) (A1_3:Option Addr) (c1_3:Nat) (l1_3:List (S114)) (A1_4:Option Addr) (c1_4:Nat) (l1_4:List (S152)) (A1_5:Option Addr) (c1_5:Nat) (l1_5:List (S161)) (A1_6:Option Addr) (c1_6:Nat) (l1_6:List (S118)) (A1_7:Option Addr) (c1_7:Nat) (l1_7:List (S120)) (r:Bool) (w:World) (hr0_2:Kd.C k83 w A0_2 l0_2.length l0_2) (hc0_2:l0_2.length≤c0_2) (hr0_3:Kd.C k114 w A0_3 l0_3.length l0_3) (hc0_3:l0_3.length≤c0_3) (hr0_4:Kd.C k152 w A0_4 l0_4.length l0_4) (hc0_4:l0_4.length≤c0_4) (hr0_5:Kd.C k161 w A0_5 l0_5.length l0_5) (hc0_5:l0_5.length≤c0_5) (hr0_6:Kd.C k118 w A0_6 l0_6.length l0_6) (hc0_6:l0_6.length≤c0_6) (hr0_7:Kd.C k120 w A0_7 l0_7.length l0_7) (hc0_7:l0_7.length≤c0_7) (hr1_2:Kd.C k83 w A1_2 l1_2.length l1_2) (hc1_2:l1_2.length≤c1_2) (hr1_3:Kd.C k114 w A1_3 l1_3.length l1_3) (hc1_3:l1_3.length≤c1_3) (hr1_4:Kd.C k152 w A1_4 l1_4.length l1_4) (hc1_4:l1_4.length≤c1_4) (hr1_5:Kd.C k161 w A1_5 l1_5.length l1_5) (hc1_5:l1_5.length≤c1_5) (hr1_6:Kd.C k118 w A1_6 l1_6.length l1_6) (hc1_6:l1_6.length≤c1_6) (hr1_7:Kd.C k120 w A1_7 l1_7.length l1_7) (hc1_7:l1_7.length≤c1_7) (H:laws_eqGate.f k a0_0 a0_1 l0_2 l0_3 l0_4 l0_5 l0_6 l0_7 a1_0 a1_1 l1_2 l1_3 l1_4 l1_5 l1_6 l1_7=some r) :
  Calls Tryz.prog 9 #[.agg #[.string a0_0,.int .i64 a0_1,.slice A0_2 l0_2.length c0_2,.slice A0_3 l0_3.length c0_3,.slice A0_4 l0_4.length c0_4,.slice A0_5 l0_5.length c0_5,.slice A0_6 l0_6.length c0_6,.slice A0_7 l0_7.length c0_7],.agg #[.string a1_0,.int .i64 a1_1,.slice A1_2 l1_2.length c1_2,.slice A1_3 l1_3.length c1_3,.slice A1_4 l1_4.length c1_4,.slice A1_5 l1_5.length c1_5,.slice A1_6 l1_6.length c1_6,.slice A1_7 l1_7.length c1_7]] w fun e w'=>e=.returned (.bool r)∧Below w.heap.size w w':=by
 have hu42:=Tryz.underlying42;have hu38:=Tryz.underlying38;have HR0_2:=am hr0_2;have HC0_2:=am hc0_2;clear hr0_2 hc0_2;have HR0_3:=am hr0_3;have HC0_3:=am hc0_3;clear hr0_3 hc0_3;have HR0_4:=am hr0_4;have HC0_4:=am hc0_4;clear hr0_4 hc0_4;have HR0_5:=am hr0_5;have HC0_5:=am hc0_5;clear hr0_5 hc0_5;have HR0_6:=am hr0_6;have HC0_6:=am hc0_6;clear hr0_6 hc0_6;have HR0_7:=am hr0_7;have HC0_7:=am hc0_7;clear hr0_7 hc0_7;have HR1_2:=am hr1_2;have HC1_2:=am hc1_2;clear hr1_2 hc1_2;have HR1_3:=am hr1_3;have HC1_3:=am hc1_3;clear hr1_3 hc1_3;have HR1_4:=am hr1_4;have HC1_4:=am hc1_4;clear hr1_4 hc1_4;have HR1_5:=am hr1_5;have HC1_5:=am hc1_5;clear hr1_5 hc1_5;have HR1_6:=am hr1_6;have HC1_6:=am hc1_6;clear hr1_6 hc1_6;have HR1_7:=am hr1_7;have HC1_7:=am hc1_7;clear hr1_7 hc1_7;have HB:=am (Below.refl w.heap.size w);unfold laws_eqGate.f at H
 revert H;refine ie2 ?_ ?_
 ·intro c3b0 c3b1 H
  revert H;refine ie2 ?_ ?_
  ·intro c4b0 c4b1 H;replace H:=bo H;obtain ⟨t24,A5,H⟩:=H
   go_in
   try go_wp2_with (first|((with_reducible refine gate_dst (N:=2) rfl ?_);refine bz 2 (cs:=#[.string a0_0,.int .i64 a0_1,.slice A0_2 l0_2.length c0_2,.slice A0_3 l0_3.length c0_3,.slice A0_4 l0_4.length c0_4,.slice A0_5 l0_5.length c0_5,.slice A0_6 l0_6.length c0_6,.slice A0_7 l0_7.length c0_7]) (t:=42) HB ?_;clear HB;intro gb12 hg w6 BK12 GW12 hb HB;clear hb hg)|((with_reducible refine gate_dst (N:=3) rfl ?_);refine bz 3 (cs:=#[.string a1_0,.int .i64 a1_1,.slice A1_2 l1_2.length c1_2,.slice A1_3 l1_3.length c1_3,.slice A1_4 l1_4.length c1_4,.slice A1_5 l1_5.length c1_5,.slice A1_6 l1_6.length c1_6,.slice A1_7 l1_7.length c1_7]) (t:=42) HB ?_;clear HB;intro gb18 hg w7 BK18 GW18 hb HB;have NB12_18:=na hg BK12;have NB18_12:=nc hg BK12;replace BK12:=bb BK12 hb;clear hb hg;have hnb8:=NB12_18.out;have hnc8:=NB18_12.out;have hcz9:=cf8 BK12;have hcz10:=cf8 BK18))
   go_at_call 33;(with_reducible refine (laws_eqPartnerS.calls k _ _ l0_2 _ _ l1_2 t24 _ (Kd.C_below HR0_2.out (bs HB)) HC0_2.out (Kd.C_below HR1_2.out (bs HB)) HC1_2.out A5.out).mono ?_);rintro e w11 ⟨rfl,hb⟩;replace BK12:=bb BK12 hb;replace BK18:=bb BK18 hb;replace HB:=bq HB hb;(try clear hb);(try clear hb2);(try clear hk);(try clear hi)
   obtain rfl|rfl:=bt t24
   ·replace H:=itT H;replace H:=bo H;obtain ⟨t30,A13,H⟩:=H;have hnb14:=NB12_18.out;have hnc14:=NB18_12.out;have hcz15:=cf8 BK12;have hcz16:=cf8 BK18
    try go_wp2_with (fail)
    go_at_call 34;(with_reducible refine (laws_eqCrossS.calls k _ _ l0_3 _ _ l1_3 t30 _ (Kd.C_below HR0_3.out (bs HB)) HC0_3.out (Kd.C_below HR1_3.out (bs HB)) HC1_3.out A13.out).mono ?_);rintro e w17 ⟨rfl,hb⟩;replace BK12:=bb BK12 hb;replace BK18:=bb BK18 hb;replace HB:=bq HB hb;(try clear hb);(try clear hb2);(try clear hk);(try clear hi)
    obtain rfl|rfl:=bt t30
    ·replace H:=itT H;replace H:=bo H;obtain ⟨t47,A19,H⟩:=H;have hnb20:=NB12_18.out;have hnc20:=NB18_12.out;have hcz21:=cf8 BK12;have hcz22:=cf8 BK18
     try go_wp2_with (fail)
     go_at_call 35;(with_reducible refine (laws_eqBook.calls k _ _ l0_4 _ _ l0_5 _ _ l1_4 _ _ l1_5 t47 _ (Kd.C_below HR0_4.out (bs HB)) HC0_4.out (Kd.C_below HR0_5.out (bs HB)) HC0_5.out (Kd.C_below HR1_4.out (bs HB)) HC1_4.out (Kd.C_below HR1_5.out (bs HB)) HC1_5.out A19.out).mono ?_);rintro e w23 ⟨rfl,hb⟩;replace BK12:=bb BK12 hb;replace BK18:=bb BK18 hb;replace HB:=bq HB hb;(try clear hb);(try clear hb2);(try clear hk);(try clear hi)
     obtain rfl|rfl:=bt t47
     ·replace H:=itT H;replace H:=bo H;obtain ⟨t48,A25,H⟩:=H;have hnb26:=NB12_18.out;have hnc26:=NB18_12.out;have hcz27:=cf8 BK12;have hcz28:=cf8 BK18
      try go_wp2_with (fail)
      go_at_call 36;(with_reducible refine (laws_eqDiffS.calls k _ _ l0_6 _ _ l1_6 t48 _ (Kd.C_below HR0_6.out (bs HB)) HC0_6.out (Kd.C_below HR1_6.out (bs HB)) HC1_6.out A25.out).mono ?_);rintro e w29 ⟨rfl,hb⟩;replace BK12:=bb BK12 hb;replace BK18:=bb BK18 hb;replace HB:=bq HB hb;(try clear hb);(try clear hb2);(try clear hk);(try clear hi)
      obtain rfl|rfl:=bt t48
      ·replace H:=itT H;replace H:=bo H;obtain ⟨t49,A31,H⟩:=H;have hnb32:=NB12_18.out;have hnc32:=NB18_12.out;have hcz33:=cf8 BK12;have hcz34:=cf8 BK18
       try go_wp2_with (fail)
       go_at_call 37;(with_reducible refine (laws_eqOutS.calls k _ _ l0_7 _ _ l1_7 t49 _ (Kd.C_below HR0_7.out (bs HB)) HC0_7.out (Kd.C_below HR1_7.out (bs HB)) HC1_7.out A31.out).mono ?_);rintro e w35 ⟨rfl,hb⟩;replace BK12:=bb BK12 hb;replace BK18:=bb BK18 hb;replace HB:=bq HB hb;(try clear hb);(try clear hb2);(try clear hk);(try clear hi)
       obtain rfl|rfl:=bt t49
       ·replace H:=itT H;obtain rfl:=si H
        go_wp2
        go_ret
        exact ⟨ff,bs HB⟩
       ·replace H:=itF H;obtain rfl:=si H
        go_wp2
        go_ret
        exact ⟨ff,bs HB⟩
      ·replace H:=itF H;obtain rfl:=si H
       go_wp2
       go_ret
       exact ⟨ff,bs HB⟩
     ·replace H:=itF H;obtain rfl:=si H
      go_wp2
      go_ret
      exact ⟨ff,bs HB⟩
    ·replace H:=itF H;obtain rfl:=si H
     go_wp2
     go_ret
     exact ⟨ff,bs HB⟩
   ·replace H:=itF H;obtain rfl:=si H
    go_wp2
    go_ret
    exact ⟨ff,bs HB⟩
  ·intro c4 c4b0 c4b1 H;obtain rfl:=si H
   go_in
   go_wp2_with (first|((with_reducible refine gate_dst (N:=2) rfl ?_);refine bz 2 (cs:=#[.string a0_0,.int .i64 a0_1,.slice A0_2 l0_2.length c0_2,.slice A0_3 l0_3.length c0_3,.slice A0_4 l0_4.length c0_4,.slice A0_5 l0_5.length c0_5,.slice A0_6 l0_6.length c0_6,.slice A0_7 l0_7.length c0_7]) (t:=42) HB ?_;clear HB;intro gb12 hg w37 BK12 GW12 hb HB;clear hb hg)|((with_reducible refine gate_dst (N:=3) rfl ?_);refine bz 3 (cs:=#[.string a1_0,.int .i64 a1_1,.slice A1_2 l1_2.length c1_2,.slice A1_3 l1_3.length c1_3,.slice A1_4 l1_4.length c1_4,.slice A1_5 l1_5.length c1_5,.slice A1_6 l1_6.length c1_6,.slice A1_7 l1_7.length c1_7]) (t:=42) HB ?_;clear HB;intro gb18 hg w38 BK18 GW18 hb HB;have NB12_18:=na hg BK12;have NB18_12:=nc hg BK12;replace BK12:=bb BK12 hb;clear hb hg;have hnb39:=NB12_18.out;have hnc39:=NB18_12.out;have hcz40:=cf8 BK12;have hcz41:=cf8 BK18))
   go_ret
   exact ⟨ff,bs HB⟩
 ·intro c3 c3b0 c3b1 H;obtain rfl:=si H
  go_in
  go_wp2_with (first|((with_reducible refine gate_dst (N:=2) rfl ?_);refine bz 2 (cs:=#[.string a0_0,.int .i64 a0_1,.slice A0_2 l0_2.length c0_2,.slice A0_3 l0_3.length c0_3,.slice A0_4 l0_4.length c0_4,.slice A0_5 l0_5.length c0_5,.slice A0_6 l0_6.length c0_6,.slice A0_7 l0_7.length c0_7]) (t:=42) HB ?_;clear HB;intro gb12 hg w42 BK12 GW12 hb HB;clear hb hg)|((with_reducible refine gate_dst (N:=3) rfl ?_);refine bz 3 (cs:=#[.string a1_0,.int .i64 a1_1,.slice A1_2 l1_2.length c1_2,.slice A1_3 l1_3.length c1_3,.slice A1_4 l1_4.length c1_4,.slice A1_5 l1_5.length c1_5,.slice A1_6 l1_6.length c1_6,.slice A1_7 l1_7.length c1_7]) (t:=42) HB ?_;clear HB;intro gb18 hg w43 BK18 GW18 hb HB;have NB12_18:=na hg BK12;have NB18_12:=nc hg BK12;replace BK12:=bb BK12 hb;clear hb hg;have hnb44:=NB12_18.out;have hnc44:=NB18_12.out;have hcz45:=cf8 BK12;have hcz46:=cf8 BK18))
  go_ret
  exact ⟨ff,bs HB⟩
end Go.Proofs.YtomoflpgdbjojaaGreat.QN
