-- Merged by a program of this session (wip/tool/pack.py) out of its own texts for this claim.
import Derived.Test.YtkfcahggnpecjaaGreatDoorKFnExactGateAnswer18
set_option maxHeartbeats 8000000
set_option maxRecDepth 100000
set_option linter.unusedSimpArgs false
set_option linter.unusedVariables false
namespace Go.Proofs.YtkfcahggnpecjaaGreatDoor.QW
open Go.RowKit Go.Proofs.YtkfcahggnpecjaaGreatDoorW.PrintWords Go.Proofs.YtkfcahggnpecjaaGreatDoorW.PrintLast Go.Proofs.YtkfcahggnpecjaaGreatDoorW.PrintMore
attribute [local go_sem] max2_int min2_int max_two min_two max_three min_three max_four min_four   -- for this text's walks alone
def laws_eqOrderLineS.T6:Bool × List (List Nat × List Nat):=(true,[([],[]),([],[]),([0,1],[0,1]),([2],[2]),([],[]),([],[]),([4,5],[4,5]),([6],[6]),([3,7],[3,7]),([8],[8])])
def laws_eqOrderLineS.B6:List Nat:=[0,0,3,7,0,0,48,112,255,511]
theorem laws_eqOrderLineS.tab6:rtab .any (opsOf Tryz.f81 6)=laws_eqOrderLineS.T6:=by kernel_rfl
theorem laws_eqOrderLineS.bits6:waitsOk laws_eqOrderLineS.T6.2 laws_eqOrderLineS.B6=true:=by kernel_rfl
theorem laws_eqOrderLineS.calls (k:Nat) (A0:Option Addr) (c0:Nat) (l0:List (S147)) (A1:Option Addr) (c1:Nat) (l1:List (S147)) (r:Bool) (w:World) (hr0:Kd.C k147 w A0 l0.length l0) (hc0:l0.length≤c0) (hr1:Kd.C k147 w A1 l1.length l1) (hc1:l1.length≤c1) (H:laws_eqOrderLineS.f k l0 l1=some r) :
  Calls Tryz.prog 81 #[.slice A0 l0.length c0,.slice A1 l1.length c1] w fun e w'=>e=.returned (.bool r)∧Below w.heap.size w w':=by
 have hu147:=Tryz.underlying147;have HR0:=am hr0;have HC0:=am hc0;clear hr0 hc0;have HR1:=am hr1;have HC1:=am hc1;clear hr1 hc1;have HB:=am (Below.refl w.heap.size w);unfold laws_eqOrderLineS.f at H
 revert H;refine ie2k ?_ ?_
 ·intro c3 c3b0 c3b1 H
  have c3b2:(l0.length == l1.length)=true:=by first|simpa using c3|(simp at c3 ⊢;omega)
  clear c3;have H':=am H;clear H
  go_in
  go_wp2
  go_loopg [5] k (fun kq v5 w'=>∃ (x5_1:Int),v5=.int .i64 x5_1∧Aside0 (laws_eqOrderLineS.l0 kq l0 l1 x5_1=some r)∧Aside0 (kq≤k)∧Aside0 (Below w.heap.size w w'))
  case atStart=>exact ⟨(0),fg,H',⟨Nat.le_refl _⟩,⟨bs HB⟩⟩
  case round =>
   clear H'
   try clear c1
   try clear c3
   try clear c3b0
   try clear c3b1
   try clear c3b2
   obtain ⟨x5_1,rfl,HA,HK1,HB⟩:=hrel
   cases gk with
   | zero=>exact absurd HA.out (by simp [laws_eqOrderLineS.l0])
   | succ k1 =>
    have H:=HA.out;clear HA;simp only [laws_eqOrderLineS.l0] at H
    revert H;refine id2 ?_ ?_
    ·intro c4b0 H
     revert H;refine id1 ?_
     intro c5b0 H
     revert H;refine id1 ?_
     intro c6b0 H;replace H:=bo H;obtain ⟨t15,A7,H⟩:=H
     obtain rfl|rfl:=bt t15
     ·replace H:=itT H;have H':=am H;clear H
      try go_wp2
      replace HB:=am (below_drew1 HB.out);have p13:0≤(x5_1:Int):=oa;have q13:x5_1<(l0.length:Int):=oa;obtain ⟨ad13,e13,hx13_0,hx13_1,hx13_2,hx13_3,hx13_4,hx13_5,hx13_6,hx13_7⟩:=at_T147 HR0.out x5_1 p13 q13;have hw13_7:=hx13_7;have hw13_6:=hx13_6;have hw13_5:=hx13_5;have hw13_4:=hx13_4;have hw13_3:=hx13_3;have hw13_2:=hx13_2;have hw13_1:=hx13_1;have hw13_0:=hx13_0
      cases e13
      replace hx13_0:=cb HB hx13_0;replace hx13_1:=cb HB hx13_1;replace hx13_2:=cb HB hx13_2;replace hx13_3:=cb HB hx13_3;replace hx13_4:=cb HB hx13_4;replace hx13_5:=cb HB hx13_5;replace hx13_6:=cb HB hx13_6;replace hx13_7:=cb HB hx13_7;replace p13:=eq_true p13;replace q13:=eq_true q13;have p14:0≤(x5_1:Int):=oa;have q14:x5_1<(l1.length:Int):=oa;obtain ⟨ad14,e14,hx14_0,hx14_1,hx14_2,hx14_3,hx14_4,hx14_5,hx14_6,hx14_7⟩:=at_T147 HR1.out x5_1 p14 q14;have hw14_7:=hx14_7;have hw14_6:=hx14_6;have hw14_5:=hx14_5;have hw14_4:=hx14_4;have hw14_3:=hx14_3;have hw14_2:=hx14_2;have hw14_1:=hx14_1;have hw14_0:=hx14_0
      cases e14
      replace hx14_0:=cb HB hx14_0;replace hx14_1:=cb HB hx14_1;replace hx14_2:=cb HB hx14_2;replace hx14_3:=cb HB hx14_3;replace hx14_4:=cb HB hx14_4;replace hx14_5:=cb HB hx14_5;replace hx14_6:=cb HB hx14_6;replace hx14_7:=cb HB hx14_7;replace p14:=eq_true p14;replace q14:=eq_true q14;refine sta 10 (hca (cb HB hw13_0) (hca (cb HB hw13_1) (hca (cb HB hw13_2) (hca (cb HB hw13_3) (hca (cb HB hw13_4) (hca (cb HB hw13_5) (hca (cb HB hw13_6) (hca (cb HB hw13_7) (hca (cb HB hw14_0) (hca (cb HB hw14_1) (hca (cb HB hw14_2) (hca (cb HB hw14_3) (hca (cb HB hw14_4) (hca (cb HB hw14_5) (hca (cb HB hw14_6) (hc (cb HB hw14_7))))))))))))))))) (fun hHeld=>?_);refine with_tabW laws_eqOrderLineS.tab6 laws_eqOrderLineS.bits6 (fun HT_ HW_=>?_)
      generalize wr.drew=w9 at HB hx13_0 hx13_1 hx13_2 hx13_3 hx13_4 hx13_5 hx13_6 hx13_7 hx14_0 hx14_1 hx14_2 hx14_3 hx14_4 hx14_5 hx14_6 hx14_7 hHeld ⊢
      refine pA 0 17 HT_ ?_;refine pA 1 18 HT_ ?_;refine pA 2 19 HT_ ?_;refine pA 4 21 HT_ ?_;refine pA 5 22 HT_ ?_;refine pA 6 23 HT_ ?_;refine tA 3 20 HT_ HW_ hHeld ?_;refine tA 7 24 HT_ HW_ hHeld ?_;refine oA 8 25 HT_ (fun K hK=>?_);refine gA Tryz.func108 #[.agg #[.string ((rd_T147 l0 x5_1).f0),.string ((rd_T147 l0 x5_1).f1),.int .i64 ((rd_T147 l0 x5_1).f2),.string ((rd_T147 l0 x5_1).f3),.int .i64 ((rd_T147 l0 x5_1).f4),.int .i64 ((rd_T147 l0 x5_1).f5),.int .i64 ((rd_T147 l0 x5_1).f6),.int .i64 ((rd_T147 l0 x5_1).f7)],.agg #[.string ((rd_T147 l1 x5_1).f0),.string ((rd_T147 l1 x5_1).f1),.int .i64 ((rd_T147 l1 x5_1).f2),.string ((rd_T147 l1 x5_1).f3),.int .i64 ((rd_T147 l1 x5_1).f4),.int .i64 ((rd_T147 l1 x5_1).f5),.int .i64 ((rd_T147 l1 x5_1).f6),.int .i64 ((rd_T147 l1 x5_1).f7)]] ?_;(with_reducible refine (laws_eqOrderLine.calls ((rd_T147 l0 x5_1).f0) ((rd_T147 l0 x5_1).f1) ((rd_T147 l0 x5_1).f2) ((rd_T147 l0 x5_1).f3) ((rd_T147 l0 x5_1).f4) ((rd_T147 l0 x5_1).f5) ((rd_T147 l0 x5_1).f6) ((rd_T147 l0 x5_1).f7) ((rd_T147 l1 x5_1).f0) ((rd_T147 l1 x5_1).f1) ((rd_T147 l1 x5_1).f2) ((rd_T147 l1 x5_1).f3) ((rd_T147 l1 x5_1).f4) ((rd_T147 l1 x5_1).f5) ((rd_T147 l1 x5_1).f6) ((rd_T147 l1 x5_1).f7) true _ A7.out).mono ?_);rintro e w10 ⟨rfl,hb⟩;refine ⟨_,rfl,?_⟩;replace HB:=bq HB hb;(try clear hb);(try clear hb2);(try clear hk);(try clear hi);refine hK.out _ _ (hca (cb HB hw13_0) (hca (cb HB hw13_1) (hca (cb HB hw13_2) (hca (cb HB hw13_3) (hca (cb HB hw13_4) (hca (cb HB hw13_5) (hca (cb HB hw13_6) (hca (cb HB hw13_7) (hca (cb HB hw14_0) (hca (cb HB hw14_1) (hca (cb HB hw14_2) (hca (cb HB hw14_3) (hca (cb HB hw14_4) (hca (cb HB hw14_5) (hca (cb HB hw14_6) (hc (cb HB hw14_7))))))))))))))))).out (fun hHeld=>?_);clear hK K;refine nA 25 ?_;refine pA 9 26 HT_ ?_;refine done_ (done_of HT_.out (by kernel_rfl)) ?_
      try go_wp2
      go_roundg k1
      case measure=>have:=HK1.out;omega
      case rel=>exact ⟨(wrap64 (x5_1+1)),fg,H',⟨by have:=HK1.out;omega⟩,⟨bs HB⟩⟩
     ·replace H:=itF H;obtain rfl:=si H
      try go_wp2
      replace HB:=am (below_drew1 HB.out);have p13:0≤(x5_1:Int):=oa;have q13:x5_1<(l0.length:Int):=oa;obtain ⟨ad13,e13,hx13_0,hx13_1,hx13_2,hx13_3,hx13_4,hx13_5,hx13_6,hx13_7⟩:=at_T147 HR0.out x5_1 p13 q13;have hw13_7:=hx13_7;have hw13_6:=hx13_6;have hw13_5:=hx13_5;have hw13_4:=hx13_4;have hw13_3:=hx13_3;have hw13_2:=hx13_2;have hw13_1:=hx13_1;have hw13_0:=hx13_0
      cases e13
      replace hx13_0:=cb HB hx13_0;replace hx13_1:=cb HB hx13_1;replace hx13_2:=cb HB hx13_2;replace hx13_3:=cb HB hx13_3;replace hx13_4:=cb HB hx13_4;replace hx13_5:=cb HB hx13_5;replace hx13_6:=cb HB hx13_6;replace hx13_7:=cb HB hx13_7;replace p13:=eq_true p13;replace q13:=eq_true q13;have p14:0≤(x5_1:Int):=oa;have q14:x5_1<(l1.length:Int):=oa;obtain ⟨ad14,e14,hx14_0,hx14_1,hx14_2,hx14_3,hx14_4,hx14_5,hx14_6,hx14_7⟩:=at_T147 HR1.out x5_1 p14 q14;have hw14_7:=hx14_7;have hw14_6:=hx14_6;have hw14_5:=hx14_5;have hw14_4:=hx14_4;have hw14_3:=hx14_3;have hw14_2:=hx14_2;have hw14_1:=hx14_1;have hw14_0:=hx14_0
      cases e14
      replace hx14_0:=cb HB hx14_0;replace hx14_1:=cb HB hx14_1;replace hx14_2:=cb HB hx14_2;replace hx14_3:=cb HB hx14_3;replace hx14_4:=cb HB hx14_4;replace hx14_5:=cb HB hx14_5;replace hx14_6:=cb HB hx14_6;replace hx14_7:=cb HB hx14_7;replace p14:=eq_true p14;replace q14:=eq_true q14;refine sta 10 (hca (cb HB hw13_0) (hca (cb HB hw13_1) (hca (cb HB hw13_2) (hca (cb HB hw13_3) (hca (cb HB hw13_4) (hca (cb HB hw13_5) (hca (cb HB hw13_6) (hca (cb HB hw13_7) (hca (cb HB hw14_0) (hca (cb HB hw14_1) (hca (cb HB hw14_2) (hca (cb HB hw14_3) (hca (cb HB hw14_4) (hca (cb HB hw14_5) (hca (cb HB hw14_6) (hc (cb HB hw14_7))))))))))))))))) (fun hHeld=>?_);refine with_tabW laws_eqOrderLineS.tab6 laws_eqOrderLineS.bits6 (fun HT_ HW_=>?_)
      generalize wr.drew=w11 at HB hx13_0 hx13_1 hx13_2 hx13_3 hx13_4 hx13_5 hx13_6 hx13_7 hx14_0 hx14_1 hx14_2 hx14_3 hx14_4 hx14_5 hx14_6 hx14_7 hHeld ⊢
      refine pA 0 17 HT_ ?_;refine pA 1 18 HT_ ?_;refine pA 2 19 HT_ ?_;refine pA 4 21 HT_ ?_;refine pA 5 22 HT_ ?_;refine pA 6 23 HT_ ?_;refine tA 3 20 HT_ HW_ hHeld ?_;refine tA 7 24 HT_ HW_ hHeld ?_;refine oA 8 25 HT_ (fun K hK=>?_);refine gA Tryz.func108 #[.agg #[.string ((rd_T147 l0 x5_1).f0),.string ((rd_T147 l0 x5_1).f1),.int .i64 ((rd_T147 l0 x5_1).f2),.string ((rd_T147 l0 x5_1).f3),.int .i64 ((rd_T147 l0 x5_1).f4),.int .i64 ((rd_T147 l0 x5_1).f5),.int .i64 ((rd_T147 l0 x5_1).f6),.int .i64 ((rd_T147 l0 x5_1).f7)],.agg #[.string ((rd_T147 l1 x5_1).f0),.string ((rd_T147 l1 x5_1).f1),.int .i64 ((rd_T147 l1 x5_1).f2),.string ((rd_T147 l1 x5_1).f3),.int .i64 ((rd_T147 l1 x5_1).f4),.int .i64 ((rd_T147 l1 x5_1).f5),.int .i64 ((rd_T147 l1 x5_1).f6),.int .i64 ((rd_T147 l1 x5_1).f7)]] ?_;(with_reducible refine (laws_eqOrderLine.calls ((rd_T147 l0 x5_1).f0) ((rd_T147 l0 x5_1).f1) ((rd_T147 l0 x5_1).f2) ((rd_T147 l0 x5_1).f3) ((rd_T147 l0 x5_1).f4) ((rd_T147 l0 x5_1).f5) ((rd_T147 l0 x5_1).f6) ((rd_T147 l0 x5_1).f7) ((rd_T147 l1 x5_1).f0) ((rd_T147 l1 x5_1).f1) ((rd_T147 l1 x5_1).f2) ((rd_T147 l1 x5_1).f3) ((rd_T147 l1 x5_1).f4) ((rd_T147 l1 x5_1).f5) ((rd_T147 l1 x5_1).f6) ((rd_T147 l1 x5_1).f7) false _ A7.out).mono ?_);rintro e w12 ⟨rfl,hb⟩;refine ⟨_,rfl,?_⟩;replace HB:=bq HB hb;(try clear hb);(try clear hb2);(try clear hk);(try clear hi);refine hK.out _ _ (hca (cb HB hw13_0) (hca (cb HB hw13_1) (hca (cb HB hw13_2) (hca (cb HB hw13_3) (hca (cb HB hw13_4) (hca (cb HB hw13_5) (hca (cb HB hw13_6) (hca (cb HB hw13_7) (hca (cb HB hw14_0) (hca (cb HB hw14_1) (hca (cb HB hw14_2) (hca (cb HB hw14_3) (hca (cb HB hw14_4) (hca (cb HB hw14_5) (hca (cb HB hw14_6) (hc (cb HB hw14_7))))))))))))))))).out (fun hHeld=>?_);clear hK K;refine nA 25 ?_;refine pA 9 26 HT_ ?_;refine done_ (done_of HT_.out (by kernel_rfl)) ?_
      try go_wp2
      go_ret
      exact ⟨ff,bs HB⟩
    ·intro c4b0 H;obtain rfl:=si H
     go_wp2
     go_ret
     exact ⟨ff,bs HB⟩
 ·intro c3 c3b0 c3b1 H
  have c3b2:(l0.length == l1.length)=false:=by first|simpa using c3|(simp at c3 ⊢;omega)
  obtain rfl:=si H
  go_in
  go_wp2
  go_ret
  exact ⟨ff,bs HB⟩
theorem laws_eqBook.calls (k:Nat) (A0_0:Option Addr) (c0_0:Nat) (l0_0:List (S141)) (A0_1:Option Addr) (c0_1:Nat) (l0_1:List (S147)) (A1_0:Option Addr) (c1_0:Nat) (l1_0:List (S141)) (A1_1:Option Addr) (c1_1:Nat) (l1_1:List (S147)) (r:Bool) (w:World) (hr0_0:Kd.C k141 w A0_0 l0_0.length l0_0) (hc0_0:l0_0.length≤c0_0) (hr0_1:Kd.C k147 w A0_1 l0_1.length l0_1) (hc0_1:l0_1.length≤c0_1) (hr1_0:Kd.C k141 w A1_0 l1_0.length l1_0) (hc1_0:l1_0.length≤c1_0) (hr1_1:Kd.C k147 w A1_1 l1_1.length l1_1) (hc1_1:l1_1.length≤c1_1) (H:laws_eqBook.f k l0_0 l0_1 l1_0 l1_1=some r) :
  Calls Tryz.prog 38 #[.agg #[.slice A0_0 l0_0.length c0_0,.slice A0_1 l0_1.length c0_1],.agg #[.slice A1_0 l1_0.length c1_0,.slice A1_1 l1_1.length c1_1]] w fun e w'=>e=.returned (.bool r)∧Below w.heap.size w w':=by
 have hu43:=Tryz.underlying43;have HR0_0:=am hr0_0;have HC0_0:=am hc0_0;clear hr0_0 hc0_0;have HR0_1:=am hr0_1;have HC0_1:=am hc0_1;clear hr0_1 hc0_1;have HR1_0:=am hr1_0;have HC1_0:=am hc1_0;clear hr1_0 hc1_0;have HR1_1:=am hr1_1;have HC1_1:=am hc1_1;clear hr1_1 hc1_1;have HB:=am (Below.refl w.heap.size w);unfold laws_eqBook.f at H;replace H:=bo H;obtain ⟨t17,A3,H⟩:=H
 go_in
 try go_wp2_with (first|((with_reducible refine gate_dst (N:=2) rfl ?_);refine bz 2 (cs:=#[.slice A0_0 l0_0.length c0_0,.slice A0_1 l0_1.length c0_1]) (t:=43) HB ?_;clear HB;intro gb10 hg w4 BK10 GW10 hb HB;clear hb hg)|((with_reducible refine gate_dst (N:=3) rfl ?_);refine bz 3 (cs:=#[.slice A1_0 l1_0.length c1_0,.slice A1_1 l1_1.length c1_1]) (t:=43) HB ?_;clear HB;intro gb16 hg w5 BK16 GW16 hb HB;have NB10_16:=na hg BK10;have NB16_10:=nc hg BK10;replace BK10:=bb BK10 hb;clear hb hg;have hnb6:=NB10_16.out;have hnc6:=NB16_10.out;have hcz7:=cf2 BK10;have hcz8:=cf2 BK16))
 go_at_call 80;(with_reducible refine (laws_eqStockS.calls k _ _ l0_0 _ _ l1_0 t17 _ (Kd.C_below HR0_0.out (bs HB)) HC0_0.out (Kd.C_below HR1_0.out (bs HB)) HC1_0.out A3.out).mono ?_);rintro e w9 ⟨rfl,hb⟩;replace BK10:=bb BK10 hb;replace BK16:=bb BK16 hb;replace HB:=bq HB hb;(try clear hb);(try clear hb2);(try clear hk);(try clear hi)
 obtain rfl|rfl:=bt t17
 ·replace H:=itT H;replace H:=bo H;obtain ⟨t18,A11,H⟩:=H;have hnb12:=NB10_16.out;have hnc12:=NB16_10.out;have hcz13:=cf2 BK10;have hcz14:=cf2 BK16
  try go_wp2_with (fail)
  go_at_call 81;(with_reducible refine (laws_eqOrderLineS.calls k _ _ l0_1 _ _ l1_1 t18 _ (Kd.C_below HR0_1.out (bs HB)) HC0_1.out (Kd.C_below HR1_1.out (bs HB)) HC1_1.out A11.out).mono ?_);rintro e w15 ⟨rfl,hb⟩;replace BK10:=bb BK10 hb;replace BK16:=bb BK16 hb;replace HB:=bq HB hb;(try clear hb);(try clear hb2);(try clear hk);(try clear hi)
  obtain rfl|rfl:=bt t18
  ·replace H:=itT H;obtain rfl:=si H
   go_wp2
   go_ret
   exact ⟨ff,bs HB⟩
  ·replace H:=itF H;obtain rfl:=si H
   go_wp2
   go_ret
   exact ⟨ff,bs HB⟩
 ·replace H:=itF H;obtain rfl:=si H
  go_wp2
  go_ret
  exact ⟨ff,bs HB⟩
theorem laws_eqDiff.calls (a0_0:Int) (a0_1:ByteArray) (a0_2:ByteArray) (a0_3:Int) (a0_4:ByteArray) (a0_5:Int) (a1_0:Int) (a1_1:ByteArray) (a1_2:ByteArray) (a1_3:Int) (a1_4:ByteArray) (a1_5:Int) (r:Bool) (w:World) (H:laws_eqDiff.f a0_0 a0_1 a0_2 a0_3 a0_4 a0_5 a1_0 a1_1 a1_2 a1_3 a1_4 a1_5=some r) :
  Calls Tryz.prog 82 #[.agg #[.int .i64 a0_0,.string a0_1,.string a0_2,.int .i64 a0_3,.string a0_4,.int .i64 a0_5],.agg #[.int .i64 a1_0,.string a1_1,.string a1_2,.int .i64 a1_3,.string a1_4,.int .i64 a1_5]] w fun e w'=>e=.returned (.bool r)∧Below w.heap.size w w':=by
 have hu115:=Tryz.underlying115;have HB:=am (Below.refl w.heap.size w);unfold laws_eqDiff.f at H
 revert H;refine ie2 ?_ ?_
 ·intro c3b0 c3b1 H
  revert H;refine ie2 ?_ ?_
  ·intro c4b0 c4b1 H
   revert H;refine ie2 ?_ ?_
   ·intro c5b0 c5b1 H
    revert H;refine ie2 ?_ ?_
    ·intro c6b0 c6b1 H
     revert H;refine ie2 ?_ ?_
     ·intro c7b0 c7b1 H
      revert H;refine ie2 ?_ ?_
      ·intro c8b0 c8b1 H;obtain rfl:=si H
       go_in
       go_wp2_with (first|((with_reducible refine gate_dst (N:=2) rfl ?_);refine bz 2 (cs:=#[.int .i64 a0_0,.string a0_1,.string a0_2,.int .i64 a0_3,.string a0_4,.int .i64 a0_5]) (t:=115) HB ?_;clear HB;intro gb44 hg w9 BK44 GW44 hb HB;clear hb hg)|((with_reducible refine gate_dst (N:=3) rfl ?_);refine bz 3 (cs:=#[.int .i64 a1_0,.string a1_1,.string a1_2,.int .i64 a1_3,.string a1_4,.int .i64 a1_5]) (t:=115) HB ?_;clear HB;intro gb45 hg w10 BK45 GW45 hb HB;have NB44_45:=na hg BK44;have NB45_44:=nc hg BK44;replace BK44:=bb BK44 hb;clear hb hg;have hnb11:=NB44_45.out;have hnc11:=NB45_44.out;have hcz12:=cf6 BK44;have hcz13:=cf6 BK45))
       go_ret
       exact ⟨ff,bs HB⟩
      ·intro c8 c8b0 c8b1 H;obtain rfl:=si H
       go_in
       go_wp2_with (first|((with_reducible refine gate_dst (N:=2) rfl ?_);refine bz 2 (cs:=#[.int .i64 a0_0,.string a0_1,.string a0_2,.int .i64 a0_3,.string a0_4,.int .i64 a0_5]) (t:=115) HB ?_;clear HB;intro gb44 hg w14 BK44 GW44 hb HB;clear hb hg)|((with_reducible refine gate_dst (N:=3) rfl ?_);refine bz 3 (cs:=#[.int .i64 a1_0,.string a1_1,.string a1_2,.int .i64 a1_3,.string a1_4,.int .i64 a1_5]) (t:=115) HB ?_;clear HB;intro gb45 hg w15 BK45 GW45 hb HB;have NB44_45:=na hg BK44;have NB45_44:=nc hg BK44;replace BK44:=bb BK44 hb;clear hb hg;have hnb16:=NB44_45.out;have hnc16:=NB45_44.out;have hcz17:=cf6 BK44;have hcz18:=cf6 BK45))
       go_ret
       exact ⟨ff,bs HB⟩
     ·intro c7 c7b0 c7b1 H;obtain rfl:=si H
      go_in
      go_wp2_with (first|((with_reducible refine gate_dst (N:=2) rfl ?_);refine bz 2 (cs:=#[.int .i64 a0_0,.string a0_1,.string a0_2,.int .i64 a0_3,.string a0_4,.int .i64 a0_5]) (t:=115) HB ?_;clear HB;intro gb44 hg w19 BK44 GW44 hb HB;clear hb hg)|((with_reducible refine gate_dst (N:=3) rfl ?_);refine bz 3 (cs:=#[.int .i64 a1_0,.string a1_1,.string a1_2,.int .i64 a1_3,.string a1_4,.int .i64 a1_5]) (t:=115) HB ?_;clear HB;intro gb45 hg w20 BK45 GW45 hb HB;have NB44_45:=na hg BK44;have NB45_44:=nc hg BK44;replace BK44:=bb BK44 hb;clear hb hg;have hnb21:=NB44_45.out;have hnc21:=NB45_44.out;have hcz22:=cf6 BK44;have hcz23:=cf6 BK45))
      go_ret
      exact ⟨ff,bs HB⟩
    ·intro c6 c6b0 c6b1 H;obtain rfl:=si H
     go_in
     go_wp2_with (first|((with_reducible refine gate_dst (N:=2) rfl ?_);refine bz 2 (cs:=#[.int .i64 a0_0,.string a0_1,.string a0_2,.int .i64 a0_3,.string a0_4,.int .i64 a0_5]) (t:=115) HB ?_;clear HB;intro gb44 hg w24 BK44 GW44 hb HB;clear hb hg)|((with_reducible refine gate_dst (N:=3) rfl ?_);refine bz 3 (cs:=#[.int .i64 a1_0,.string a1_1,.string a1_2,.int .i64 a1_3,.string a1_4,.int .i64 a1_5]) (t:=115) HB ?_;clear HB;intro gb45 hg w25 BK45 GW45 hb HB;have NB44_45:=na hg BK44;have NB45_44:=nc hg BK44;replace BK44:=bb BK44 hb;clear hb hg;have hnb26:=NB44_45.out;have hnc26:=NB45_44.out;have hcz27:=cf6 BK44;have hcz28:=cf6 BK45))
     go_ret
     exact ⟨ff,bs HB⟩
   ·intro c5 c5b0 c5b1 H;obtain rfl:=si H
    go_in
    go_wp2_with (first|((with_reducible refine gate_dst (N:=2) rfl ?_);refine bz 2 (cs:=#[.int .i64 a0_0,.string a0_1,.string a0_2,.int .i64 a0_3,.string a0_4,.int .i64 a0_5]) (t:=115) HB ?_;clear HB;intro gb44 hg w29 BK44 GW44 hb HB;clear hb hg)|((with_reducible refine gate_dst (N:=3) rfl ?_);refine bz 3 (cs:=#[.int .i64 a1_0,.string a1_1,.string a1_2,.int .i64 a1_3,.string a1_4,.int .i64 a1_5]) (t:=115) HB ?_;clear HB;intro gb45 hg w30 BK45 GW45 hb HB;have NB44_45:=na hg BK44;have NB45_44:=nc hg BK44;replace BK44:=bb BK44 hb;clear hb hg;have hnb31:=NB44_45.out;have hnc31:=NB45_44.out;have hcz32:=cf6 BK44;have hcz33:=cf6 BK45))
    go_ret
    exact ⟨ff,bs HB⟩
  ·intro c4 c4b0 c4b1 H;obtain rfl:=si H
   go_in
   go_wp2_with (first|((with_reducible refine gate_dst (N:=2) rfl ?_);refine bz 2 (cs:=#[.int .i64 a0_0,.string a0_1,.string a0_2,.int .i64 a0_3,.string a0_4,.int .i64 a0_5]) (t:=115) HB ?_;clear HB;intro gb44 hg w34 BK44 GW44 hb HB;clear hb hg)|((with_reducible refine gate_dst (N:=3) rfl ?_);refine bz 3 (cs:=#[.int .i64 a1_0,.string a1_1,.string a1_2,.int .i64 a1_3,.string a1_4,.int .i64 a1_5]) (t:=115) HB ?_;clear HB;intro gb45 hg w35 BK45 GW45 hb HB;have NB44_45:=na hg BK44;have NB45_44:=nc hg BK44;replace BK44:=bb BK44 hb;clear hb hg;have hnb36:=NB44_45.out;have hnc36:=NB45_44.out;have hcz37:=cf6 BK44;have hcz38:=cf6 BK45))
   go_ret
   exact ⟨ff,bs HB⟩
 ·intro c3 c3b0 c3b1 H;obtain rfl:=si H
  go_in
  go_wp2_with (first|((with_reducible refine gate_dst (N:=2) rfl ?_);refine bz 2 (cs:=#[.int .i64 a0_0,.string a0_1,.string a0_2,.int .i64 a0_3,.string a0_4,.int .i64 a0_5]) (t:=115) HB ?_;clear HB;intro gb44 hg w39 BK44 GW44 hb HB;clear hb hg)|((with_reducible refine gate_dst (N:=3) rfl ?_);refine bz 3 (cs:=#[.int .i64 a1_0,.string a1_1,.string a1_2,.int .i64 a1_3,.string a1_4,.int .i64 a1_5]) (t:=115) HB ?_;clear HB;intro gb45 hg w40 BK45 GW45 hb HB;have NB44_45:=na hg BK44;have NB45_44:=nc hg BK44;replace BK44:=bb BK44 hb;clear hb hg;have hnb41:=NB44_45.out;have hnc41:=NB45_44.out;have hcz42:=cf6 BK44;have hcz43:=cf6 BK45))
  go_ret
  exact ⟨ff,bs HB⟩
def laws_eqDiffS.T6:Bool × List (List Nat × List Nat):=(true,[([],[]),([],[]),([0,1],[0,1]),([2],[2]),([],[]),([],[]),([4,5],[4,5]),([6],[6]),([3,7],[3,7]),([8],[8])])
def laws_eqDiffS.B6:List Nat:=[0,0,3,7,0,0,48,112,255,511]
theorem laws_eqDiffS.tab6:rtab .any (opsOf Tryz.f39 6)=laws_eqDiffS.T6:=by kernel_rfl
theorem laws_eqDiffS.bits6:waitsOk laws_eqDiffS.T6.2 laws_eqDiffS.B6=true:=by kernel_rfl
theorem laws_eqDiffS.calls (k:Nat) (A0:Option Addr) (c0:Nat) (l0:List (S115)) (A1:Option Addr) (c1:Nat) (l1:List (S115)) (r:Bool) (w:World) (hr0:Kd.C k115 w A0 l0.length l0) (hc0:l0.length≤c0) (hr1:Kd.C k115 w A1 l1.length l1) (hc1:l1.length≤c1) (H:laws_eqDiffS.f k l0 l1=some r) :
  Calls Tryz.prog 39 #[.slice A0 l0.length c0,.slice A1 l1.length c1] w fun e w'=>e=.returned (.bool r)∧Below w.heap.size w w':=by
 have hu115:=Tryz.underlying115;have HR0:=am hr0;have HC0:=am hc0;clear hr0 hc0;have HR1:=am hr1;have HC1:=am hc1;clear hr1 hc1;have HB:=am (Below.refl w.heap.size w);unfold laws_eqDiffS.f at H
 revert H;refine ie2k ?_ ?_
 ·intro c3 c3b0 c3b1 H
  have c3b2:(l0.length == l1.length)=true:=by first|simpa using c3|(simp at c3 ⊢;omega)
  clear c3;have H':=am H;clear H
  go_in
  go_wp2
  go_loopg [5] k (fun kq v5 w'=>∃ (x5_1:Int),v5=.int .i64 x5_1∧Aside0 (laws_eqDiffS.l0 kq l0 l1 x5_1=some r)∧Aside0 (kq≤k)∧Aside0 (Below w.heap.size w w'))
  case atStart=>exact ⟨(0),fg,H',⟨Nat.le_refl _⟩,⟨bs HB⟩⟩
  case round =>
   clear H'
   try clear c1
   try clear c3
   try clear c3b0
   try clear c3b1
   try clear c3b2
   obtain ⟨x5_1,rfl,HA,HK1,HB⟩:=hrel
   cases gk with
   | zero=>exact absurd HA.out (by simp [laws_eqDiffS.l0])
   | succ k1 =>
    have H:=HA.out;clear HA;simp only [laws_eqDiffS.l0] at H
    revert H;refine id2 ?_ ?_
    ·intro c4b0 H
     revert H;refine id1 ?_
     intro c5b0 H
     revert H;refine id1 ?_
     intro c6b0 H;replace H:=bo H;obtain ⟨t15,A7,H⟩:=H
     obtain rfl|rfl:=bt t15
     ·replace H:=itT H;have H':=am H;clear H
      try go_wp2
      replace HB:=am (below_drew1 HB.out);have p13:0≤(x5_1:Int):=oa;have q13:x5_1<(l0.length:Int):=oa;obtain ⟨ad13,e13,hx13_0,hx13_1,hx13_2,hx13_3,hx13_4,hx13_5⟩:=at_T115 HR0.out x5_1 p13 q13;have hw13_5:=hx13_5;have hw13_4:=hx13_4;have hw13_3:=hx13_3;have hw13_2:=hx13_2;have hw13_1:=hx13_1;have hw13_0:=hx13_0
      cases e13
      replace hx13_0:=cb HB hx13_0;replace hx13_1:=cb HB hx13_1;replace hx13_2:=cb HB hx13_2;replace hx13_3:=cb HB hx13_3;replace hx13_4:=cb HB hx13_4;replace hx13_5:=cb HB hx13_5;replace p13:=eq_true p13;replace q13:=eq_true q13;have p14:0≤(x5_1:Int):=oa;have q14:x5_1<(l1.length:Int):=oa;obtain ⟨ad14,e14,hx14_0,hx14_1,hx14_2,hx14_3,hx14_4,hx14_5⟩:=at_T115 HR1.out x5_1 p14 q14;have hw14_5:=hx14_5;have hw14_4:=hx14_4;have hw14_3:=hx14_3;have hw14_2:=hx14_2;have hw14_1:=hx14_1;have hw14_0:=hx14_0
      cases e14
      replace hx14_0:=cb HB hx14_0;replace hx14_1:=cb HB hx14_1;replace hx14_2:=cb HB hx14_2;replace hx14_3:=cb HB hx14_3;replace hx14_4:=cb HB hx14_4;replace hx14_5:=cb HB hx14_5;replace p14:=eq_true p14;replace q14:=eq_true q14;refine sta 10 (hca (cb HB hw13_0) (hca (cb HB hw13_1) (hca (cb HB hw13_2) (hca (cb HB hw13_3) (hca (cb HB hw13_4) (hca (cb HB hw13_5) (hca (cb HB hw14_0) (hca (cb HB hw14_1) (hca (cb HB hw14_2) (hca (cb HB hw14_3) (hca (cb HB hw14_4) (hc (cb HB hw14_5))))))))))))) (fun hHeld=>?_);refine with_tabW laws_eqDiffS.tab6 laws_eqDiffS.bits6 (fun HT_ HW_=>?_)
      generalize wr.drew=w9 at HB hx13_0 hx13_1 hx13_2 hx13_3 hx13_4 hx13_5 hx14_0 hx14_1 hx14_2 hx14_3 hx14_4 hx14_5 hHeld ⊢
      refine pA 0 17 HT_ ?_;refine pA 1 18 HT_ ?_;refine pA 2 19 HT_ ?_;refine pA 4 21 HT_ ?_;refine pA 5 22 HT_ ?_;refine pA 6 23 HT_ ?_;refine tA 3 20 HT_ HW_ hHeld ?_;refine tA 7 24 HT_ HW_ hHeld ?_;refine oA 8 25 HT_ (fun K hK=>?_);refine gA Tryz.func82 #[.agg #[.int .i64 ((rd_T115 l0 x5_1).f0),.string ((rd_T115 l0 x5_1).f1),.string ((rd_T115 l0 x5_1).f2),.int .i64 ((rd_T115 l0 x5_1).f3),.string ((rd_T115 l0 x5_1).f4),.int .i64 ((rd_T115 l0 x5_1).f5)],.agg #[.int .i64 ((rd_T115 l1 x5_1).f0),.string ((rd_T115 l1 x5_1).f1),.string ((rd_T115 l1 x5_1).f2),.int .i64 ((rd_T115 l1 x5_1).f3),.string ((rd_T115 l1 x5_1).f4),.int .i64 ((rd_T115 l1 x5_1).f5)]] ?_;(with_reducible refine (laws_eqDiff.calls ((rd_T115 l0 x5_1).f0) ((rd_T115 l0 x5_1).f1) ((rd_T115 l0 x5_1).f2) ((rd_T115 l0 x5_1).f3) ((rd_T115 l0 x5_1).f4) ((rd_T115 l0 x5_1).f5) ((rd_T115 l1 x5_1).f0) ((rd_T115 l1 x5_1).f1) ((rd_T115 l1 x5_1).f2) ((rd_T115 l1 x5_1).f3) ((rd_T115 l1 x5_1).f4) ((rd_T115 l1 x5_1).f5) true _ A7.out).mono ?_);rintro e w10 ⟨rfl,hb⟩;refine ⟨_,rfl,?_⟩;replace HB:=bq HB hb;(try clear hb);(try clear hb2);(try clear hk);(try clear hi);refine hK.out _ _ (hca (cb HB hw13_0) (hca (cb HB hw13_1) (hca (cb HB hw13_2) (hca (cb HB hw13_3) (hca (cb HB hw13_4) (hca (cb HB hw13_5) (hca (cb HB hw14_0) (hca (cb HB hw14_1) (hca (cb HB hw14_2) (hca (cb HB hw14_3) (hca (cb HB hw14_4) (hc (cb HB hw14_5))))))))))))).out (fun hHeld=>?_);clear hK K;refine nA 25 ?_;refine pA 9 26 HT_ ?_;refine done_ (done_of HT_.out (by kernel_rfl)) ?_
      try go_wp2
      go_roundg k1
      case measure=>have:=HK1.out;omega
      case rel=>exact ⟨(wrap64 (x5_1+1)),fg,H',⟨by have:=HK1.out;omega⟩,⟨bs HB⟩⟩
     ·replace H:=itF H;obtain rfl:=si H
      try go_wp2
      replace HB:=am (below_drew1 HB.out);have p13:0≤(x5_1:Int):=oa;have q13:x5_1<(l0.length:Int):=oa;obtain ⟨ad13,e13,hx13_0,hx13_1,hx13_2,hx13_3,hx13_4,hx13_5⟩:=at_T115 HR0.out x5_1 p13 q13;have hw13_5:=hx13_5;have hw13_4:=hx13_4;have hw13_3:=hx13_3;have hw13_2:=hx13_2;have hw13_1:=hx13_1;have hw13_0:=hx13_0
      cases e13
      replace hx13_0:=cb HB hx13_0;replace hx13_1:=cb HB hx13_1;replace hx13_2:=cb HB hx13_2;replace hx13_3:=cb HB hx13_3;replace hx13_4:=cb HB hx13_4;replace hx13_5:=cb HB hx13_5;replace p13:=eq_true p13;replace q13:=eq_true q13;have p14:0≤(x5_1:Int):=oa;have q14:x5_1<(l1.length:Int):=oa;obtain ⟨ad14,e14,hx14_0,hx14_1,hx14_2,hx14_3,hx14_4,hx14_5⟩:=at_T115 HR1.out x5_1 p14 q14;have hw14_5:=hx14_5;have hw14_4:=hx14_4;have hw14_3:=hx14_3;have hw14_2:=hx14_2;have hw14_1:=hx14_1;have hw14_0:=hx14_0
      cases e14
      replace hx14_0:=cb HB hx14_0;replace hx14_1:=cb HB hx14_1;replace hx14_2:=cb HB hx14_2;replace hx14_3:=cb HB hx14_3;replace hx14_4:=cb HB hx14_4;replace hx14_5:=cb HB hx14_5;replace p14:=eq_true p14;replace q14:=eq_true q14;refine sta 10 (hca (cb HB hw13_0) (hca (cb HB hw13_1) (hca (cb HB hw13_2) (hca (cb HB hw13_3) (hca (cb HB hw13_4) (hca (cb HB hw13_5) (hca (cb HB hw14_0) (hca (cb HB hw14_1) (hca (cb HB hw14_2) (hca (cb HB hw14_3) (hca (cb HB hw14_4) (hc (cb HB hw14_5))))))))))))) (fun hHeld=>?_);refine with_tabW laws_eqDiffS.tab6 laws_eqDiffS.bits6 (fun HT_ HW_=>?_)
      generalize wr.drew=w11 at HB hx13_0 hx13_1 hx13_2 hx13_3 hx13_4 hx13_5 hx14_0 hx14_1 hx14_2 hx14_3 hx14_4 hx14_5 hHeld ⊢
      refine pA 0 17 HT_ ?_;refine pA 1 18 HT_ ?_;refine pA 2 19 HT_ ?_;refine pA 4 21 HT_ ?_;refine pA 5 22 HT_ ?_;refine pA 6 23 HT_ ?_;refine tA 3 20 HT_ HW_ hHeld ?_;refine tA 7 24 HT_ HW_ hHeld ?_;refine oA 8 25 HT_ (fun K hK=>?_);refine gA Tryz.func82 #[.agg #[.int .i64 ((rd_T115 l0 x5_1).f0),.string ((rd_T115 l0 x5_1).f1),.string ((rd_T115 l0 x5_1).f2),.int .i64 ((rd_T115 l0 x5_1).f3),.string ((rd_T115 l0 x5_1).f4),.int .i64 ((rd_T115 l0 x5_1).f5)],.agg #[.int .i64 ((rd_T115 l1 x5_1).f0),.string ((rd_T115 l1 x5_1).f1),.string ((rd_T115 l1 x5_1).f2),.int .i64 ((rd_T115 l1 x5_1).f3),.string ((rd_T115 l1 x5_1).f4),.int .i64 ((rd_T115 l1 x5_1).f5)]] ?_;(with_reducible refine (laws_eqDiff.calls ((rd_T115 l0 x5_1).f0) ((rd_T115 l0 x5_1).f1) ((rd_T115 l0 x5_1).f2) ((rd_T115 l0 x5_1).f3) ((rd_T115 l0 x5_1).f4) ((rd_T115 l0 x5_1).f5) ((rd_T115 l1 x5_1).f0) ((rd_T115 l1 x5_1).f1) ((rd_T115 l1 x5_1).f2) ((rd_T115 l1 x5_1).f3) ((rd_T115 l1 x5_1).f4) ((rd_T115 l1 x5_1).f5) false _ A7.out).mono ?_);rintro e w12 ⟨rfl,hb⟩;refine ⟨_,rfl,?_⟩;replace HB:=bq HB hb;(try clear hb);(try clear hb2);(try clear hk);(try clear hi);refine hK.out _ _ (hca (cb HB hw13_0) (hca (cb HB hw13_1) (hca (cb HB hw13_2) (hca (cb HB hw13_3) (hca (cb HB hw13_4) (hca (cb HB hw13_5) (hca (cb HB hw14_0) (hca (cb HB hw14_1) (hca (cb HB hw14_2) (hca (cb HB hw14_3) (hca (cb HB hw14_4) (hc (cb HB hw14_5))))))))))))).out (fun hHeld=>?_);clear hK K;refine nA 25 ?_;refine pA 9 26 HT_ ?_;refine done_ (done_of HT_.out (by kernel_rfl)) ?_
      try go_wp2
      go_ret
      exact ⟨ff,bs HB⟩
    ·intro c4b0 H;obtain rfl:=si H
     go_wp2
     go_ret
     exact ⟨ff,bs HB⟩
 ·intro c3 c3b0 c3b1 H
  have c3b2:(l0.length == l1.length)=false:=by first|simpa using c3|(simp at c3 ⊢;omega)
  obtain rfl:=si H
  go_in
  go_wp2
  go_ret
  exact ⟨ff,bs HB⟩
theorem laws_eqOut.calls (a0_0:ByteArray) (a0_1:Int) (a0_2:ByteArray) (a0_3:Int) (a0_4:Int) (a1_0:ByteArray) (a1_1:Int) (a1_2:ByteArray) (a1_3:Int) (a1_4:Int) (r:Bool) (w:World) (H:laws_eqOut.f a0_0 a0_1 a0_2 a0_3 a0_4 a1_0 a1_1 a1_2 a1_3 a1_4=some r) :
  Calls Tryz.prog 83 #[.agg #[.string a0_0,.int .i64 a0_1,.string a0_2,.int .i64 a0_3,.int .i64 a0_4],.agg #[.string a1_0,.int .i64 a1_1,.string a1_2,.int .i64 a1_3,.int .i64 a1_4]] w fun e w'=>e=.returned (.bool r)∧Below w.heap.size w w':=by
 have hu117:=Tryz.underlying117;have HB:=am (Below.refl w.heap.size w);unfold laws_eqOut.f at H
 revert H;refine ie2 ?_ ?_
 ·intro c3b0 c3b1 H
  revert H;refine ie2 ?_ ?_
  ·intro c4b0 c4b1 H
   revert H;refine ie2 ?_ ?_
   ·intro c5b0 c5b1 H
    revert H;refine ie2 ?_ ?_
    ·intro c6b0 c6b1 H
     revert H;refine ie2 ?_ ?_
     ·intro c7b0 c7b1 H;obtain rfl:=si H
      go_in
      go_wp2_with (first|((with_reducible refine gate_dst (N:=2) rfl ?_);refine bz 2 (cs:=#[.string a0_0,.int .i64 a0_1,.string a0_2,.int .i64 a0_3,.int .i64 a0_4]) (t:=117) HB ?_;clear HB;intro gb38 hg w8 BK38 GW38 hb HB;clear hb hg)|((with_reducible refine gate_dst (N:=3) rfl ?_);refine bz 3 (cs:=#[.string a1_0,.int .i64 a1_1,.string a1_2,.int .i64 a1_3,.int .i64 a1_4]) (t:=117) HB ?_;clear HB;intro gb39 hg w9 BK39 GW39 hb HB;have NB38_39:=na hg BK38;have NB39_38:=nc hg BK38;replace BK38:=bb BK38 hb;clear hb hg;have hnb10:=NB38_39.out;have hnc10:=NB39_38.out;have hcz11:=cf5 BK38;have hcz12:=cf5 BK39))
      go_ret
      exact ⟨ff,bs HB⟩
     ·intro c7 c7b0 c7b1 H;obtain rfl:=si H
      go_in
      go_wp2_with (first|((with_reducible refine gate_dst (N:=2) rfl ?_);refine bz 2 (cs:=#[.string a0_0,.int .i64 a0_1,.string a0_2,.int .i64 a0_3,.int .i64 a0_4]) (t:=117) HB ?_;clear HB;intro gb38 hg w13 BK38 GW38 hb HB;clear hb hg)|((with_reducible refine gate_dst (N:=3) rfl ?_);refine bz 3 (cs:=#[.string a1_0,.int .i64 a1_1,.string a1_2,.int .i64 a1_3,.int .i64 a1_4]) (t:=117) HB ?_;clear HB;intro gb39 hg w14 BK39 GW39 hb HB;have NB38_39:=na hg BK38;have NB39_38:=nc hg BK38;replace BK38:=bb BK38 hb;clear hb hg;have hnb15:=NB38_39.out;have hnc15:=NB39_38.out;have hcz16:=cf5 BK38;have hcz17:=cf5 BK39))
      go_ret
      exact ⟨ff,bs HB⟩
    ·intro c6 c6b0 c6b1 H;obtain rfl:=si H
     go_in
     go_wp2_with (first|((with_reducible refine gate_dst (N:=2) rfl ?_);refine bz 2 (cs:=#[.string a0_0,.int .i64 a0_1,.string a0_2,.int .i64 a0_3,.int .i64 a0_4]) (t:=117) HB ?_;clear HB;intro gb38 hg w18 BK38 GW38 hb HB;clear hb hg)|((with_reducible refine gate_dst (N:=3) rfl ?_);refine bz 3 (cs:=#[.string a1_0,.int .i64 a1_1,.string a1_2,.int .i64 a1_3,.int .i64 a1_4]) (t:=117) HB ?_;clear HB;intro gb39 hg w19 BK39 GW39 hb HB;have NB38_39:=na hg BK38;have NB39_38:=nc hg BK38;replace BK38:=bb BK38 hb;clear hb hg;have hnb20:=NB38_39.out;have hnc20:=NB39_38.out;have hcz21:=cf5 BK38;have hcz22:=cf5 BK39))
     go_ret
     exact ⟨ff,bs HB⟩
   ·intro c5 c5b0 c5b1 H;obtain rfl:=si H
    go_in
    go_wp2_with (first|((with_reducible refine gate_dst (N:=2) rfl ?_);refine bz 2 (cs:=#[.string a0_0,.int .i64 a0_1,.string a0_2,.int .i64 a0_3,.int .i64 a0_4]) (t:=117) HB ?_;clear HB;intro gb38 hg w23 BK38 GW38 hb HB;clear hb hg)|((with_reducible refine gate_dst (N:=3) rfl ?_);refine bz 3 (cs:=#[.string a1_0,.int .i64 a1_1,.string a1_2,.int .i64 a1_3,.int .i64 a1_4]) (t:=117) HB ?_;clear HB;intro gb39 hg w24 BK39 GW39 hb HB;have NB38_39:=na hg BK38;have NB39_38:=nc hg BK38;replace BK38:=bb BK38 hb;clear hb hg;have hnb25:=NB38_39.out;have hnc25:=NB39_38.out;have hcz26:=cf5 BK38;have hcz27:=cf5 BK39))
    go_ret
    exact ⟨ff,bs HB⟩
  ·intro c4 c4b0 c4b1 H;obtain rfl:=si H
   go_in
   go_wp2_with (first|((with_reducible refine gate_dst (N:=2) rfl ?_);refine bz 2 (cs:=#[.string a0_0,.int .i64 a0_1,.string a0_2,.int .i64 a0_3,.int .i64 a0_4]) (t:=117) HB ?_;clear HB;intro gb38 hg w28 BK38 GW38 hb HB;clear hb hg)|((with_reducible refine gate_dst (N:=3) rfl ?_);refine bz 3 (cs:=#[.string a1_0,.int .i64 a1_1,.string a1_2,.int .i64 a1_3,.int .i64 a1_4]) (t:=117) HB ?_;clear HB;intro gb39 hg w29 BK39 GW39 hb HB;have NB38_39:=na hg BK38;have NB39_38:=nc hg BK38;replace BK38:=bb BK38 hb;clear hb hg;have hnb30:=NB38_39.out;have hnc30:=NB39_38.out;have hcz31:=cf5 BK38;have hcz32:=cf5 BK39))
   go_ret
   exact ⟨ff,bs HB⟩
 ·intro c3 c3b0 c3b1 H;obtain rfl:=si H
  go_in
  go_wp2_with (first|((with_reducible refine gate_dst (N:=2) rfl ?_);refine bz 2 (cs:=#[.string a0_0,.int .i64 a0_1,.string a0_2,.int .i64 a0_3,.int .i64 a0_4]) (t:=117) HB ?_;clear HB;intro gb38 hg w33 BK38 GW38 hb HB;clear hb hg)|((with_reducible refine gate_dst (N:=3) rfl ?_);refine bz 3 (cs:=#[.string a1_0,.int .i64 a1_1,.string a1_2,.int .i64 a1_3,.int .i64 a1_4]) (t:=117) HB ?_;clear HB;intro gb39 hg w34 BK39 GW39 hb HB;have NB38_39:=na hg BK38;have NB39_38:=nc hg BK38;replace BK38:=bb BK38 hb;clear hb hg;have hnb35:=NB38_39.out;have hnc35:=NB39_38.out;have hcz36:=cf5 BK38;have hcz37:=cf5 BK39))
  go_ret
  exact ⟨ff,bs HB⟩
def laws_eqOutS.T6:Bool × List (List Nat × List Nat):=(true,[([],[]),([],[]),([0,1],[0,1]),([2],[2]),([],[]),([],[]),([4,5],[4,5]),([6],[6]),([3,7],[3,7]),([8],[8])])
def laws_eqOutS.B6:List Nat:=[0,0,3,7,0,0,48,112,255,511]
theorem laws_eqOutS.tab6:rtab .any (opsOf Tryz.f40 6)=laws_eqOutS.T6:=by kernel_rfl
theorem laws_eqOutS.bits6:waitsOk laws_eqOutS.T6.2 laws_eqOutS.B6=true:=by kernel_rfl
theorem laws_eqOutS.calls (k:Nat) (A0:Option Addr) (c0:Nat) (l0:List (S117)) (A1:Option Addr) (c1:Nat) (l1:List (S117)) (r:Bool) (w:World) (hr0:Kd.C k117 w A0 l0.length l0) (hc0:l0.length≤c0) (hr1:Kd.C k117 w A1 l1.length l1) (hc1:l1.length≤c1) (H:laws_eqOutS.f k l0 l1=some r) :
  Calls Tryz.prog 40 #[.slice A0 l0.length c0,.slice A1 l1.length c1] w fun e w'=>e=.returned (.bool r)∧Below w.heap.size w w':=by
 have hu117:=Tryz.underlying117;have HR0:=am hr0;have HC0:=am hc0;clear hr0 hc0;have HR1:=am hr1;have HC1:=am hc1;clear hr1 hc1;have HB:=am (Below.refl w.heap.size w);unfold laws_eqOutS.f at H
 revert H;refine ie2k ?_ ?_
 ·intro c3 c3b0 c3b1 H
  have c3b2:(l0.length == l1.length)=true:=by first|simpa using c3|(simp at c3 ⊢;omega)
  clear c3;have H':=am H;clear H
  go_in
  go_wp2
  go_loopg [5] k (fun kq v5 w'=>∃ (x5_1:Int),v5=.int .i64 x5_1∧Aside0 (laws_eqOutS.l0 kq l0 l1 x5_1=some r)∧Aside0 (kq≤k)∧Aside0 (Below w.heap.size w w'))
  case atStart=>exact ⟨(0),fg,H',⟨Nat.le_refl _⟩,⟨bs HB⟩⟩
  case round =>
   clear H'
   try clear c1
   try clear c3
   try clear c3b0
   try clear c3b1
   try clear c3b2
   obtain ⟨x5_1,rfl,HA,HK1,HB⟩:=hrel
   cases gk with
   | zero=>exact absurd HA.out (by simp [laws_eqOutS.l0])
   | succ k1 =>
    have H:=HA.out;clear HA;simp only [laws_eqOutS.l0] at H
    revert H;refine id2 ?_ ?_
    ·intro c4b0 H
     revert H;refine id1 ?_
     intro c5b0 H
     revert H;refine id1 ?_
     intro c6b0 H;replace H:=bo H;obtain ⟨t15,A7,H⟩:=H
     obtain rfl|rfl:=bt t15
     ·replace H:=itT H;have H':=am H;clear H
      try go_wp2
      replace HB:=am (below_drew1 HB.out);have p13:0≤(x5_1:Int):=oa;have q13:x5_1<(l0.length:Int):=oa;obtain ⟨ad13,e13,hx13_0,hx13_1,hx13_2,hx13_3,hx13_4⟩:=at_T117 HR0.out x5_1 p13 q13;have hw13_4:=hx13_4;have hw13_3:=hx13_3;have hw13_2:=hx13_2;have hw13_1:=hx13_1;have hw13_0:=hx13_0
      cases e13
      replace hx13_0:=cb HB hx13_0;replace hx13_1:=cb HB hx13_1;replace hx13_2:=cb HB hx13_2;replace hx13_3:=cb HB hx13_3;replace hx13_4:=cb HB hx13_4;replace p13:=eq_true p13;replace q13:=eq_true q13;have p14:0≤(x5_1:Int):=oa;have q14:x5_1<(l1.length:Int):=oa;obtain ⟨ad14,e14,hx14_0,hx14_1,hx14_2,hx14_3,hx14_4⟩:=at_T117 HR1.out x5_1 p14 q14;have hw14_4:=hx14_4;have hw14_3:=hx14_3;have hw14_2:=hx14_2;have hw14_1:=hx14_1;have hw14_0:=hx14_0
      cases e14
      replace hx14_0:=cb HB hx14_0;replace hx14_1:=cb HB hx14_1;replace hx14_2:=cb HB hx14_2;replace hx14_3:=cb HB hx14_3;replace hx14_4:=cb HB hx14_4;replace p14:=eq_true p14;replace q14:=eq_true q14;refine sta 10 (hca (cb HB hw13_0) (hca (cb HB hw13_1) (hca (cb HB hw13_2) (hca (cb HB hw13_3) (hca (cb HB hw13_4) (hca (cb HB hw14_0) (hca (cb HB hw14_1) (hca (cb HB hw14_2) (hca (cb HB hw14_3) (hc (cb HB hw14_4))))))))))) (fun hHeld=>?_);refine with_tabW laws_eqOutS.tab6 laws_eqOutS.bits6 (fun HT_ HW_=>?_)
      generalize wr.drew=w9 at HB hx13_0 hx13_1 hx13_2 hx13_3 hx13_4 hx14_0 hx14_1 hx14_2 hx14_3 hx14_4 hHeld ⊢
      refine pA 0 17 HT_ ?_;refine pA 1 18 HT_ ?_;refine pA 2 19 HT_ ?_;refine pA 4 21 HT_ ?_;refine pA 5 22 HT_ ?_;refine pA 6 23 HT_ ?_;refine tA 3 20 HT_ HW_ hHeld ?_;refine tA 7 24 HT_ HW_ hHeld ?_;refine oA 8 25 HT_ (fun K hK=>?_);refine gA Tryz.func83 #[.agg #[.string ((rd_T117 l0 x5_1).f0),.int .i64 ((rd_T117 l0 x5_1).f1),.string ((rd_T117 l0 x5_1).f2),.int .i64 ((rd_T117 l0 x5_1).f3),.int .i64 ((rd_T117 l0 x5_1).f4)],.agg #[.string ((rd_T117 l1 x5_1).f0),.int .i64 ((rd_T117 l1 x5_1).f1),.string ((rd_T117 l1 x5_1).f2),.int .i64 ((rd_T117 l1 x5_1).f3),.int .i64 ((rd_T117 l1 x5_1).f4)]] ?_;(with_reducible refine (laws_eqOut.calls ((rd_T117 l0 x5_1).f0) ((rd_T117 l0 x5_1).f1) ((rd_T117 l0 x5_1).f2) ((rd_T117 l0 x5_1).f3) ((rd_T117 l0 x5_1).f4) ((rd_T117 l1 x5_1).f0) ((rd_T117 l1 x5_1).f1) ((rd_T117 l1 x5_1).f2) ((rd_T117 l1 x5_1).f3) ((rd_T117 l1 x5_1).f4) true _ A7.out).mono ?_);rintro e w10 ⟨rfl,hb⟩;refine ⟨_,rfl,?_⟩;replace HB:=bq HB hb;(try clear hb);(try clear hb2);(try clear hk);(try clear hi);refine hK.out _ _ (hca (cb HB hw13_0) (hca (cb HB hw13_1) (hca (cb HB hw13_2) (hca (cb HB hw13_3) (hca (cb HB hw13_4) (hca (cb HB hw14_0) (hca (cb HB hw14_1) (hca (cb HB hw14_2) (hca (cb HB hw14_3) (hc (cb HB hw14_4))))))))))).out (fun hHeld=>?_);clear hK K;refine nA 25 ?_;refine pA 9 26 HT_ ?_;refine done_ (done_of HT_.out (by kernel_rfl)) ?_
      try go_wp2
      go_roundg k1
      case measure=>have:=HK1.out;omega
      case rel=>exact ⟨(wrap64 (x5_1+1)),fg,H',⟨by have:=HK1.out;omega⟩,⟨bs HB⟩⟩
     ·replace H:=itF H;obtain rfl:=si H
      try go_wp2
      replace HB:=am (below_drew1 HB.out);have p13:0≤(x5_1:Int):=oa;have q13:x5_1<(l0.length:Int):=oa;obtain ⟨ad13,e13,hx13_0,hx13_1,hx13_2,hx13_3,hx13_4⟩:=at_T117 HR0.out x5_1 p13 q13;have hw13_4:=hx13_4;have hw13_3:=hx13_3;have hw13_2:=hx13_2;have hw13_1:=hx13_1;have hw13_0:=hx13_0
      cases e13
      replace hx13_0:=cb HB hx13_0;replace hx13_1:=cb HB hx13_1;replace hx13_2:=cb HB hx13_2;replace hx13_3:=cb HB hx13_3;replace hx13_4:=cb HB hx13_4;replace p13:=eq_true p13;replace q13:=eq_true q13;have p14:0≤(x5_1:Int):=oa;have q14:x5_1<(l1.length:Int):=oa;obtain ⟨ad14,e14,hx14_0,hx14_1,hx14_2,hx14_3,hx14_4⟩:=at_T117 HR1.out x5_1 p14 q14;have hw14_4:=hx14_4;have hw14_3:=hx14_3;have hw14_2:=hx14_2;have hw14_1:=hx14_1;have hw14_0:=hx14_0
      cases e14
      replace hx14_0:=cb HB hx14_0;replace hx14_1:=cb HB hx14_1;replace hx14_2:=cb HB hx14_2;replace hx14_3:=cb HB hx14_3;replace hx14_4:=cb HB hx14_4;replace p14:=eq_true p14;replace q14:=eq_true q14;refine sta 10 (hca (cb HB hw13_0) (hca (cb HB hw13_1) (hca (cb HB hw13_2) (hca (cb HB hw13_3) (hca (cb HB hw13_4) (hca (cb HB hw14_0) (hca (cb HB hw14_1) (hca (cb HB hw14_2) (hca (cb HB hw14_3) (hc (cb HB hw14_4))))))))))) (fun hHeld=>?_);refine with_tabW laws_eqOutS.tab6 laws_eqOutS.bits6 (fun HT_ HW_=>?_)
      generalize wr.drew=w11 at HB hx13_0 hx13_1 hx13_2 hx13_3 hx13_4 hx14_0 hx14_1 hx14_2 hx14_3 hx14_4 hHeld ⊢
      refine pA 0 17 HT_ ?_;refine pA 1 18 HT_ ?_;refine pA 2 19 HT_ ?_;refine pA 4 21 HT_ ?_;refine pA 5 22 HT_ ?_;refine pA 6 23 HT_ ?_;refine tA 3 20 HT_ HW_ hHeld ?_;refine tA 7 24 HT_ HW_ hHeld ?_;refine oA 8 25 HT_ (fun K hK=>?_);refine gA Tryz.func83 #[.agg #[.string ((rd_T117 l0 x5_1).f0),.int .i64 ((rd_T117 l0 x5_1).f1),.string ((rd_T117 l0 x5_1).f2),.int .i64 ((rd_T117 l0 x5_1).f3),.int .i64 ((rd_T117 l0 x5_1).f4)],.agg #[.string ((rd_T117 l1 x5_1).f0),.int .i64 ((rd_T117 l1 x5_1).f1),.string ((rd_T117 l1 x5_1).f2),.int .i64 ((rd_T117 l1 x5_1).f3),.int .i64 ((rd_T117 l1 x5_1).f4)]] ?_;(with_reducible refine (laws_eqOut.calls ((rd_T117 l0 x5_1).f0) ((rd_T117 l0 x5_1).f1) ((rd_T117 l0 x5_1).f2) ((rd_T117 l0 x5_1).f3) ((rd_T117 l0 x5_1).f4) ((rd_T117 l1 x5_1).f0) ((rd_T117 l1 x5_1).f1) ((rd_T117 l1 x5_1).f2) ((rd_T117 l1 x5_1).f3) ((rd_T117 l1 x5_1).f4) false _ A7.out).mono ?_);rintro e w12 ⟨rfl,hb⟩;refine ⟨_,rfl,?_⟩;replace HB:=bq HB hb;(try clear hb);(try clear hb2);(try clear hk);(try clear hi);refine hK.out _ _ (hca (cb HB hw13_0) (hca (cb HB hw13_1) (hca (cb HB hw13_2) (hca (cb HB hw13_3) (hca (cb HB hw13_4) (hca (cb HB hw14_0) (hca (cb HB hw14_1) (hca (cb HB hw14_2) (hca (cb HB hw14_3) (hc (cb HB hw14_4))))))))))).out (fun hHeld=>?_);clear hK K;refine nA 25 ?_;refine pA 9 26 HT_ ?_;refine done_ (done_of HT_.out (by kernel_rfl)) ?_
      try go_wp2
      go_ret
      exact ⟨ff,bs HB⟩
    ·intro c4b0 H;obtain rfl:=si H
     go_wp2
     go_ret
     exact ⟨ff,bs HB⟩
 ·intro c3 c3b0 c3b1 H
  have c3b2:(l0.length == l1.length)=false:=by first|simpa using c3|(simp at c3 ⊢;omega)
  obtain rfl:=si H
  go_in
  go_wp2
  go_ret
  exact ⟨ff,bs HB⟩
theorem laws_eqGate.calls (k:Nat) (a0_0:ByteArray) (a0_1:Int) (A0_2:Option Addr) (c0_2:Nat) (l0_2:List (S108)) (A0_3:Option Addr) (c0_3:Nat) (l0_3:List (S111)) (A0_4:Option Addr) (c0_4:Nat) (l0_4:List (S141)) (A0_5:Option Addr) (c0_5:Nat) (l0_5:List (S147)) (A0_6:Option Addr) (c0_6:Nat) (l0_6:List (S115)) (A0_7:Option Addr) (c0_7:Nat) (l0_7:List (S117)) (a1_0:ByteArray) (a1_1:Int) (A1_2:Option Addr) (c1_2:Nat) (l1_2:List (S108)) (A1_3:Option Addr) (c1_3:Nat) (l1_3:List (S111)) (A1_4:Option Addr) (c1_4:Nat) (l1_4:List (S141)) (A1_5:Option Addr) (c1_5:Nat) (l1_5:List (S147)) (A1_6:Option Addr) (c1_6:Nat) (l1_6:List (S115)) (A1_7:Option Addr) (c1_7:Nat) (l1_7:List (S117)) (r:Bool) (w:World) (hr0_2:Kd.C k108 w A0_2 l0_2.length l0_2) (hc0_2:l0_2.length≤c0_2) (hr0_3:Kd.C k111 w A0_3 l0_3.length l0_3) (hc0_3:l0_3.length≤c0_3) (hr0_4:Kd.C k141 w A0_4 l0_4.length l0_4) (hc0_4:l0_4.length≤c0_4) (hr0_5:Kd.C k147 w A0_5 l0_5.length l0_5) (hc0_5:l0_5.length≤c0_5) (hr0_6:Kd.C k115 w A0_6 l0_6.length l0_6) (hc0_6:l0_6.length≤c0_6) (hr0_7:Kd.C k117 w A0_7 l0_7.length l0_7) (hc0_7:l0_7.length≤c0_7) (hr1_2:Kd.C k108 w A1_2 l1_2.length l1_2) (hc1_2:l1_2.length≤c1_2) (hr1_3:Kd.C k111 w A1_3 l1_3.length l1_3) (hc1_3:l1_3.length≤c1_3) (hr1_4:Kd.C k141 w A1_4 l1_4.length l1_4) (hc1_4:l1_4.length≤c1_4) (hr1_5:Kd.C k147 w A1_5 l1_5.length l1_5) (hc1_5:l1_5.length≤c1_5) (hr1_6:Kd.C k115 w A1_6 l1_6.length l1_6) (hc1_6:l1_6.length≤c1_6) (hr1_7:Kd.C k117 w A1_7 l1_7.length l1_7) (hc1_7:l1_7.length≤c1_7) (H:laws_eqGate.f k a0_0 a0_1 l0_2 l0_3 l0_4 l0_5 l0_6 l0_7 a1_0 a1_1 l1_2 l1_3 l1_4 l1_5 l1_6 l1_7=some r) :
  Calls Tryz.prog 9 #[.agg #[.string a0_0,.int .i64 a0_1,.slice A0_2 l0_2.length c0_2,.slice A0_3 l0_3.length c0_3,.slice A0_4 l0_4.length c0_4,.slice A0_5 l0_5.length c0_5,.slice A0_6 l0_6.length c0_6,.slice A0_7 l0_7.length c0_7],.agg #[.string a1_0,.int .i64 a1_1,.slice A1_2 l1_2.length c1_2,.slice A1_3 l1_3.length c1_3,.slice A1_4 l1_4.length c1_4,.slice A1_5 l1_5.length c1_5,.slice A1_6 l1_6.length c1_6,.slice A1_7 l1_7.length c1_7]] w fun e w'=>e=.returned (.bool r)∧Below w.heap.size w w':=by
 have hu47:=Tryz.underlying47;have hu43:=Tryz.underlying43;have HR0_2:=am hr0_2;have HC0_2:=am hc0_2;clear hr0_2 hc0_2;have HR0_3:=am hr0_3;have HC0_3:=am hc0_3;clear hr0_3 hc0_3;have HR0_4:=am hr0_4;have HC0_4:=am hc0_4;clear hr0_4 hc0_4;have HR0_5:=am hr0_5;have HC0_5:=am hc0_5;clear hr0_5 hc0_5;have HR0_6:=am hr0_6;have HC0_6:=am hc0_6;clear hr0_6 hc0_6;have HR0_7:=am hr0_7;have HC0_7:=am hc0_7;clear hr0_7 hc0_7;have HR1_2:=am hr1_2;have HC1_2:=am hc1_2;clear hr1_2 hc1_2;have HR1_3:=am hr1_3;have HC1_3:=am hc1_3;clear hr1_3 hc1_3;have HR1_4:=am hr1_4;have HC1_4:=am hc1_4;clear hr1_4 hc1_4;have HR1_5:=am hr1_5;have HC1_5:=am hc1_5;clear hr1_5 hc1_5;have HR1_6:=am hr1_6;have HC1_6:=am hc1_6;clear hr1_6 hc1_6;have HR1_7:=am hr1_7;have HC1_7:=am hc1_7;clear hr1_7 hc1_7;have HB:=am (Below.refl w.heap.size w);unfold laws_eqGate.f at H
 revert H;refine ie2 ?_ ?_
 ·intro c3b0 c3b1 H
  revert H;refine ie2 ?_ ?_
  ·intro c4b0 c4b1 H;replace H:=bo H;obtain ⟨t24,A5,H⟩:=H
   go_in
   try go_wp2_with (first|((with_reducible refine gate_dst (N:=2) rfl ?_);refine bz 2 (cs:=#[.string a0_0,.int .i64 a0_1,.slice A0_2 l0_2.length c0_2,.slice A0_3 l0_3.length c0_3,.slice A0_4 l0_4.length c0_4,.slice A0_5 l0_5.length c0_5,.slice A0_6 l0_6.length c0_6,.slice A0_7 l0_7.length c0_7]) (t:=47) HB ?_;clear HB;intro gb12 hg w6 BK12 GW12 hb HB;clear hb hg)|((with_reducible refine gate_dst (N:=3) rfl ?_);refine bz 3 (cs:=#[.string a1_0,.int .i64 a1_1,.slice A1_2 l1_2.length c1_2,.slice A1_3 l1_3.length c1_3,.slice A1_4 l1_4.length c1_4,.slice A1_5 l1_5.length c1_5,.slice A1_6 l1_6.length c1_6,.slice A1_7 l1_7.length c1_7]) (t:=47) HB ?_;clear HB;intro gb18 hg w7 BK18 GW18 hb HB;have NB12_18:=na hg BK12;have NB18_12:=nc hg BK12;replace BK12:=bb BK12 hb;clear hb hg;have hnb8:=NB12_18.out;have hnc8:=NB18_12.out;have hcz9:=cf8 BK12;have hcz10:=cf8 BK18))
   go_at_call 36;(with_reducible refine (laws_eqPartnerS.calls k _ _ l0_2 _ _ l1_2 t24 _ (Kd.C_below HR0_2.out (bs HB)) HC0_2.out (Kd.C_below HR1_2.out (bs HB)) HC1_2.out A5.out).mono ?_);rintro e w11 ⟨rfl,hb⟩;replace BK12:=bb BK12 hb;replace BK18:=bb BK18 hb;replace HB:=bq HB hb;(try clear hb);(try clear hb2);(try clear hk);(try clear hi)
   obtain rfl|rfl:=bt t24
   ·replace H:=itT H;replace H:=bo H;obtain ⟨t30,A13,H⟩:=H;have hnb14:=NB12_18.out;have hnc14:=NB18_12.out;have hcz15:=cf8 BK12;have hcz16:=cf8 BK18
    try go_wp2_with (fail)
    go_at_call 37;(with_reducible refine (laws_eqCrossS.calls k _ _ l0_3 _ _ l1_3 t30 _ (Kd.C_below HR0_3.out (bs HB)) HC0_3.out (Kd.C_below HR1_3.out (bs HB)) HC1_3.out A13.out).mono ?_);rintro e w17 ⟨rfl,hb⟩;replace BK12:=bb BK12 hb;replace BK18:=bb BK18 hb;replace HB:=bq HB hb;(try clear hb);(try clear hb2);(try clear hk);(try clear hi)
    obtain rfl|rfl:=bt t30
    ·replace H:=itT H;replace H:=bo H;obtain ⟨t48,A19,H⟩:=H;have hnb20:=NB12_18.out;have hnc20:=NB18_12.out;have hcz21:=cf8 BK12;have hcz22:=cf8 BK18
     try go_wp2_with (fail)
     go_at_call 38;(with_reducible refine (laws_eqBook.calls k _ _ l0_4 _ _ l0_5 _ _ l1_4 _ _ l1_5 t48 _ (Kd.C_below HR0_4.out (bs HB)) HC0_4.out (Kd.C_below HR0_5.out (bs HB)) HC0_5.out (Kd.C_below HR1_4.out (bs HB)) HC1_4.out (Kd.C_below HR1_5.out (bs HB)) HC1_5.out A19.out).mono ?_);rintro e w23 ⟨rfl,hb⟩;replace BK12:=bb BK12 hb;replace BK18:=bb BK18 hb;replace HB:=bq HB hb;(try clear hb);(try clear hb2);(try clear hk);(try clear hi)
     obtain rfl|rfl:=bt t48
     ·replace H:=itT H;replace H:=bo H;obtain ⟨t49,A25,H⟩:=H;have hnb26:=NB12_18.out;have hnc26:=NB18_12.out;have hcz27:=cf8 BK12;have hcz28:=cf8 BK18
      try go_wp2_with (fail)
      go_at_call 39;(with_reducible refine (laws_eqDiffS.calls k _ _ l0_6 _ _ l1_6 t49 _ (Kd.C_below HR0_6.out (bs HB)) HC0_6.out (Kd.C_below HR1_6.out (bs HB)) HC1_6.out A25.out).mono ?_);rintro e w29 ⟨rfl,hb⟩;replace BK12:=bb BK12 hb;replace BK18:=bb BK18 hb;replace HB:=bq HB hb;(try clear hb);(try clear hb2);(try clear hk);(try clear hi)
      obtain rfl|rfl:=bt t49
      ·replace H:=itT H;replace H:=bo H;obtain ⟨t50,A31,H⟩:=H;have hnb32:=NB12_18.out;have hnc32:=NB18_12.out;have hcz33:=cf8 BK12;have hcz34:=cf8 BK18
       try go_wp2_with (fail)
       go_at_call 40;(with_reducible refine (laws_eqOutS.calls k _ _ l0_7 _ _ l1_7 t50 _ (Kd.C_below HR0_7.out (bs HB)) HC0_7.out (Kd.C_below HR1_7.out (bs HB)) HC1_7.out A31.out).mono ?_);rintro e w35 ⟨rfl,hb⟩;replace BK12:=bb BK12 hb;replace BK18:=bb BK18 hb;replace HB:=bq HB hb;(try clear hb);(try clear hb2);(try clear hk);(try clear hi)
       obtain rfl|rfl:=bt t50
       ·replace H:=itT H;obtain rfl:=si H
        go_wp2
        go_ret
        exact ⟨ff,bs HB⟩
       ·replace H:=itF H;obtain rfl:=si H
        go_wp2
        go_ret
        exact ⟨ff,bs HB⟩
      ·replace H:=itF H;obtain rfl:=si H
       go_wp2
       go_ret
       exact ⟨ff,bs HB⟩
     ·replace H:=itF H;obtain rfl:=si H
      go_wp2
      go_ret
      exact ⟨ff,bs HB⟩
    ·replace H:=itF H;obtain rfl:=si H
     go_wp2
     go_ret
     exact ⟨ff,bs HB⟩
   ·replace H:=itF H;obtain rfl:=si H
    go_wp2
    go_ret
    exact ⟨ff,bs HB⟩
  ·intro c4 c4b0 c4b1 H;obtain rfl:=si H
   go_in
   go_wp2_with (first|((with_reducible refine gate_dst (N:=2) rfl ?_);refine bz 2 (cs:=#[.string a0_0,.int .i64 a0_1,.slice A0_2 l0_2.length c0_2,.slice A0_3 l0_3.length c0_3,.slice A0_4 l0_4.length c0_4,.slice A0_5 l0_5.length c0_5,.slice A0_6 l0_6.length c0_6,.slice A0_7 l0_7.length c0_7]) (t:=47) HB ?_;clear HB;intro gb12 hg w37 BK12 GW12 hb HB;clear hb hg)|((with_reducible refine gate_dst (N:=3) rfl ?_);refine bz 3 (cs:=#[.string a1_0,.int .i64 a1_1,.slice A1_2 l1_2.length c1_2,.slice A1_3 l1_3.length c1_3,.slice A1_4 l1_4.length c1_4,.slice A1_5 l1_5.length c1_5,.slice A1_6 l1_6.length c1_6,.slice A1_7 l1_7.length c1_7]) (t:=47) HB ?_;clear HB;intro gb18 hg w38 BK18 GW18 hb HB;have NB12_18:=na hg BK12;have NB18_12:=nc hg BK12;replace BK12:=bb BK12 hb;clear hb hg;have hnb39:=NB12_18.out;have hnc39:=NB18_12.out;have hcz40:=cf8 BK12;have hcz41:=cf8 BK18))
   go_ret
   exact ⟨ff,bs HB⟩
 ·intro c3 c3b0 c3b1 H;obtain rfl:=si H
  go_in
  go_wp2_with (first|((with_reducible refine gate_dst (N:=2) rfl ?_);refine bz 2 (cs:=#[.string a0_0,.int .i64 a0_1,.slice A0_2 l0_2.length c0_2,.slice A0_3 l0_3.length c0_3,.slice A0_4 l0_4.length c0_4,.slice A0_5 l0_5.length c0_5,.slice A0_6 l0_6.length c0_6,.slice A0_7 l0_7.length c0_7]) (t:=47) HB ?_;clear HB;intro gb12 hg w42 BK12 GW12 hb HB;clear hb hg)|((with_reducible refine gate_dst (N:=3) rfl ?_);refine bz 3 (cs:=#[.string a1_0,.int .i64 a1_1,.slice A1_2 l1_2.length c1_2,.slice A1_3 l1_3.length c1_3,.slice A1_4 l1_4.length c1_4,.slice A1_5 l1_5.length c1_5,.slice A1_6 l1_6.length c1_6,.slice A1_7 l1_7.length c1_7]) (t:=47) HB ?_;clear HB;intro gb18 hg w43 BK18 GW18 hb HB;have NB12_18:=na hg BK12;have NB18_12:=nc hg BK12;replace BK12:=bb BK12 hb;clear hb hg;have hnb44:=NB12_18.out;have hnc44:=NB18_12.out;have hcz45:=cf8 BK12;have hcz46:=cf8 BK18))
  go_ret
  exact ⟨ff,bs HB⟩
end Go.Proofs.YtkfcahggnpecjaaGreatDoor.QW
