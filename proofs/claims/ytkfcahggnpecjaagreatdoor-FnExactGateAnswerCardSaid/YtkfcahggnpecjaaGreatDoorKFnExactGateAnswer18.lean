-- Merged by a program of this session (wip/tool/pack.py) out of its own texts for this claim.
import Derived.Test.YtkfcahggnpecjaaGreatDoorKFnExactGateAnswer17
set_option maxHeartbeats 8000000
set_option maxRecDepth 100000
set_option linter.unusedSimpArgs false
set_option linter.unusedVariables false
namespace Go.Proofs.YtkfcahggnpecjaaGreatDoor.QW
open Go.RowKit Go.Proofs.YtkfcahggnpecjaaGreatDoorW.PrintWords Go.Proofs.YtkfcahggnpecjaaGreatDoorW.PrintLast Go.Proofs.YtkfcahggnpecjaaGreatDoorW.PrintMore
attribute [local go_sem] max2_int min2_int max_two min_two max_three min_three max_four min_four   -- for this text's walks alone
theorem laws_eqPaper.calls (k:Nat) (a0_0:Int) (a0_1:ByteArray) (a0_2:ByteArray) (a0_3:Int) (A0_4:Option Addr) (c0_4:Nat) (l0_4:List ByteArray) (A0_5:Option Addr) (c0_5:Nat) (l0_5:List (S64)) (a1_0:Int) (a1_1:ByteArray) (a1_2:ByteArray) (a1_3:Int) (A1_4:Option Addr) (c1_4:Nat) (l1_4:List ByteArray) (A1_5:Option Addr) (c1_5:Nat) (l1_5:List (S64)) (r:Bool) (w:World) (hr0_4:Kd.C Kd.string w A0_4 l0_4.length l0_4) (hc0_4:l0_4.length≤c0_4) (hr0_5:Kd.C k64 w A0_5 l0_5.length l0_5) (hc0_5:l0_5.length≤c0_5) (hr1_4:Kd.C Kd.string w A1_4 l1_4.length l1_4) (hc1_4:l1_4.length≤c1_4) (hr1_5:Kd.C k64 w A1_5 l1_5.length l1_5) (hc1_5:l1_5.length≤c1_5) (H:laws_eqPaper.f k a0_0 a0_1 a0_2 a0_3 l0_4 l0_5 a1_0 a1_1 a1_2 a1_3 l1_4 l1_5=some r) :
  Calls Tryz.prog 8 #[.agg #[.int .i64 a0_0,.string a0_1,.string a0_2,.int .i64 a0_3,.slice A0_4 l0_4.length c0_4,.slice A0_5 l0_5.length c0_5],.agg #[.int .i64 a1_0,.string a1_1,.string a1_2,.int .i64 a1_3,.slice A1_4 l1_4.length c1_4,.slice A1_5 l1_5.length c1_5]] w fun e w'=>e=.returned (.bool r)∧Below w.heap.size w w':=by
 have hu36:=Tryz.underlying36;have HR0_4:=am hr0_4;have HC0_4:=am hc0_4;clear hr0_4 hc0_4;have HR0_5:=am hr0_5;have HC0_5:=am hc0_5;clear hr0_5 hc0_5;have HR1_4:=am hr1_4;have HC1_4:=am hc1_4;clear hr1_4 hc1_4;have HR1_5:=am hr1_5;have HC1_5:=am hc1_5;clear hr1_5 hc1_5;have HB:=am (Below.refl w.heap.size w);unfold laws_eqPaper.f at H
 revert H;refine ie2 ?_ ?_
 ·intro c3b0 c3b1 H
  revert H;refine ie2 ?_ ?_
  ·intro c4b0 c4b1 H
   revert H;refine ie2 ?_ ?_
   ·intro c5b0 c5b1 H
    revert H;refine ie2 ?_ ?_
    ·intro c6b0 c6b1 H;replace H:=bo H;obtain ⟨t40,A7,H⟩:=H
     go_in
     try go_wp2_with (first|((with_reducible refine gate_dst (N:=2) rfl ?_);refine bz 2 (cs:=#[.int .i64 a0_0,.string a0_1,.string a0_2,.int .i64 a0_3,.slice A0_4 l0_4.length c0_4,.slice A0_5 l0_5.length c0_5]) (t:=36) HB ?_;clear HB;intro gb13 hg w8 BK13 GW13 hb HB;clear hb hg)|((with_reducible refine gate_dst (N:=3) rfl ?_);refine bz 3 (cs:=#[.int .i64 a1_0,.string a1_1,.string a1_2,.int .i64 a1_3,.slice A1_4 l1_4.length c1_4,.slice A1_5 l1_5.length c1_5]) (t:=36) HB ?_;clear HB;intro gb19 hg w9 BK19 GW19 hb HB;have NB13_19:=na hg BK13;have NB19_13:=nc hg BK13;replace BK13:=bb BK13 hb;clear hb hg;have hnb10:=NB13_19.out;have hnc10:=NB19_13.out;have hcz11:=cf6 BK13;have hcz12:=cf6 BK19))
     go_at_call 34;(with_reducible refine (laws_eqStringS.calls k _ _ l0_4 _ _ l1_4 t40 _ (Kd.C_below HR0_4.out (bs HB)) HC0_4.out (Kd.C_below HR1_4.out (bs HB)) HC1_4.out A7.out).mono ?_);rintro e w' ⟨rfl,⟨nd,rfl⟩⟩
     obtain rfl|rfl:=bt t40
     ·replace H:=itT H;replace H:=bo H;obtain ⟨t41,A14,H⟩:=H;have hnb15:=NB13_19.out;have hnc15:=NB19_13.out;have hcz16:=cf6 BK13;have hcz17:=cf6 BK19
      try go_wp2_with (fail)
      go_at_call 35;(with_reducible refine (laws_eqLineS.calls k _ _ l0_5 _ _ l1_5 t41 _ ?side1 HC0_5.out ?side3 HC1_5.out A14.out).mono ?_);(case side1=>repeat (first|exact (Kd.C_below HR0_5.out (bs HB))|(with_reducible refine Kd.C_alloc ?_ _)|(with_reducible refine Kd.C_drewN ?_ _)|(with_reducible refine Kd.C_drew ?_)));(case side3=>repeat (first|exact (Kd.C_below HR1_5.out (bs HB))|(with_reducible refine Kd.C_alloc ?_ _)|(with_reducible refine Kd.C_drewN ?_ _)|(with_reducible refine Kd.C_drew ?_)));rintro e w18 ⟨rfl,hb⟩;replace BK13:=bb BK13 hb;replace BK19:=bb BK19 hb;replace HB:=bq HB hb;(try clear hb);(try clear hb2);(try clear hk);(try clear hi)
      obtain rfl|rfl:=bt t41
      ·replace H:=itT H;obtain rfl:=si H
       go_wp2
       go_ret
       exact ⟨ff,bs HB⟩
      ·replace H:=itF H;obtain rfl:=si H
       go_wp2
       go_ret
       exact ⟨ff,bs HB⟩
     ·replace H:=itF H;obtain rfl:=si H
      go_wp2
      go_ret
      exact ⟨ff,bs HB⟩
    ·intro c6 c6b0 c6b1 H;obtain rfl:=si H
     go_in
     go_wp2_with (first|((with_reducible refine gate_dst (N:=2) rfl ?_);refine bz 2 (cs:=#[.int .i64 a0_0,.string a0_1,.string a0_2,.int .i64 a0_3,.slice A0_4 l0_4.length c0_4,.slice A0_5 l0_5.length c0_5]) (t:=36) HB ?_;clear HB;intro gb13 hg w20 BK13 GW13 hb HB;clear hb hg)|((with_reducible refine gate_dst (N:=3) rfl ?_);refine bz 3 (cs:=#[.int .i64 a1_0,.string a1_1,.string a1_2,.int .i64 a1_3,.slice A1_4 l1_4.length c1_4,.slice A1_5 l1_5.length c1_5]) (t:=36) HB ?_;clear HB;intro gb19 hg w21 BK19 GW19 hb HB;have NB13_19:=na hg BK13;have NB19_13:=nc hg BK13;replace BK13:=bb BK13 hb;clear hb hg;have hnb22:=NB13_19.out;have hnc22:=NB19_13.out;have hcz23:=cf6 BK13;have hcz24:=cf6 BK19))
     go_ret
     exact ⟨ff,bs HB⟩
   ·intro c5 c5b0 c5b1 H;obtain rfl:=si H
    go_in
    go_wp2_with (first|((with_reducible refine gate_dst (N:=2) rfl ?_);refine bz 2 (cs:=#[.int .i64 a0_0,.string a0_1,.string a0_2,.int .i64 a0_3,.slice A0_4 l0_4.length c0_4,.slice A0_5 l0_5.length c0_5]) (t:=36) HB ?_;clear HB;intro gb13 hg w25 BK13 GW13 hb HB;clear hb hg)|((with_reducible refine gate_dst (N:=3) rfl ?_);refine bz 3 (cs:=#[.int .i64 a1_0,.string a1_1,.string a1_2,.int .i64 a1_3,.slice A1_4 l1_4.length c1_4,.slice A1_5 l1_5.length c1_5]) (t:=36) HB ?_;clear HB;intro gb19 hg w26 BK19 GW19 hb HB;have NB13_19:=na hg BK13;have NB19_13:=nc hg BK13;replace BK13:=bb BK13 hb;clear hb hg;have hnb27:=NB13_19.out;have hnc27:=NB19_13.out;have hcz28:=cf6 BK13;have hcz29:=cf6 BK19))
    go_ret
    exact ⟨ff,bs HB⟩
  ·intro c4 c4b0 c4b1 H;obtain rfl:=si H
   go_in
   go_wp2_with (first|((with_reducible refine gate_dst (N:=2) rfl ?_);refine bz 2 (cs:=#[.int .i64 a0_0,.string a0_1,.string a0_2,.int .i64 a0_3,.slice A0_4 l0_4.length c0_4,.slice A0_5 l0_5.length c0_5]) (t:=36) HB ?_;clear HB;intro gb13 hg w30 BK13 GW13 hb HB;clear hb hg)|((with_reducible refine gate_dst (N:=3) rfl ?_);refine bz 3 (cs:=#[.int .i64 a1_0,.string a1_1,.string a1_2,.int .i64 a1_3,.slice A1_4 l1_4.length c1_4,.slice A1_5 l1_5.length c1_5]) (t:=36) HB ?_;clear HB;intro gb19 hg w31 BK19 GW19 hb HB;have NB13_19:=na hg BK13;have NB19_13:=nc hg BK13;replace BK13:=bb BK13 hb;clear hb hg;have hnb32:=NB13_19.out;have hnc32:=NB19_13.out;have hcz33:=cf6 BK13;have hcz34:=cf6 BK19))
   go_ret
   exact ⟨ff,bs HB⟩
 ·intro c3 c3b0 c3b1 H;obtain rfl:=si H
  go_in
  go_wp2_with (first|((with_reducible refine gate_dst (N:=2) rfl ?_);refine bz 2 (cs:=#[.int .i64 a0_0,.string a0_1,.string a0_2,.int .i64 a0_3,.slice A0_4 l0_4.length c0_4,.slice A0_5 l0_5.length c0_5]) (t:=36) HB ?_;clear HB;intro gb13 hg w35 BK13 GW13 hb HB;clear hb hg)|((with_reducible refine gate_dst (N:=3) rfl ?_);refine bz 3 (cs:=#[.int .i64 a1_0,.string a1_1,.string a1_2,.int .i64 a1_3,.slice A1_4 l1_4.length c1_4,.slice A1_5 l1_5.length c1_5]) (t:=36) HB ?_;clear HB;intro gb19 hg w36 BK19 GW19 hb HB;have NB13_19:=na hg BK13;have NB19_13:=nc hg BK13;replace BK13:=bb BK13 hb;clear hb hg;have hnb37:=NB13_19.out;have hnc37:=NB19_13.out;have hcz38:=cf6 BK13;have hcz39:=cf6 BK19))
  go_ret
  exact ⟨ff,bs HB⟩
theorem laws_eqSeen.calls (a0_0:Int) (a0_1:Int) (a0_2:Int) (a1_0:Int) (a1_1:Int) (a1_2:Int) (r:Bool) (w:World) (H:laws_eqSeen.f a0_0 a0_1 a0_2 a1_0 a1_1 a1_2=some r) :
  Calls Tryz.prog 119 #[.agg #[.int .i64 a0_0,.int .i64 a0_1,.int .i64 a0_2],.agg #[.int .i64 a1_0,.int .i64 a1_1,.int .i64 a1_2]] w fun e w'=>e=.returned (.bool r)∧Below w.heap.size w w':=by
 have hu144:=Tryz.underlying144;have HB:=am (Below.refl w.heap.size w);unfold laws_eqSeen.f at H
 revert H;refine ie2 ?_ ?_
 ·intro c3b0 c3b1 H
  revert H;refine ie2 ?_ ?_
  ·intro c4b0 c4b1 H
   revert H;refine ie2 ?_ ?_
   ·intro c5b0 c5b1 H;obtain rfl:=si H
    go_in
    go_wp2_with (first|((with_reducible refine gate_dst (N:=2) rfl ?_);refine bz 2 (cs:=#[.int .i64 a0_0,.int .i64 a0_1,.int .i64 a0_2]) (t:=144) HB ?_;clear HB;intro gb26 hg w6 BK26 GW26 hb HB;clear hb hg)|((with_reducible refine gate_dst (N:=3) rfl ?_);refine bz 3 (cs:=#[.int .i64 a1_0,.int .i64 a1_1,.int .i64 a1_2]) (t:=144) HB ?_;clear HB;intro gb27 hg w7 BK27 GW27 hb HB;have NB26_27:=na hg BK26;have NB27_26:=nc hg BK26;replace BK26:=bb BK26 hb;clear hb hg;have hnb8:=NB26_27.out;have hnc8:=NB27_26.out;have hcz9:=cf3 BK26;have hcz10:=cf3 BK27))
    go_ret
    exact ⟨ff,bs HB⟩
   ·intro c5 c5b0 c5b1 H;obtain rfl:=si H
    go_in
    go_wp2_with (first|((with_reducible refine gate_dst (N:=2) rfl ?_);refine bz 2 (cs:=#[.int .i64 a0_0,.int .i64 a0_1,.int .i64 a0_2]) (t:=144) HB ?_;clear HB;intro gb26 hg w11 BK26 GW26 hb HB;clear hb hg)|((with_reducible refine gate_dst (N:=3) rfl ?_);refine bz 3 (cs:=#[.int .i64 a1_0,.int .i64 a1_1,.int .i64 a1_2]) (t:=144) HB ?_;clear HB;intro gb27 hg w12 BK27 GW27 hb HB;have NB26_27:=na hg BK26;have NB27_26:=nc hg BK26;replace BK26:=bb BK26 hb;clear hb hg;have hnb13:=NB26_27.out;have hnc13:=NB27_26.out;have hcz14:=cf3 BK26;have hcz15:=cf3 BK27))
    go_ret
    exact ⟨ff,bs HB⟩
  ·intro c4 c4b0 c4b1 H;obtain rfl:=si H
   go_in
   go_wp2_with (first|((with_reducible refine gate_dst (N:=2) rfl ?_);refine bz 2 (cs:=#[.int .i64 a0_0,.int .i64 a0_1,.int .i64 a0_2]) (t:=144) HB ?_;clear HB;intro gb26 hg w16 BK26 GW26 hb HB;clear hb hg)|((with_reducible refine gate_dst (N:=3) rfl ?_);refine bz 3 (cs:=#[.int .i64 a1_0,.int .i64 a1_1,.int .i64 a1_2]) (t:=144) HB ?_;clear HB;intro gb27 hg w17 BK27 GW27 hb HB;have NB26_27:=na hg BK26;have NB27_26:=nc hg BK26;replace BK26:=bb BK26 hb;clear hb hg;have hnb18:=NB26_27.out;have hnc18:=NB27_26.out;have hcz19:=cf3 BK26;have hcz20:=cf3 BK27))
   go_ret
   exact ⟨ff,bs HB⟩
 ·intro c3 c3b0 c3b1 H;obtain rfl:=si H
  go_in
  go_wp2_with (first|((with_reducible refine gate_dst (N:=2) rfl ?_);refine bz 2 (cs:=#[.int .i64 a0_0,.int .i64 a0_1,.int .i64 a0_2]) (t:=144) HB ?_;clear HB;intro gb26 hg w21 BK26 GW26 hb HB;clear hb hg)|((with_reducible refine gate_dst (N:=3) rfl ?_);refine bz 3 (cs:=#[.int .i64 a1_0,.int .i64 a1_1,.int .i64 a1_2]) (t:=144) HB ?_;clear HB;intro gb27 hg w22 BK27 GW27 hb HB;have NB26_27:=na hg BK26;have NB27_26:=nc hg BK26;replace BK26:=bb BK26 hb;clear hb hg;have hnb23:=NB26_27.out;have hnc23:=NB27_26.out;have hcz24:=cf3 BK26;have hcz25:=cf3 BK27))
  go_ret
  exact ⟨ff,bs HB⟩
def laws_eqSeenS.T6:Bool × List (List Nat × List Nat):=(true,[([],[]),([],[]),([0,1],[0,1]),([2],[2]),([],[]),([],[]),([4,5],[4,5]),([6],[6]),([3,7],[3,7]),([8],[8])])
def laws_eqSeenS.B6:List Nat:=[0,0,3,7,0,0,48,112,255,511]
theorem laws_eqSeenS.tab6:rtab .any (opsOf Tryz.f106 6)=laws_eqSeenS.T6:=by kernel_rfl
theorem laws_eqSeenS.bits6:waitsOk laws_eqSeenS.T6.2 laws_eqSeenS.B6=true:=by kernel_rfl
theorem laws_eqSeenS.calls (k:Nat) (A0:Option Addr) (c0:Nat) (l0:List (S144)) (A1:Option Addr) (c1:Nat) (l1:List (S144)) (r:Bool) (w:World) (hr0:Kd.C k144 w A0 l0.length l0) (hc0:l0.length≤c0) (hr1:Kd.C k144 w A1 l1.length l1) (hc1:l1.length≤c1) (H:laws_eqSeenS.f k l0 l1=some r) :
  Calls Tryz.prog 106 #[.slice A0 l0.length c0,.slice A1 l1.length c1] w fun e w'=>e=.returned (.bool r)∧Below w.heap.size w w':=by
 have hu144:=Tryz.underlying144;have HR0:=am hr0;have HC0:=am hc0;clear hr0 hc0;have HR1:=am hr1;have HC1:=am hc1;clear hr1 hc1;have HB:=am (Below.refl w.heap.size w);unfold laws_eqSeenS.f at H
 revert H;refine ie2k ?_ ?_
 ·intro c3 c3b0 c3b1 H
  have c3b2:(l0.length == l1.length)=true:=by first|simpa using c3|(simp at c3 ⊢;omega)
  clear c3;have H':=am H;clear H
  go_in
  go_wp2
  go_loopg [5] k (fun kq v5 w'=>∃ (x5_1:Int),v5=.int .i64 x5_1∧Aside0 (laws_eqSeenS.l0 kq l0 l1 x5_1=some r)∧Aside0 (kq≤k)∧Aside0 (Below w.heap.size w w'))
  case atStart=>exact ⟨(0),fg,H',⟨Nat.le_refl _⟩,⟨bs HB⟩⟩
  case round =>
   clear H'
   try clear c1
   try clear c3
   try clear c3b0
   try clear c3b1
   try clear c3b2
   obtain ⟨x5_1,rfl,HA,HK1,HB⟩:=hrel
   cases gk with
   | zero=>exact absurd HA.out (by simp [laws_eqSeenS.l0])
   | succ k1 =>
    have H:=HA.out;clear HA;simp only [laws_eqSeenS.l0] at H
    revert H;refine id2 ?_ ?_
    ·intro c4b0 H
     revert H;refine id1 ?_
     intro c5b0 H
     revert H;refine id1 ?_
     intro c6b0 H;replace H:=bo H;obtain ⟨t15,A7,H⟩:=H
     obtain rfl|rfl:=bt t15
     ·replace H:=itT H;have H':=am H;clear H
      try go_wp2
      replace HB:=am (below_drew1 HB.out);have p13:0≤(x5_1:Int):=oa;have q13:x5_1<(l0.length:Int):=oa;obtain ⟨ad13,e13,hx13_0,hx13_1,hx13_2⟩:=at_T144 HR0.out x5_1 p13 q13;have hw13_2:=hx13_2;have hw13_1:=hx13_1;have hw13_0:=hx13_0
      cases e13
      replace hx13_0:=cb HB hx13_0;replace hx13_1:=cb HB hx13_1;replace hx13_2:=cb HB hx13_2;replace p13:=eq_true p13;replace q13:=eq_true q13;have p14:0≤(x5_1:Int):=oa;have q14:x5_1<(l1.length:Int):=oa;obtain ⟨ad14,e14,hx14_0,hx14_1,hx14_2⟩:=at_T144 HR1.out x5_1 p14 q14;have hw14_2:=hx14_2;have hw14_1:=hx14_1;have hw14_0:=hx14_0
      cases e14
      replace hx14_0:=cb HB hx14_0;replace hx14_1:=cb HB hx14_1;replace hx14_2:=cb HB hx14_2;replace p14:=eq_true p14;replace q14:=eq_true q14;refine sta 10 (hca (cb HB hw13_0) (hca (cb HB hw13_1) (hca (cb HB hw13_2) (hca (cb HB hw14_0) (hca (cb HB hw14_1) (hc (cb HB hw14_2))))))) (fun hHeld=>?_);refine with_tabW laws_eqSeenS.tab6 laws_eqSeenS.bits6 (fun HT_ HW_=>?_)
      generalize wr.drew=w9 at HB hx13_0 hx13_1 hx13_2 hx14_0 hx14_1 hx14_2 hHeld ⊢
      refine pA 0 17 HT_ ?_;refine pA 1 18 HT_ ?_;refine pA 2 19 HT_ ?_;refine pA 4 21 HT_ ?_;refine pA 5 22 HT_ ?_;refine pA 6 23 HT_ ?_;refine tA 3 20 HT_ HW_ hHeld ?_;refine tA 7 24 HT_ HW_ hHeld ?_;refine oA 8 25 HT_ (fun K hK=>?_);refine gA Tryz.func119 #[.agg #[.int .i64 ((rd_T144 l0 x5_1).f0),.int .i64 ((rd_T144 l0 x5_1).f1),.int .i64 ((rd_T144 l0 x5_1).f2)],.agg #[.int .i64 ((rd_T144 l1 x5_1).f0),.int .i64 ((rd_T144 l1 x5_1).f1),.int .i64 ((rd_T144 l1 x5_1).f2)]] ?_;(with_reducible refine (laws_eqSeen.calls ((rd_T144 l0 x5_1).f0) ((rd_T144 l0 x5_1).f1) ((rd_T144 l0 x5_1).f2) ((rd_T144 l1 x5_1).f0) ((rd_T144 l1 x5_1).f1) ((rd_T144 l1 x5_1).f2) true _ A7.out).mono ?_);rintro e w10 ⟨rfl,hb⟩;refine ⟨_,rfl,?_⟩;replace HB:=bq HB hb;(try clear hb);(try clear hb2);(try clear hk);(try clear hi);refine hK.out _ _ (hca (cb HB hw13_0) (hca (cb HB hw13_1) (hca (cb HB hw13_2) (hca (cb HB hw14_0) (hca (cb HB hw14_1) (hc (cb HB hw14_2))))))).out (fun hHeld=>?_);clear hK K;refine nA 25 ?_;refine pA 9 26 HT_ ?_;refine done_ (done_of HT_.out (by kernel_rfl)) ?_
      try go_wp2
      go_roundg k1
      case measure=>have:=HK1.out;omega
      case rel=>exact ⟨(wrap64 (x5_1+1)),fg,H',⟨by have:=HK1.out;omega⟩,⟨bs HB⟩⟩
     ·replace H:=itF H;obtain rfl:=si H
      try go_wp2
      replace HB:=am (below_drew1 HB.out);have p13:0≤(x5_1:Int):=oa;have q13:x5_1<(l0.length:Int):=oa;obtain ⟨ad13,e13,hx13_0,hx13_1,hx13_2⟩:=at_T144 HR0.out x5_1 p13 q13;have hw13_2:=hx13_2;have hw13_1:=hx13_1;have hw13_0:=hx13_0
      cases e13
      replace hx13_0:=cb HB hx13_0;replace hx13_1:=cb HB hx13_1;replace hx13_2:=cb HB hx13_2;replace p13:=eq_true p13;replace q13:=eq_true q13;have p14:0≤(x5_1:Int):=oa;have q14:x5_1<(l1.length:Int):=oa;obtain ⟨ad14,e14,hx14_0,hx14_1,hx14_2⟩:=at_T144 HR1.out x5_1 p14 q14;have hw14_2:=hx14_2;have hw14_1:=hx14_1;have hw14_0:=hx14_0
      cases e14
      replace hx14_0:=cb HB hx14_0;replace hx14_1:=cb HB hx14_1;replace hx14_2:=cb HB hx14_2;replace p14:=eq_true p14;replace q14:=eq_true q14;refine sta 10 (hca (cb HB hw13_0) (hca (cb HB hw13_1) (hca (cb HB hw13_2) (hca (cb HB hw14_0) (hca (cb HB hw14_1) (hc (cb HB hw14_2))))))) (fun hHeld=>?_);refine with_tabW laws_eqSeenS.tab6 laws_eqSeenS.bits6 (fun HT_ HW_=>?_)
      generalize wr.drew=w11 at HB hx13_0 hx13_1 hx13_2 hx14_0 hx14_1 hx14_2 hHeld ⊢
      refine pA 0 17 HT_ ?_;refine pA 1 18 HT_ ?_;refine pA 2 19 HT_ ?_;refine pA 4 21 HT_ ?_;refine pA 5 22 HT_ ?_;refine pA 6 23 HT_ ?_;refine tA 3 20 HT_ HW_ hHeld ?_;refine tA 7 24 HT_ HW_ hHeld ?_;refine oA 8 25 HT_ (fun K hK=>?_);refine gA Tryz.func119 #[.agg #[.int .i64 ((rd_T144 l0 x5_1).f0),.int .i64 ((rd_T144 l0 x5_1).f1),.int .i64 ((rd_T144 l0 x5_1).f2)],.agg #[.int .i64 ((rd_T144 l1 x5_1).f0),.int .i64 ((rd_T144 l1 x5_1).f1),.int .i64 ((rd_T144 l1 x5_1).f2)]] ?_;(with_reducible refine (laws_eqSeen.calls ((rd_T144 l0 x5_1).f0) ((rd_T144 l0 x5_1).f1) ((rd_T144 l0 x5_1).f2) ((rd_T144 l1 x5_1).f0) ((rd_T144 l1 x5_1).f1) ((rd_T144 l1 x5_1).f2) false _ A7.out).mono ?_);rintro e w12 ⟨rfl,hb⟩;refine ⟨_,rfl,?_⟩;replace HB:=bq HB hb;(try clear hb);(try clear hb2);(try clear hk);(try clear hi);refine hK.out _ _ (hca (cb HB hw13_0) (hca (cb HB hw13_1) (hca (cb HB hw13_2) (hca (cb HB hw14_0) (hca (cb HB hw14_1) (hc (cb HB hw14_2))))))).out (fun hHeld=>?_);clear hK K;refine nA 25 ?_;refine pA 9 26 HT_ ?_;refine done_ (done_of HT_.out (by kernel_rfl)) ?_
      try go_wp2
      go_ret
      exact ⟨ff,bs HB⟩
    ·intro c4b0 H;obtain rfl:=si H
     go_wp2
     go_ret
     exact ⟨ff,bs HB⟩
 ·intro c3 c3b0 c3b1 H
  have c3b2:(l0.length == l1.length)=false:=by first|simpa using c3|(simp at c3 ⊢;omega)
  obtain rfl:=si H
  go_in
  go_wp2
  go_ret
  exact ⟨ff,bs HB⟩
theorem laws_eqPartner.calls (k:Nat) (a0_0:ByteArray) (a0_1:Int) (a0_2:Int) (A0_3:Option Addr) (c0_3:Nat) (l0_3:List (S144)) (a1_0:ByteArray) (a1_1:Int) (a1_2:Int) (A1_3:Option Addr) (c1_3:Nat) (l1_3:List (S144)) (r:Bool) (w:World) (hr0_3:Kd.C k144 w A0_3 l0_3.length l0_3) (hc0_3:l0_3.length≤c0_3) (hr1_3:Kd.C k144 w A1_3 l1_3.length l1_3) (hc1_3:l1_3.length≤c1_3) (H:laws_eqPartner.f k a0_0 a0_1 a0_2 l0_3 a1_0 a1_1 a1_2 l1_3=some r) :
  Calls Tryz.prog 78 #[.agg #[.string a0_0,.int .i64 a0_1,.int .i64 a0_2,.slice A0_3 l0_3.length c0_3],.agg #[.string a1_0,.int .i64 a1_1,.int .i64 a1_2,.slice A1_3 l1_3.length c1_3]] w fun e w'=>e=.returned (.bool r)∧Below w.heap.size w w':=by
 have hu108:=Tryz.underlying108;have HR0_3:=am hr0_3;have HC0_3:=am hc0_3;clear hr0_3 hc0_3;have HR1_3:=am hr1_3;have HC1_3:=am hc1_3;clear hr1_3 hc1_3;have HB:=am (Below.refl w.heap.size w);unfold laws_eqPartner.f at H
 revert H;refine ie2 ?_ ?_
 ·intro c3b0 c3b1 H
  revert H;refine ie2 ?_ ?_
  ·intro c4b0 c4b1 H
   revert H;refine ie2 ?_ ?_
   ·intro c5b0 c5b1 H;replace H:=bo H;obtain ⟨t30,A6,H⟩:=H
    go_in
    try go_wp2_with (first|((with_reducible refine gate_dst (N:=2) rfl ?_);refine bz 2 (cs:=#[.string a0_0,.int .i64 a0_1,.int .i64 a0_2,.slice A0_3 l0_3.length c0_3]) (t:=108) HB ?_;clear HB;intro gb13 hg w7 BK13 GW13 hb HB;clear hb hg)|((with_reducible refine gate_dst (N:=3) rfl ?_);refine bz 3 (cs:=#[.string a1_0,.int .i64 a1_1,.int .i64 a1_2,.slice A1_3 l1_3.length c1_3]) (t:=108) HB ?_;clear HB;intro gb29 hg w8 BK29 GW29 hb HB;have NB13_29:=na hg BK13;have NB29_13:=nc hg BK13;replace BK13:=bb BK13 hb;clear hb hg;have hnb9:=NB13_29.out;have hnc9:=NB29_13.out;have hcz10:=cf4 BK13;have hcz11:=cf4 BK29))
    go_at_call 106;(with_reducible refine (laws_eqSeenS.calls k _ _ l0_3 _ _ l1_3 t30 _ (Kd.C_below HR0_3.out (bs HB)) HC0_3.out (Kd.C_below HR1_3.out (bs HB)) HC1_3.out A6.out).mono ?_);rintro e w12 ⟨rfl,hb⟩;replace BK13:=bb BK13 hb;replace BK29:=bb BK29 hb;replace HB:=bq HB hb;(try clear hb);(try clear hb2);(try clear hk);(try clear hi)
    obtain rfl|rfl:=bt t30
    ·replace H:=itT H;obtain rfl:=si H
     go_wp2
     go_ret
     exact ⟨ff,bs HB⟩
    ·replace H:=itF H;obtain rfl:=si H
     go_wp2
     go_ret
     exact ⟨ff,bs HB⟩
   ·intro c5 c5b0 c5b1 H;obtain rfl:=si H
    go_in
    go_wp2_with (first|((with_reducible refine gate_dst (N:=2) rfl ?_);refine bz 2 (cs:=#[.string a0_0,.int .i64 a0_1,.int .i64 a0_2,.slice A0_3 l0_3.length c0_3]) (t:=108) HB ?_;clear HB;intro gb13 hg w14 BK13 GW13 hb HB;clear hb hg)|((with_reducible refine gate_dst (N:=3) rfl ?_);refine bz 3 (cs:=#[.string a1_0,.int .i64 a1_1,.int .i64 a1_2,.slice A1_3 l1_3.length c1_3]) (t:=108) HB ?_;clear HB;intro gb29 hg w15 BK29 GW29 hb HB;have NB13_29:=na hg BK13;have NB29_13:=nc hg BK13;replace BK13:=bb BK13 hb;clear hb hg;have hnb16:=NB13_29.out;have hnc16:=NB29_13.out;have hcz17:=cf4 BK13;have hcz18:=cf4 BK29))
    go_ret
    exact ⟨ff,bs HB⟩
  ·intro c4 c4b0 c4b1 H;obtain rfl:=si H
   go_in
   go_wp2_with (first|((with_reducible refine gate_dst (N:=2) rfl ?_);refine bz 2 (cs:=#[.string a0_0,.int .i64 a0_1,.int .i64 a0_2,.slice A0_3 l0_3.length c0_3]) (t:=108) HB ?_;clear HB;intro gb13 hg w19 BK13 GW13 hb HB;clear hb hg)|((with_reducible refine gate_dst (N:=3) rfl ?_);refine bz 3 (cs:=#[.string a1_0,.int .i64 a1_1,.int .i64 a1_2,.slice A1_3 l1_3.length c1_3]) (t:=108) HB ?_;clear HB;intro gb29 hg w20 BK29 GW29 hb HB;have NB13_29:=na hg BK13;have NB29_13:=nc hg BK13;replace BK13:=bb BK13 hb;clear hb hg;have hnb21:=NB13_29.out;have hnc21:=NB29_13.out;have hcz22:=cf4 BK13;have hcz23:=cf4 BK29))
   go_ret
   exact ⟨ff,bs HB⟩
 ·intro c3 c3b0 c3b1 H;obtain rfl:=si H
  go_in
  go_wp2_with (first|((with_reducible refine gate_dst (N:=2) rfl ?_);refine bz 2 (cs:=#[.string a0_0,.int .i64 a0_1,.int .i64 a0_2,.slice A0_3 l0_3.length c0_3]) (t:=108) HB ?_;clear HB;intro gb13 hg w24 BK13 GW13 hb HB;clear hb hg)|((with_reducible refine gate_dst (N:=3) rfl ?_);refine bz 3 (cs:=#[.string a1_0,.int .i64 a1_1,.int .i64 a1_2,.slice A1_3 l1_3.length c1_3]) (t:=108) HB ?_;clear HB;intro gb29 hg w25 BK29 GW29 hb HB;have NB13_29:=na hg BK13;have NB29_13:=nc hg BK13;replace BK13:=bb BK13 hb;clear hb hg;have hnb26:=NB13_29.out;have hnc26:=NB29_13.out;have hcz27:=cf4 BK13;have hcz28:=cf4 BK29))
  go_ret
  exact ⟨ff,bs HB⟩
def laws_eqPartnerS.T6:Bool × List (List Nat × List Nat):=(true,[([],[]),([],[]),([0,1],[0,1]),([2],[2]),([],[]),([],[]),([4,5],[4,5]),([6],[6]),([3,7],[3,7]),([8],[8])])
def laws_eqPartnerS.B6:List Nat:=[0,0,3,7,0,0,48,112,255,511]
theorem laws_eqPartnerS.tab6:rtab .any (opsOf Tryz.f36 6)=laws_eqPartnerS.T6:=by kernel_rfl
theorem laws_eqPartnerS.bits6:waitsOk laws_eqPartnerS.T6.2 laws_eqPartnerS.B6=true:=by kernel_rfl
theorem laws_eqPartnerS.calls (k:Nat) (A0:Option Addr) (c0:Nat) (l0:List (S108)) (A1:Option Addr) (c1:Nat) (l1:List (S108)) (r:Bool) (w:World) (hr0:Kd.C k108 w A0 l0.length l0) (hc0:l0.length≤c0) (hr1:Kd.C k108 w A1 l1.length l1) (hc1:l1.length≤c1) (H:laws_eqPartnerS.f k l0 l1=some r) :
  Calls Tryz.prog 36 #[.slice A0 l0.length c0,.slice A1 l1.length c1] w fun e w'=>e=.returned (.bool r)∧Below w.heap.size w w':=by
 have hu108:=Tryz.underlying108;have HR0:=am hr0;have HC0:=am hc0;clear hr0 hc0;have HR1:=am hr1;have HC1:=am hc1;clear hr1 hc1;have HB:=am (Below.refl w.heap.size w);unfold laws_eqPartnerS.f at H
 revert H;refine ie2k ?_ ?_
 ·intro c3 c3b0 c3b1 H
  have c3b2:(l0.length == l1.length)=true:=by first|simpa using c3|(simp at c3 ⊢;omega)
  clear c3;have H':=am H;clear H
  go_in
  go_wp2
  go_loopg [5] k (fun kq v5 w'=>∃ (x5_1:Int),v5=.int .i64 x5_1∧Aside0 (laws_eqPartnerS.l0 kq l0 l1 x5_1=some r)∧Aside0 (kq≤k)∧Aside0 (Below w.heap.size w w'))
  case atStart=>exact ⟨(0),fg,H',⟨Nat.le_refl _⟩,⟨bs HB⟩⟩
  case round =>
   clear H'
   try clear c1
   try clear c3
   try clear c3b0
   try clear c3b1
   try clear c3b2
   obtain ⟨x5_1,rfl,HA,HK1,HB⟩:=hrel
   cases gk with
   | zero=>exact absurd HA.out (by simp [laws_eqPartnerS.l0])
   | succ k1 =>
    have H:=HA.out;clear HA;simp only [laws_eqPartnerS.l0] at H
    revert H;refine id2 ?_ ?_
    ·intro c4b0 H
     revert H;refine id1 ?_
     intro c5b0 H
     revert H;refine id1 ?_
     intro c6b0 H;replace H:=bo H;obtain ⟨t15,A7,H⟩:=H
     obtain rfl|rfl:=bt t15
     ·replace H:=itT H;have H':=am H;clear H
      try go_wp2
      replace HB:=am (below_drew1 HB.out);have p13:0≤(x5_1:Int):=oa;have q13:x5_1<(l0.length:Int):=oa;obtain ⟨ad13,A13_3,c13_3,e13,hx13_0,hx13_1,hx13_2,hx13_3,hl13_3,hi13_3⟩:=at_T108 HR0.out x5_1 p13 q13;have hw13_3:=hx13_3;have hw13_2:=hx13_2;have hw13_1:=hx13_1;have hw13_0:=hx13_0
      cases e13
      replace hx13_0:=cb HB hx13_0;replace hx13_1:=cb HB hx13_1;replace hx13_2:=cb HB hx13_2;replace hx13_3:=cb HB hx13_3;have HR13_3:=am hi13_3;have HC13_3:=am hl13_3;clear hi13_3 hl13_3;replace p13:=eq_true p13;replace q13:=eq_true q13;have p14:0≤(x5_1:Int):=oa;have q14:x5_1<(l1.length:Int):=oa;obtain ⟨ad14,A14_3,c14_3,e14,hx14_0,hx14_1,hx14_2,hx14_3,hl14_3,hi14_3⟩:=at_T108 HR1.out x5_1 p14 q14;have hw14_3:=hx14_3;have hw14_2:=hx14_2;have hw14_1:=hx14_1;have hw14_0:=hx14_0
      cases e14
      replace hx14_0:=cb HB hx14_0;replace hx14_1:=cb HB hx14_1;replace hx14_2:=cb HB hx14_2;replace hx14_3:=cb HB hx14_3;have HR14_3:=am hi14_3;have HC14_3:=am hl14_3;clear hi14_3 hl14_3;replace p14:=eq_true p14;replace q14:=eq_true q14;refine sta 10 (hca (cb HB hw13_0) (hca (cb HB hw13_1) (hca (cb HB hw13_2) (hca (cb HB hw13_3) (hca (cb HB hw14_0) (hca (cb HB hw14_1) (hca (cb HB hw14_2) (hc (cb HB hw14_3))))))))) (fun hHeld=>?_);refine with_tabW laws_eqPartnerS.tab6 laws_eqPartnerS.bits6 (fun HT_ HW_=>?_)
      generalize wr.drew=w9 at HB HR13_3 HR14_3 hx13_0 hx13_1 hx13_2 hx13_3 hx14_0 hx14_1 hx14_2 hx14_3 hHeld ⊢
      refine pA 0 17 HT_ ?_;refine pA 1 18 HT_ ?_;refine pA 2 19 HT_ ?_;refine pA 4 21 HT_ ?_;refine pA 5 22 HT_ ?_;refine pA 6 23 HT_ ?_;refine tA 3 20 HT_ HW_ hHeld ?_;refine tA 7 24 HT_ HW_ hHeld ?_;refine oA 8 25 HT_ (fun K hK=>?_);refine gA Tryz.func78 #[.agg #[.string ((rd_T108 l0 x5_1).f0),.int .i64 ((rd_T108 l0 x5_1).f1),.int .i64 ((rd_T108 l0 x5_1).f2),.slice A13_3 ((rd_T108 l0 x5_1).f3).length c13_3],.agg #[.string ((rd_T108 l1 x5_1).f0),.int .i64 ((rd_T108 l1 x5_1).f1),.int .i64 ((rd_T108 l1 x5_1).f2),.slice A14_3 ((rd_T108 l1 x5_1).f3).length c14_3]] ?_;(with_reducible refine (laws_eqPartner.calls k1 ((rd_T108 l0 x5_1).f0) ((rd_T108 l0 x5_1).f1) ((rd_T108 l0 x5_1).f2) _ _ ((rd_T108 l0 x5_1).f3) ((rd_T108 l1 x5_1).f0) ((rd_T108 l1 x5_1).f1) ((rd_T108 l1 x5_1).f2) _ _ ((rd_T108 l1 x5_1).f3) true _ ?side1 ?side2 ?side3 ?side4 A7.out).mono ?_)
      (case side1=>exact sd (Kd.C_below HR13_3.out HB.out))
      (case side2=>exact HC13_3.out)
      (case side3=>exact sd (Kd.C_below HR14_3.out HB.out))
      (case side4=>exact HC14_3.out)
      rintro e w10 ⟨rfl,hb⟩;refine ⟨_,rfl,?_⟩;replace HB:=bq HB hb;(try clear hb);(try clear hb2);(try clear hk);(try clear hi);refine hK.out _ _ (hca (cb HB hw13_0) (hca (cb HB hw13_1) (hca (cb HB hw13_2) (hca (cb HB hw13_3) (hca (cb HB hw14_0) (hca (cb HB hw14_1) (hca (cb HB hw14_2) (hc (cb HB hw14_3))))))))).out (fun hHeld=>?_);clear hK K;refine nA 25 ?_;refine pA 9 26 HT_ ?_;refine done_ (done_of HT_.out (by kernel_rfl)) ?_
      try go_wp2
      go_roundg k1
      case measure=>have:=HK1.out;omega
      case rel=>exact ⟨(wrap64 (x5_1+1)),fg,H',⟨by have:=HK1.out;omega⟩,⟨bs HB⟩⟩
     ·replace H:=itF H;obtain rfl:=si H
      try go_wp2
      replace HB:=am (below_drew1 HB.out);have p13:0≤(x5_1:Int):=oa;have q13:x5_1<(l0.length:Int):=oa;obtain ⟨ad13,A13_3,c13_3,e13,hx13_0,hx13_1,hx13_2,hx13_3,hl13_3,hi13_3⟩:=at_T108 HR0.out x5_1 p13 q13;have hw13_3:=hx13_3;have hw13_2:=hx13_2;have hw13_1:=hx13_1;have hw13_0:=hx13_0
      cases e13
      replace hx13_0:=cb HB hx13_0;replace hx13_1:=cb HB hx13_1;replace hx13_2:=cb HB hx13_2;replace hx13_3:=cb HB hx13_3;have HR13_3:=am hi13_3;have HC13_3:=am hl13_3;clear hi13_3 hl13_3;replace p13:=eq_true p13;replace q13:=eq_true q13;have p14:0≤(x5_1:Int):=oa;have q14:x5_1<(l1.length:Int):=oa;obtain ⟨ad14,A14_3,c14_3,e14,hx14_0,hx14_1,hx14_2,hx14_3,hl14_3,hi14_3⟩:=at_T108 HR1.out x5_1 p14 q14;have hw14_3:=hx14_3;have hw14_2:=hx14_2;have hw14_1:=hx14_1;have hw14_0:=hx14_0
      cases e14
      replace hx14_0:=cb HB hx14_0;replace hx14_1:=cb HB hx14_1;replace hx14_2:=cb HB hx14_2;replace hx14_3:=cb HB hx14_3;have HR14_3:=am hi14_3;have HC14_3:=am hl14_3;clear hi14_3 hl14_3;replace p14:=eq_true p14;replace q14:=eq_true q14;refine sta 10 (hca (cb HB hw13_0) (hca (cb HB hw13_1) (hca (cb HB hw13_2) (hca (cb HB hw13_3) (hca (cb HB hw14_0) (hca (cb HB hw14_1) (hca (cb HB hw14_2) (hc (cb HB hw14_3))))))))) (fun hHeld=>?_);refine with_tabW laws_eqPartnerS.tab6 laws_eqPartnerS.bits6 (fun HT_ HW_=>?_)
      generalize wr.drew=w11 at HB HR13_3 HR14_3 hx13_0 hx13_1 hx13_2 hx13_3 hx14_0 hx14_1 hx14_2 hx14_3 hHeld ⊢
      refine pA 0 17 HT_ ?_;refine pA 1 18 HT_ ?_;refine pA 2 19 HT_ ?_;refine pA 4 21 HT_ ?_;refine pA 5 22 HT_ ?_;refine pA 6 23 HT_ ?_;refine tA 3 20 HT_ HW_ hHeld ?_;refine tA 7 24 HT_ HW_ hHeld ?_;refine oA 8 25 HT_ (fun K hK=>?_);refine gA Tryz.func78 #[.agg #[.string ((rd_T108 l0 x5_1).f0),.int .i64 ((rd_T108 l0 x5_1).f1),.int .i64 ((rd_T108 l0 x5_1).f2),.slice A13_3 ((rd_T108 l0 x5_1).f3).length c13_3],.agg #[.string ((rd_T108 l1 x5_1).f0),.int .i64 ((rd_T108 l1 x5_1).f1),.int .i64 ((rd_T108 l1 x5_1).f2),.slice A14_3 ((rd_T108 l1 x5_1).f3).length c14_3]] ?_;(with_reducible refine (laws_eqPartner.calls k1 ((rd_T108 l0 x5_1).f0) ((rd_T108 l0 x5_1).f1) ((rd_T108 l0 x5_1).f2) _ _ ((rd_T108 l0 x5_1).f3) ((rd_T108 l1 x5_1).f0) ((rd_T108 l1 x5_1).f1) ((rd_T108 l1 x5_1).f2) _ _ ((rd_T108 l1 x5_1).f3) false _ ?side1 ?side2 ?side3 ?side4 A7.out).mono ?_)
      (case side1=>exact sd (Kd.C_below HR13_3.out HB.out))
      (case side2=>exact HC13_3.out)
      (case side3=>exact sd (Kd.C_below HR14_3.out HB.out))
      (case side4=>exact HC14_3.out)
      rintro e w12 ⟨rfl,hb⟩;refine ⟨_,rfl,?_⟩;replace HB:=bq HB hb;(try clear hb);(try clear hb2);(try clear hk);(try clear hi);refine hK.out _ _ (hca (cb HB hw13_0) (hca (cb HB hw13_1) (hca (cb HB hw13_2) (hca (cb HB hw13_3) (hca (cb HB hw14_0) (hca (cb HB hw14_1) (hca (cb HB hw14_2) (hc (cb HB hw14_3))))))))).out (fun hHeld=>?_);clear hK K;refine nA 25 ?_;refine pA 9 26 HT_ ?_;refine done_ (done_of HT_.out (by kernel_rfl)) ?_
      try go_wp2
      go_ret
      exact ⟨ff,bs HB⟩
    ·intro c4b0 H;obtain rfl:=si H
     go_wp2
     go_ret
     exact ⟨ff,bs HB⟩
 ·intro c3 c3b0 c3b1 H
  have c3b2:(l0.length == l1.length)=false:=by first|simpa using c3|(simp at c3 ⊢;omega)
  obtain rfl:=si H
  go_in
  go_wp2
  go_ret
  exact ⟨ff,bs HB⟩
theorem laws_eqCross.calls (a0_0:ByteArray) (a0_1:ByteArray) (a0_2:ByteArray) (a1_0:ByteArray) (a1_1:ByteArray) (a1_2:ByteArray) (r:Bool) (w:World) (H:laws_eqCross.f a0_0 a0_1 a0_2 a1_0 a1_1 a1_2=some r) :
  Calls Tryz.prog 79 #[.agg #[.string a0_0,.string a0_1,.string a0_2],.agg #[.string a1_0,.string a1_1,.string a1_2]] w fun e w'=>e=.returned (.bool r)∧Below w.heap.size w w':=by
 have hu111:=Tryz.underlying111;have HB:=am (Below.refl w.heap.size w);unfold laws_eqCross.f at H
 revert H;refine ie2 ?_ ?_
 ·intro c3b0 c3b1 H
  revert H;refine ie2 ?_ ?_
  ·intro c4b0 c4b1 H
   revert H;refine ie2 ?_ ?_
   ·intro c5b0 c5b1 H;obtain rfl:=si H
    go_in
    go_wp2_with (first|((with_reducible refine gate_dst (N:=2) rfl ?_);refine bz 2 (cs:=#[.string a0_0,.string a0_1,.string a0_2]) (t:=111) HB ?_;clear HB;intro gb26 hg w6 BK26 GW26 hb HB;clear hb hg)|((with_reducible refine gate_dst (N:=3) rfl ?_);refine bz 3 (cs:=#[.string a1_0,.string a1_1,.string a1_2]) (t:=111) HB ?_;clear HB;intro gb27 hg w7 BK27 GW27 hb HB;have NB26_27:=na hg BK26;have NB27_26:=nc hg BK26;replace BK26:=bb BK26 hb;clear hb hg;have hnb8:=NB26_27.out;have hnc8:=NB27_26.out;have hcz9:=cf3 BK26;have hcz10:=cf3 BK27))
    go_ret
    exact ⟨ff,bs HB⟩
   ·intro c5 c5b0 c5b1 H;obtain rfl:=si H
    go_in
    go_wp2_with (first|((with_reducible refine gate_dst (N:=2) rfl ?_);refine bz 2 (cs:=#[.string a0_0,.string a0_1,.string a0_2]) (t:=111) HB ?_;clear HB;intro gb26 hg w11 BK26 GW26 hb HB;clear hb hg)|((with_reducible refine gate_dst (N:=3) rfl ?_);refine bz 3 (cs:=#[.string a1_0,.string a1_1,.string a1_2]) (t:=111) HB ?_;clear HB;intro gb27 hg w12 BK27 GW27 hb HB;have NB26_27:=na hg BK26;have NB27_26:=nc hg BK26;replace BK26:=bb BK26 hb;clear hb hg;have hnb13:=NB26_27.out;have hnc13:=NB27_26.out;have hcz14:=cf3 BK26;have hcz15:=cf3 BK27))
    go_ret
    exact ⟨ff,bs HB⟩
  ·intro c4 c4b0 c4b1 H;obtain rfl:=si H
   go_in
   go_wp2_with (first|((with_reducible refine gate_dst (N:=2) rfl ?_);refine bz 2 (cs:=#[.string a0_0,.string a0_1,.string a0_2]) (t:=111) HB ?_;clear HB;intro gb26 hg w16 BK26 GW26 hb HB;clear hb hg)|((with_reducible refine gate_dst (N:=3) rfl ?_);refine bz 3 (cs:=#[.string a1_0,.string a1_1,.string a1_2]) (t:=111) HB ?_;clear HB;intro gb27 hg w17 BK27 GW27 hb HB;have NB26_27:=na hg BK26;have NB27_26:=nc hg BK26;replace BK26:=bb BK26 hb;clear hb hg;have hnb18:=NB26_27.out;have hnc18:=NB27_26.out;have hcz19:=cf3 BK26;have hcz20:=cf3 BK27))
   go_ret
   exact ⟨ff,bs HB⟩
 ·intro c3 c3b0 c3b1 H;obtain rfl:=si H
  go_in
  go_wp2_with (first|((with_reducible refine gate_dst (N:=2) rfl ?_);refine bz 2 (cs:=#[.string a0_0,.string a0_1,.string a0_2]) (t:=111) HB ?_;clear HB;intro gb26 hg w21 BK26 GW26 hb HB;clear hb hg)|((with_reducible refine gate_dst (N:=3) rfl ?_);refine bz 3 (cs:=#[.string a1_0,.string a1_1,.string a1_2]) (t:=111) HB ?_;clear HB;intro gb27 hg w22 BK27 GW27 hb HB;have NB26_27:=na hg BK26;have NB27_26:=nc hg BK26;replace BK26:=bb BK26 hb;clear hb hg;have hnb23:=NB26_27.out;have hnc23:=NB27_26.out;have hcz24:=cf3 BK26;have hcz25:=cf3 BK27))
  go_ret
  exact ⟨ff,bs HB⟩
def laws_eqCrossS.T6:Bool × List (List Nat × List Nat):=(true,[([],[]),([],[]),([0,1],[0,1]),([2],[2]),([],[]),([],[]),([4,5],[4,5]),([6],[6]),([3,7],[3,7]),([8],[8])])
def laws_eqCrossS.B6:List Nat:=[0,0,3,7,0,0,48,112,255,511]
theorem laws_eqCrossS.tab6:rtab .any (opsOf Tryz.f37 6)=laws_eqCrossS.T6:=by kernel_rfl
theorem laws_eqCrossS.bits6:waitsOk laws_eqCrossS.T6.2 laws_eqCrossS.B6=true:=by kernel_rfl
theorem laws_eqCrossS.calls (k:Nat) (A0:Option Addr) (c0:Nat) (l0:List (S111)) (A1:Option Addr) (c1:Nat) (l1:List (S111)) (r:Bool) (w:World) (hr0:Kd.C k111 w A0 l0.length l0) (hc0:l0.length≤c0) (hr1:Kd.C k111 w A1 l1.length l1) (hc1:l1.length≤c1) (H:laws_eqCrossS.f k l0 l1=some r) :
  Calls Tryz.prog 37 #[.slice A0 l0.length c0,.slice A1 l1.length c1] w fun e w'=>e=.returned (.bool r)∧Below w.heap.size w w':=by
 have hu111:=Tryz.underlying111;have HR0:=am hr0;have HC0:=am hc0;clear hr0 hc0;have HR1:=am hr1;have HC1:=am hc1;clear hr1 hc1;have HB:=am (Below.refl w.heap.size w);unfold laws_eqCrossS.f at H
 revert H;refine ie2k ?_ ?_
 ·intro c3 c3b0 c3b1 H
  have c3b2:(l0.length == l1.length)=true:=by first|simpa using c3|(simp at c3 ⊢;omega)
  clear c3;have H':=am H;clear H
  go_in
  go_wp2
  go_loopg [5] k (fun kq v5 w'=>∃ (x5_1:Int),v5=.int .i64 x5_1∧Aside0 (laws_eqCrossS.l0 kq l0 l1 x5_1=some r)∧Aside0 (kq≤k)∧Aside0 (Below w.heap.size w w'))
  case atStart=>exact ⟨(0),fg,H',⟨Nat.le_refl _⟩,⟨bs HB⟩⟩
  case round =>
   clear H'
   try clear c1
   try clear c3
   try clear c3b0
   try clear c3b1
   try clear c3b2
   obtain ⟨x5_1,rfl,HA,HK1,HB⟩:=hrel
   cases gk with
   | zero=>exact absurd HA.out (by simp [laws_eqCrossS.l0])
   | succ k1 =>
    have H:=HA.out;clear HA;simp only [laws_eqCrossS.l0] at H
    revert H;refine id2 ?_ ?_
    ·intro c4b0 H
     revert H;refine id1 ?_
     intro c5b0 H
     revert H;refine id1 ?_
     intro c6b0 H;replace H:=bo H;obtain ⟨t15,A7,H⟩:=H
     obtain rfl|rfl:=bt t15
     ·replace H:=itT H;have H':=am H;clear H
      try go_wp2
      replace HB:=am (below_drew1 HB.out);have p13:0≤(x5_1:Int):=oa;have q13:x5_1<(l0.length:Int):=oa;obtain ⟨ad13,e13,hx13_0,hx13_1,hx13_2⟩:=at_T111 HR0.out x5_1 p13 q13;have hw13_2:=hx13_2;have hw13_1:=hx13_1;have hw13_0:=hx13_0
      cases e13
      replace hx13_0:=cb HB hx13_0;replace hx13_1:=cb HB hx13_1;replace hx13_2:=cb HB hx13_2;replace p13:=eq_true p13;replace q13:=eq_true q13;have p14:0≤(x5_1:Int):=oa;have q14:x5_1<(l1.length:Int):=oa;obtain ⟨ad14,e14,hx14_0,hx14_1,hx14_2⟩:=at_T111 HR1.out x5_1 p14 q14;have hw14_2:=hx14_2;have hw14_1:=hx14_1;have hw14_0:=hx14_0
      cases e14
      replace hx14_0:=cb HB hx14_0;replace hx14_1:=cb HB hx14_1;replace hx14_2:=cb HB hx14_2;replace p14:=eq_true p14;replace q14:=eq_true q14;refine sta 10 (hca (cb HB hw13_0) (hca (cb HB hw13_1) (hca (cb HB hw13_2) (hca (cb HB hw14_0) (hca (cb HB hw14_1) (hc (cb HB hw14_2))))))) (fun hHeld=>?_);refine with_tabW laws_eqCrossS.tab6 laws_eqCrossS.bits6 (fun HT_ HW_=>?_)
      generalize wr.drew=w9 at HB hx13_0 hx13_1 hx13_2 hx14_0 hx14_1 hx14_2 hHeld ⊢
      refine pA 0 17 HT_ ?_;refine pA 1 18 HT_ ?_;refine pA 2 19 HT_ ?_;refine pA 4 21 HT_ ?_;refine pA 5 22 HT_ ?_;refine pA 6 23 HT_ ?_;refine tA 3 20 HT_ HW_ hHeld ?_;refine tA 7 24 HT_ HW_ hHeld ?_;refine oA 8 25 HT_ (fun K hK=>?_);refine gA Tryz.func79 #[.agg #[.string ((rd_T111 l0 x5_1).f0),.string ((rd_T111 l0 x5_1).f1),.string ((rd_T111 l0 x5_1).f2)],.agg #[.string ((rd_T111 l1 x5_1).f0),.string ((rd_T111 l1 x5_1).f1),.string ((rd_T111 l1 x5_1).f2)]] ?_;(with_reducible refine (laws_eqCross.calls ((rd_T111 l0 x5_1).f0) ((rd_T111 l0 x5_1).f1) ((rd_T111 l0 x5_1).f2) ((rd_T111 l1 x5_1).f0) ((rd_T111 l1 x5_1).f1) ((rd_T111 l1 x5_1).f2) true _ A7.out).mono ?_);rintro e w10 ⟨rfl,hb⟩;refine ⟨_,rfl,?_⟩;replace HB:=bq HB hb;(try clear hb);(try clear hb2);(try clear hk);(try clear hi);refine hK.out _ _ (hca (cb HB hw13_0) (hca (cb HB hw13_1) (hca (cb HB hw13_2) (hca (cb HB hw14_0) (hca (cb HB hw14_1) (hc (cb HB hw14_2))))))).out (fun hHeld=>?_);clear hK K;refine nA 25 ?_;refine pA 9 26 HT_ ?_;refine done_ (done_of HT_.out (by kernel_rfl)) ?_
      try go_wp2
      go_roundg k1
      case measure=>have:=HK1.out;omega
      case rel=>exact ⟨(wrap64 (x5_1+1)),fg,H',⟨by have:=HK1.out;omega⟩,⟨bs HB⟩⟩
     ·replace H:=itF H;obtain rfl:=si H
      try go_wp2
      replace HB:=am (below_drew1 HB.out);have p13:0≤(x5_1:Int):=oa;have q13:x5_1<(l0.length:Int):=oa;obtain ⟨ad13,e13,hx13_0,hx13_1,hx13_2⟩:=at_T111 HR0.out x5_1 p13 q13;have hw13_2:=hx13_2;have hw13_1:=hx13_1;have hw13_0:=hx13_0
      cases e13
      replace hx13_0:=cb HB hx13_0;replace hx13_1:=cb HB hx13_1;replace hx13_2:=cb HB hx13_2;replace p13:=eq_true p13;replace q13:=eq_true q13;have p14:0≤(x5_1:Int):=oa;have q14:x5_1<(l1.length:Int):=oa;obtain ⟨ad14,e14,hx14_0,hx14_1,hx14_2⟩:=at_T111 HR1.out x5_1 p14 q14;have hw14_2:=hx14_2;have hw14_1:=hx14_1;have hw14_0:=hx14_0
      cases e14
      replace hx14_0:=cb HB hx14_0;replace hx14_1:=cb HB hx14_1;replace hx14_2:=cb HB hx14_2;replace p14:=eq_true p14;replace q14:=eq_true q14;refine sta 10 (hca (cb HB hw13_0) (hca (cb HB hw13_1) (hca (cb HB hw13_2) (hca (cb HB hw14_0) (hca (cb HB hw14_1) (hc (cb HB hw14_2))))))) (fun hHeld=>?_);refine with_tabW laws_eqCrossS.tab6 laws_eqCrossS.bits6 (fun HT_ HW_=>?_)
      generalize wr.drew=w11 at HB hx13_0 hx13_1 hx13_2 hx14_0 hx14_1 hx14_2 hHeld ⊢
      refine pA 0 17 HT_ ?_;refine pA 1 18 HT_ ?_;refine pA 2 19 HT_ ?_;refine pA 4 21 HT_ ?_;refine pA 5 22 HT_ ?_;refine pA 6 23 HT_ ?_;refine tA 3 20 HT_ HW_ hHeld ?_;refine tA 7 24 HT_ HW_ hHeld ?_;refine oA 8 25 HT_ (fun K hK=>?_);refine gA Tryz.func79 #[.agg #[.string ((rd_T111 l0 x5_1).f0),.string ((rd_T111 l0 x5_1).f1),.string ((rd_T111 l0 x5_1).f2)],.agg #[.string ((rd_T111 l1 x5_1).f0),.string ((rd_T111 l1 x5_1).f1),.string ((rd_T111 l1 x5_1).f2)]] ?_;(with_reducible refine (laws_eqCross.calls ((rd_T111 l0 x5_1).f0) ((rd_T111 l0 x5_1).f1) ((rd_T111 l0 x5_1).f2) ((rd_T111 l1 x5_1).f0) ((rd_T111 l1 x5_1).f1) ((rd_T111 l1 x5_1).f2) false _ A7.out).mono ?_);rintro e w12 ⟨rfl,hb⟩;refine ⟨_,rfl,?_⟩;replace HB:=bq HB hb;(try clear hb);(try clear hb2);(try clear hk);(try clear hi);refine hK.out _ _ (hca (cb HB hw13_0) (hca (cb HB hw13_1) (hca (cb HB hw13_2) (hca (cb HB hw14_0) (hca (cb HB hw14_1) (hc (cb HB hw14_2))))))).out (fun hHeld=>?_);clear hK K;refine nA 25 ?_;refine pA 9 26 HT_ ?_;refine done_ (done_of HT_.out (by kernel_rfl)) ?_
      try go_wp2
      go_ret
      exact ⟨ff,bs HB⟩
    ·intro c4b0 H;obtain rfl:=si H
     go_wp2
     go_ret
     exact ⟨ff,bs HB⟩
 ·intro c3 c3b0 c3b1 H
  have c3b2:(l0.length == l1.length)=false:=by first|simpa using c3|(simp at c3 ⊢;omega)
  obtain rfl:=si H
  go_in
  go_wp2
  go_ret
  exact ⟨ff,bs HB⟩
theorem laws_eqStock.calls (a0_0:ByteArray) (a0_1:Int) (a1_0:ByteArray) (a1_1:Int) (r:Bool) (w:World) (H:laws_eqStock.f a0_0 a0_1 a1_0 a1_1=some r) :
  Calls Tryz.prog 107 #[.agg #[.string a0_0,.int .i64 a0_1],.agg #[.string a1_0,.int .i64 a1_1]] w fun e w'=>e=.returned (.bool r)∧Below w.heap.size w w':=by
 have hu141:=Tryz.underlying141;have HB:=am (Below.refl w.heap.size w);unfold laws_eqStock.f at H
 revert H;refine ie2 ?_ ?_
 ·intro c3b0 c3b1 H
  revert H;refine ie2 ?_ ?_
  ·intro c4b0 c4b1 H;obtain rfl:=si H
   go_in
   go_wp2_with (first|((with_reducible refine gate_dst (N:=2) rfl ?_);refine bz 2 (cs:=#[.string a0_0,.int .i64 a0_1]) (t:=141) HB ?_;clear HB;intro gb20 hg w5 BK20 GW20 hb HB;clear hb hg)|((with_reducible refine gate_dst (N:=3) rfl ?_);refine bz 3 (cs:=#[.string a1_0,.int .i64 a1_1]) (t:=141) HB ?_;clear HB;intro gb21 hg w6 BK21 GW21 hb HB;have NB20_21:=na hg BK20;have NB21_20:=nc hg BK20;replace BK20:=bb BK20 hb;clear hb hg;have hnb7:=NB20_21.out;have hnc7:=NB21_20.out;have hcz8:=cf2 BK20;have hcz9:=cf2 BK21))
   go_ret
   exact ⟨ff,bs HB⟩
  ·intro c4 c4b0 c4b1 H;obtain rfl:=si H
   go_in
   go_wp2_with (first|((with_reducible refine gate_dst (N:=2) rfl ?_);refine bz 2 (cs:=#[.string a0_0,.int .i64 a0_1]) (t:=141) HB ?_;clear HB;intro gb20 hg w10 BK20 GW20 hb HB;clear hb hg)|((with_reducible refine gate_dst (N:=3) rfl ?_);refine bz 3 (cs:=#[.string a1_0,.int .i64 a1_1]) (t:=141) HB ?_;clear HB;intro gb21 hg w11 BK21 GW21 hb HB;have NB20_21:=na hg BK20;have NB21_20:=nc hg BK20;replace BK20:=bb BK20 hb;clear hb hg;have hnb12:=NB20_21.out;have hnc12:=NB21_20.out;have hcz13:=cf2 BK20;have hcz14:=cf2 BK21))
   go_ret
   exact ⟨ff,bs HB⟩
 ·intro c3 c3b0 c3b1 H;obtain rfl:=si H
  go_in
  go_wp2_with (first|((with_reducible refine gate_dst (N:=2) rfl ?_);refine bz 2 (cs:=#[.string a0_0,.int .i64 a0_1]) (t:=141) HB ?_;clear HB;intro gb20 hg w15 BK20 GW20 hb HB;clear hb hg)|((with_reducible refine gate_dst (N:=3) rfl ?_);refine bz 3 (cs:=#[.string a1_0,.int .i64 a1_1]) (t:=141) HB ?_;clear HB;intro gb21 hg w16 BK21 GW21 hb HB;have NB20_21:=na hg BK20;have NB21_20:=nc hg BK20;replace BK20:=bb BK20 hb;clear hb hg;have hnb17:=NB20_21.out;have hnc17:=NB21_20.out;have hcz18:=cf2 BK20;have hcz19:=cf2 BK21))
  go_ret
  exact ⟨ff,bs HB⟩
def laws_eqStockS.T6:Bool × List (List Nat × List Nat):=(true,[([],[]),([],[]),([0,1],[0,1]),([2],[2]),([],[]),([],[]),([4,5],[4,5]),([6],[6]),([3,7],[3,7]),([8],[8])])
def laws_eqStockS.B6:List Nat:=[0,0,3,7,0,0,48,112,255,511]
theorem laws_eqStockS.tab6:rtab .any (opsOf Tryz.f80 6)=laws_eqStockS.T6:=by kernel_rfl
theorem laws_eqStockS.bits6:waitsOk laws_eqStockS.T6.2 laws_eqStockS.B6=true:=by kernel_rfl
theorem laws_eqStockS.calls (k:Nat) (A0:Option Addr) (c0:Nat) (l0:List (S141)) (A1:Option Addr) (c1:Nat) (l1:List (S141)) (r:Bool) (w:World) (hr0:Kd.C k141 w A0 l0.length l0) (hc0:l0.length≤c0) (hr1:Kd.C k141 w A1 l1.length l1) (hc1:l1.length≤c1) (H:laws_eqStockS.f k l0 l1=some r) :
  Calls Tryz.prog 80 #[.slice A0 l0.length c0,.slice A1 l1.length c1] w fun e w'=>e=.returned (.bool r)∧Below w.heap.size w w':=by
 have hu141:=Tryz.underlying141;have HR0:=am hr0;have HC0:=am hc0;clear hr0 hc0;have HR1:=am hr1;have HC1:=am hc1;clear hr1 hc1;have HB:=am (Below.refl w.heap.size w);unfold laws_eqStockS.f at H
 revert H;refine ie2k ?_ ?_
 ·intro c3 c3b0 c3b1 H
  have c3b2:(l0.length == l1.length)=true:=by first|simpa using c3|(simp at c3 ⊢;omega)
  clear c3;have H':=am H;clear H
  go_in
  go_wp2
  go_loopg [5] k (fun kq v5 w'=>∃ (x5_1:Int),v5=.int .i64 x5_1∧Aside0 (laws_eqStockS.l0 kq l0 l1 x5_1=some r)∧Aside0 (kq≤k)∧Aside0 (Below w.heap.size w w'))
  case atStart=>exact ⟨(0),fg,H',⟨Nat.le_refl _⟩,⟨bs HB⟩⟩
  case round =>
   clear H'
   try clear c1
   try clear c3
   try clear c3b0
   try clear c3b1
   try clear c3b2
   obtain ⟨x5_1,rfl,HA,HK1,HB⟩:=hrel
   cases gk with
   | zero=>exact absurd HA.out (by simp [laws_eqStockS.l0])
   | succ k1 =>
    have H:=HA.out;clear HA;simp only [laws_eqStockS.l0] at H
    revert H;refine id2 ?_ ?_
    ·intro c4b0 H
     revert H;refine id1 ?_
     intro c5b0 H
     revert H;refine id1 ?_
     intro c6b0 H;replace H:=bo H;obtain ⟨t15,A7,H⟩:=H
     obtain rfl|rfl:=bt t15
     ·replace H:=itT H;have H':=am H;clear H
      try go_wp2
      replace HB:=am (below_drew1 HB.out);have p13:0≤(x5_1:Int):=oa;have q13:x5_1<(l0.length:Int):=oa;obtain ⟨ad13,e13,hx13_0,hx13_1⟩:=at_T141 HR0.out x5_1 p13 q13;have hw13_1:=hx13_1;have hw13_0:=hx13_0
      cases e13
      replace hx13_0:=cb HB hx13_0;replace hx13_1:=cb HB hx13_1;replace p13:=eq_true p13;replace q13:=eq_true q13;have p14:0≤(x5_1:Int):=oa;have q14:x5_1<(l1.length:Int):=oa;obtain ⟨ad14,e14,hx14_0,hx14_1⟩:=at_T141 HR1.out x5_1 p14 q14;have hw14_1:=hx14_1;have hw14_0:=hx14_0
      cases e14
      replace hx14_0:=cb HB hx14_0;replace hx14_1:=cb HB hx14_1;replace p14:=eq_true p14;replace q14:=eq_true q14;refine sta 10 (hca (cb HB hw13_0) (hca (cb HB hw13_1) (hca (cb HB hw14_0) (hc (cb HB hw14_1))))) (fun hHeld=>?_);refine with_tabW laws_eqStockS.tab6 laws_eqStockS.bits6 (fun HT_ HW_=>?_)
      generalize wr.drew=w9 at HB hx13_0 hx13_1 hx14_0 hx14_1 hHeld ⊢
      refine pA 0 17 HT_ ?_;refine pA 1 18 HT_ ?_;refine pA 2 19 HT_ ?_;refine pA 4 21 HT_ ?_;refine pA 5 22 HT_ ?_;refine pA 6 23 HT_ ?_;refine tA 3 20 HT_ HW_ hHeld ?_;refine tA 7 24 HT_ HW_ hHeld ?_;refine oA 8 25 HT_ (fun K hK=>?_);refine gA Tryz.func107 #[.agg #[.string ((rd_T141 l0 x5_1).f0),.int .i64 ((rd_T141 l0 x5_1).f1)],.agg #[.string ((rd_T141 l1 x5_1).f0),.int .i64 ((rd_T141 l1 x5_1).f1)]] ?_;(with_reducible refine (laws_eqStock.calls ((rd_T141 l0 x5_1).f0) ((rd_T141 l0 x5_1).f1) ((rd_T141 l1 x5_1).f0) ((rd_T141 l1 x5_1).f1) true _ A7.out).mono ?_);rintro e w10 ⟨rfl,hb⟩;refine ⟨_,rfl,?_⟩;replace HB:=bq HB hb;(try clear hb);(try clear hb2);(try clear hk);(try clear hi);refine hK.out _ _ (hca (cb HB hw13_0) (hca (cb HB hw13_1) (hca (cb HB hw14_0) (hc (cb HB hw14_1))))).out (fun hHeld=>?_);clear hK K;refine nA 25 ?_;refine pA 9 26 HT_ ?_;refine done_ (done_of HT_.out (by kernel_rfl)) ?_
      try go_wp2
      go_roundg k1
      case measure=>have:=HK1.out;omega
      case rel=>exact ⟨(wrap64 (x5_1+1)),fg,H',⟨by have:=HK1.out;omega⟩,⟨bs HB⟩⟩
     ·replace H:=itF H;obtain rfl:=si H
      try go_wp2
      replace HB:=am (below_drew1 HB.out);have p13:0≤(x5_1:Int):=oa;have q13:x5_1<(l0.length:Int):=oa;obtain ⟨ad13,e13,hx13_0,hx13_1⟩:=at_T141 HR0.out x5_1 p13 q13;have hw13_1:=hx13_1;have hw13_0:=hx13_0
      cases e13
      replace hx13_0:=cb HB hx13_0;replace hx13_1:=cb HB hx13_1;replace p13:=eq_true p13;replace q13:=eq_true q13;have p14:0≤(x5_1:Int):=oa;have q14:x5_1<(l1.length:Int):=oa;obtain ⟨ad14,e14,hx14_0,hx14_1⟩:=at_T141 HR1.out x5_1 p14 q14;have hw14_1:=hx14_1;have hw14_0:=hx14_0
      cases e14
      replace hx14_0:=cb HB hx14_0;replace hx14_1:=cb HB hx14_1;replace p14:=eq_true p14;replace q14:=eq_true q14;refine sta 10 (hca (cb HB hw13_0) (hca (cb HB hw13_1) (hca (cb HB hw14_0) (hc (cb HB hw14_1))))) (fun hHeld=>?_);refine with_tabW laws_eqStockS.tab6 laws_eqStockS.bits6 (fun HT_ HW_=>?_)
      generalize wr.drew=w11 at HB hx13_0 hx13_1 hx14_0 hx14_1 hHeld ⊢
      refine pA 0 17 HT_ ?_;refine pA 1 18 HT_ ?_;refine pA 2 19 HT_ ?_;refine pA 4 21 HT_ ?_;refine pA 5 22 HT_ ?_;refine pA 6 23 HT_ ?_;refine tA 3 20 HT_ HW_ hHeld ?_;refine tA 7 24 HT_ HW_ hHeld ?_;refine oA 8 25 HT_ (fun K hK=>?_);refine gA Tryz.func107 #[.agg #[.string ((rd_T141 l0 x5_1).f0),.int .i64 ((rd_T141 l0 x5_1).f1)],.agg #[.string ((rd_T141 l1 x5_1).f0),.int .i64 ((rd_T141 l1 x5_1).f1)]] ?_;(with_reducible refine (laws_eqStock.calls ((rd_T141 l0 x5_1).f0) ((rd_T141 l0 x5_1).f1) ((rd_T141 l1 x5_1).f0) ((rd_T141 l1 x5_1).f1) false _ A7.out).mono ?_);rintro e w12 ⟨rfl,hb⟩;refine ⟨_,rfl,?_⟩;replace HB:=bq HB hb;(try clear hb);(try clear hb2);(try clear hk);(try clear hi);refine hK.out _ _ (hca (cb HB hw13_0) (hca (cb HB hw13_1) (hca (cb HB hw14_0) (hc (cb HB hw14_1))))).out (fun hHeld=>?_);clear hK K;refine nA 25 ?_;refine pA 9 26 HT_ ?_;refine done_ (done_of HT_.out (by kernel_rfl)) ?_
      try go_wp2
      go_ret
      exact ⟨ff,bs HB⟩
    ·intro c4b0 H;obtain rfl:=si H
     go_wp2
     go_ret
     exact ⟨ff,bs HB⟩
 ·intro c3 c3b0 c3b1 H
  have c3b2:(l0.length == l1.length)=false:=by first|simpa using c3|(simp at c3 ⊢;omega)
  obtain rfl:=si H
  go_in
  go_wp2
  go_ret
  exact ⟨ff,bs HB⟩
theorem laws_eqOrderLine.calls (a0_0:ByteArray) (a0_1:ByteArray) (a0_2:Int) (a0_3:ByteArray) (a0_4:Int) (a0_5:Int) (a0_6:Int) (a0_7:Int) (a1_0:ByteArray) (a1_1:ByteArray) (a1_2:Int) (a1_3:ByteArray) (a1_4:Int) (a1_5:Int) (a1_6:Int) (a1_7:Int) (r:Bool) (w:World) (H:laws_eqOrderLine.f a0_0 a0_1 a0_2 a0_3 a0_4 a0_5 a0_6 a0_7 a1_0 a1_1 a1_2 a1_3 a1_4 a1_5 a1_6 a1_7=some r) :
  Calls Tryz.prog 108 #[.agg #[.string a0_0,.string a0_1,.int .i64 a0_2,.string a0_3,.int .i64 a0_4,.int .i64 a0_5,.int .i64 a0_6,.int .i64 a0_7],.agg #[.string a1_0,.string a1_1,.int .i64 a1_2,.string a1_3,.int .i64 a1_4,.int .i64 a1_5,.int .i64 a1_6,.int .i64 a1_7]] w fun e w'=>e=.returned (.bool r)∧Below w.heap.size w w':=by
 have hu147:=Tryz.underlying147;have HB:=am (Below.refl w.heap.size w);unfold laws_eqOrderLine.f at H
 revert H;refine ie2 ?_ ?_
 ·intro c3b0 c3b1 H
  revert H;refine ie2 ?_ ?_
  ·intro c4b0 c4b1 H
   revert H;refine ie2 ?_ ?_
   ·intro c5b0 c5b1 H
    revert H;refine ie2 ?_ ?_
    ·intro c6b0 c6b1 H
     revert H;refine ie2 ?_ ?_
     ·intro c7b0 c7b1 H
      revert H;refine ie2 ?_ ?_
      ·intro c8b0 c8b1 H
       revert H;refine ie2 ?_ ?_
       ·intro c9b0 c9b1 H
        revert H;refine ie2 ?_ ?_
        ·intro c10b0 c10b1 H;obtain rfl:=si H
         go_in
         go_wp2_with (first|((with_reducible refine gate_dst (N:=2) rfl ?_);refine bz 2 (cs:=#[.string a0_0,.string a0_1,.int .i64 a0_2,.string a0_3,.int .i64 a0_4,.int .i64 a0_5,.int .i64 a0_6,.int .i64 a0_7]) (t:=147) HB ?_;clear HB;intro gb56 hg w11 BK56 GW56 hb HB;clear hb hg)|((with_reducible refine gate_dst (N:=3) rfl ?_);refine bz 3 (cs:=#[.string a1_0,.string a1_1,.int .i64 a1_2,.string a1_3,.int .i64 a1_4,.int .i64 a1_5,.int .i64 a1_6,.int .i64 a1_7]) (t:=147) HB ?_;clear HB;intro gb57 hg w12 BK57 GW57 hb HB;have NB56_57:=na hg BK56;have NB57_56:=nc hg BK56;replace BK56:=bb BK56 hb;clear hb hg;have hnb13:=NB56_57.out;have hnc13:=NB57_56.out;have hcz14:=cf8 BK56;have hcz15:=cf8 BK57))
         go_ret
         exact ⟨ff,bs HB⟩
        ·intro c10 c10b0 c10b1 H;obtain rfl:=si H
         go_in
         go_wp2_with (first|((with_reducible refine gate_dst (N:=2) rfl ?_);refine bz 2 (cs:=#[.string a0_0,.string a0_1,.int .i64 a0_2,.string a0_3,.int .i64 a0_4,.int .i64 a0_5,.int .i64 a0_6,.int .i64 a0_7]) (t:=147) HB ?_;clear HB;intro gb56 hg w16 BK56 GW56 hb HB;clear hb hg)|((with_reducible refine gate_dst (N:=3) rfl ?_);refine bz 3 (cs:=#[.string a1_0,.string a1_1,.int .i64 a1_2,.string a1_3,.int .i64 a1_4,.int .i64 a1_5,.int .i64 a1_6,.int .i64 a1_7]) (t:=147) HB ?_;clear HB;intro gb57 hg w17 BK57 GW57 hb HB;have NB56_57:=na hg BK56;have NB57_56:=nc hg BK56;replace BK56:=bb BK56 hb;clear hb hg;have hnb18:=NB56_57.out;have hnc18:=NB57_56.out;have hcz19:=cf8 BK56;have hcz20:=cf8 BK57))
         go_ret
         exact ⟨ff,bs HB⟩
       ·intro c9 c9b0 c9b1 H;obtain rfl:=si H
        go_in
        go_wp2_with (first|((with_reducible refine gate_dst (N:=2) rfl ?_);refine bz 2 (cs:=#[.string a0_0,.string a0_1,.int .i64 a0_2,.string a0_3,.int .i64 a0_4,.int .i64 a0_5,.int .i64 a0_6,.int .i64 a0_7]) (t:=147) HB ?_;clear HB;intro gb56 hg w21 BK56 GW56 hb HB;clear hb hg)|((with_reducible refine gate_dst (N:=3) rfl ?_);refine bz 3 (cs:=#[.string a1_0,.string a1_1,.int .i64 a1_2,.string a1_3,.int .i64 a1_4,.int .i64 a1_5,.int .i64 a1_6,.int .i64 a1_7]) (t:=147) HB ?_;clear HB;intro gb57 hg w22 BK57 GW57 hb HB;have NB56_57:=na hg BK56;have NB57_56:=nc hg BK56;replace BK56:=bb BK56 hb;clear hb hg;have hnb23:=NB56_57.out;have hnc23:=NB57_56.out;have hcz24:=cf8 BK56;have hcz25:=cf8 BK57))
        go_ret
        exact ⟨ff,bs HB⟩
      ·intro c8 c8b0 c8b1 H;obtain rfl:=si H
       go_in
       go_wp2_with (first|((with_reducible refine gate_dst (N:=2) rfl ?_);refine bz 2 (cs:=#[.string a0_0,.string a0_1,.int .i64 a0_2,.string a0_3,.int .i64 a0_4,.int .i64 a0_5,.int .i64 a0_6,.int .i64 a0_7]) (t:=147) HB ?_;clear HB;intro gb56 hg w26 BK56 GW56 hb HB;clear hb hg)|((with_reducible refine gate_dst (N:=3) rfl ?_);refine bz 3 (cs:=#[.string a1_0,.string a1_1,.int .i64 a1_2,.string a1_3,.int .i64 a1_4,.int .i64 a1_5,.int .i64 a1_6,.int .i64 a1_7]) (t:=147) HB ?_;clear HB;intro gb57 hg w27 BK57 GW57 hb HB;have NB56_57:=na hg BK56;have NB57_56:=nc hg BK56;replace BK56:=bb BK56 hb;clear hb hg;have hnb28:=NB56_57.out;have hnc28:=NB57_56.out;have hcz29:=cf8 BK56;have hcz30:=cf8 BK57))
       go_ret
       exact ⟨ff,bs HB⟩
     ·intro c7 c7b0 c7b1 H;obtain rfl:=si H
      go_in
      go_wp2_with (first|((with_reducible refine gate_dst (N:=2) rfl ?_);refine bz 2 (cs:=#[.string a0_0,.string a0_1,.int .i64 a0_2,.string a0_3,.int .i64 a0_4,.int .i64 a0_5,.int .i64 a0_6,.int .i64 a0_7]) (t:=147) HB ?_;clear HB;intro gb56 hg w31 BK56 GW56 hb HB;clear hb hg)|((with_reducible refine gate_dst (N:=3) rfl ?_);refine bz 3 (cs:=#[.string a1_0,.string a1_1,.int .i64 a1_2,.string a1_3,.int .i64 a1_4,.int .i64 a1_5,.int .i64 a1_6,.int .i64 a1_7]) (t:=147) HB ?_;clear HB;intro gb57 hg w32 BK57 GW57 hb HB;have NB56_57:=na hg BK56;have NB57_56:=nc hg BK56;replace BK56:=bb BK56 hb;clear hb hg;have hnb33:=NB56_57.out;have hnc33:=NB57_56.out;have hcz34:=cf8 BK56;have hcz35:=cf8 BK57))
      go_ret
      exact ⟨ff,bs HB⟩
    ·intro c6 c6b0 c6b1 H;obtain rfl:=si H
     go_in
     go_wp2_with (first|((with_reducible refine gate_dst (N:=2) rfl ?_);refine bz 2 (cs:=#[.string a0_0,.string a0_1,.int .i64 a0_2,.string a0_3,.int .i64 a0_4,.int .i64 a0_5,.int .i64 a0_6,.int .i64 a0_7]) (t:=147) HB ?_;clear HB;intro gb56 hg w36 BK56 GW56 hb HB;clear hb hg)|((with_reducible refine gate_dst (N:=3) rfl ?_);refine bz 3 (cs:=#[.string a1_0,.string a1_1,.int .i64 a1_2,.string a1_3,.int .i64 a1_4,.int .i64 a1_5,.int .i64 a1_6,.int .i64 a1_7]) (t:=147) HB ?_;clear HB;intro gb57 hg w37 BK57 GW57 hb HB;have NB56_57:=na hg BK56;have NB57_56:=nc hg BK56;replace BK56:=bb BK56 hb;clear hb hg;have hnb38:=NB56_57.out;have hnc38:=NB57_56.out;have hcz39:=cf8 BK56;have hcz40:=cf8 BK57))
     go_ret
     exact ⟨ff,bs HB⟩
   ·intro c5 c5b0 c5b1 H;obtain rfl:=si H
    go_in
    go_wp2_with (first|((with_reducible refine gate_dst (N:=2) rfl ?_);refine bz 2 (cs:=#[.string a0_0,.string a0_1,.int .i64 a0_2,.string a0_3,.int .i64 a0_4,.int .i64 a0_5,.int .i64 a0_6,.int .i64 a0_7]) (t:=147) HB ?_;clear HB;intro gb56 hg w41 BK56 GW56 hb HB;clear hb hg)|((with_reducible refine gate_dst (N:=3) rfl ?_);refine bz 3 (cs:=#[.string a1_0,.string a1_1,.int .i64 a1_2,.string a1_3,.int .i64 a1_4,.int .i64 a1_5,.int .i64 a1_6,.int .i64 a1_7]) (t:=147) HB ?_;clear HB;intro gb57 hg w42 BK57 GW57 hb HB;have NB56_57:=na hg BK56;have NB57_56:=nc hg BK56;replace BK56:=bb BK56 hb;clear hb hg;have hnb43:=NB56_57.out;have hnc43:=NB57_56.out;have hcz44:=cf8 BK56;have hcz45:=cf8 BK57))
    go_ret
    exact ⟨ff,bs HB⟩
  ·intro c4 c4b0 c4b1 H;obtain rfl:=si H
   go_in
   go_wp2_with (first|((with_reducible refine gate_dst (N:=2) rfl ?_);refine bz 2 (cs:=#[.string a0_0,.string a0_1,.int .i64 a0_2,.string a0_3,.int .i64 a0_4,.int .i64 a0_5,.int .i64 a0_6,.int .i64 a0_7]) (t:=147) HB ?_;clear HB;intro gb56 hg w46 BK56 GW56 hb HB;clear hb hg)|((with_reducible refine gate_dst (N:=3) rfl ?_);refine bz 3 (cs:=#[.string a1_0,.string a1_1,.int .i64 a1_2,.string a1_3,.int .i64 a1_4,.int .i64 a1_5,.int .i64 a1_6,.int .i64 a1_7]) (t:=147) HB ?_;clear HB;intro gb57 hg w47 BK57 GW57 hb HB;have NB56_57:=na hg BK56;have NB57_56:=nc hg BK56;replace BK56:=bb BK56 hb;clear hb hg;have hnb48:=NB56_57.out;have hnc48:=NB57_56.out;have hcz49:=cf8 BK56;have hcz50:=cf8 BK57))
   go_ret
   exact ⟨ff,bs HB⟩
 ·intro c3 c3b0 c3b1 H;obtain rfl:=si H
  go_in
  go_wp2_with (first|((with_reducible refine gate_dst (N:=2) rfl ?_);refine bz 2 (cs:=#[.string a0_0,.string a0_1,.int .i64 a0_2,.string a0_3,.int .i64 a0_4,.int .i64 a0_5,.int .i64 a0_6,.int .i64 a0_7]) (t:=147) HB ?_;clear HB;intro gb56 hg w51 BK56 GW56 hb HB;clear hb hg)|((with_reducible refine gate_dst (N:=3) rfl ?_);refine bz 3 (cs:=#[.string a1_0,.string a1_1,.int .i64 a1_2,.string a1_3,.int .i64 a1_4,.int .i64 a1_5,.int .i64 a1_6,.int .i64 a1_7]) (t:=147) HB ?_;clear HB;intro gb57 hg w52 BK57 GW57 hb HB;have NB56_57:=na hg BK56;have NB57_56:=nc hg BK56;replace BK56:=bb BK56 hb;clear hb hg;have hnb53:=NB56_57.out;have hnc53:=NB57_56.out;have hcz54:=cf8 BK56;have hcz55:=cf8 BK57))
  go_ret
  exact ⟨ff,bs HB⟩
end Go.Proofs.YtkfcahggnpecjaaGreatDoor.QW
