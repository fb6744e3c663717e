-- Merged by a program of this session (wip/tool/pack.py) out of its own texts for this claim.
import Derived.Test.YtomoflpgdbjojaaGreatKFnExactGatePartner6
import Derived.Test.YtomoflpgdbjojaaGreatKFnExactGatePartner20
set_option maxHeartbeats 8000000
set_option maxRecDepth 100000
set_option linter.unusedSimpArgs false
set_option linter.unusedVariables false
namespace Go.Proofs.YtomoflpgdbjojaaGreat.QO
open Go.RowKit Go.Proofs.YtomoflpgdbjojaaGreatW.PrintWords Go.Proofs.YtomoflpgdbjojaaGreatW.PrintLast Go.Proofs.YtomoflpgdbjojaaGreatW.PrintMore
attribute [local go_sem] max2_int min2_int max_two min_two max_three min_three max_four min_four   -- for this text's walks alone
theorem laws_eqBook.calls (k:Nat) (A0_0:Option Addr) (c0_0:Nat) (l0_0:List (S152)) (A0_1:Option Addr) (c0_1:Nat) (l0_1:List (S161)) (A1_0:Option Addr) (c1_0:Nat) (l1_0:List (S152)) (A1_1:Option Addr) (c1_1:Nat) (l1_1:List (S161)) (r:Bool) (w:World) (hr0_0:Kd.C k152 w A0_0 l0_0.length l0_0) (hc0_0:l0_0.length≤c0_0) (hr0_1:Kd.C k161 w A0_1 l0_1.length l0_1) (hc0_1:l0_1.length≤c0_1) (hr1_0:Kd.C k152 w A1_0 l1_0.length l1_0) (hc1_0:l1_0.length≤c1_0) (hr1_1:Kd.C k161 w A1_1 l1_1.length l1_1) (hc1_1:l1_1.length≤c1_1) (H:laws_eqBook.f k l0_0 l0_1 l1_0 l1_1=some r) :
  Calls Tryz.prog 35 #[.agg #[.slice A0_0 l0_0.length c0_0,.slice A0_1 l0_1.length c0_1],.agg #[.slice A1_0 l1_0.length c1_0,.slice A1_1 l1_1.length c1_1]] w fun e w'=>e=.returned (.bool r)∧Below w.heap.size w w':=by
 have hu38:=Tryz.underlying38;have HR0_0:=am hr0_0;have HC0_0:=am hc0_0;clear hr0_0 hc0_0;have HR0_1:=am hr0_1;have HC0_1:=am hc0_1;clear hr0_1 hc0_1;have HR1_0:=am hr1_0;have HC1_0:=am hc1_0;clear hr1_0 hc1_0;have HR1_1:=am hr1_1;have HC1_1:=am hc1_1;clear hr1_1 hc1_1;have HB:=am (Below.refl w.heap.size w);unfold laws_eqBook.f at H;replace H:=bo H;obtain ⟨t17,A3,H⟩:=H
 go_in
 try go_wp2_with (first|((with_reducible refine gate_dst (N:=2) rfl ?_);refine bz 2 (cs:=#[.slice A0_0 l0_0.length c0_0,.slice A0_1 l0_1.length c0_1]) (t:=38) HB ?_;clear HB;intro gb10 hg w4 BK10 GW10 hb HB;clear hb hg)|((with_reducible refine gate_dst (N:=3) rfl ?_);refine bz 3 (cs:=#[.slice A1_0 l1_0.length c1_0,.slice A1_1 l1_1.length c1_1]) (t:=38) HB ?_;clear HB;intro gb16 hg w5 BK16 GW16 hb HB;have NB10_16:=na hg BK10;have NB16_10:=nc hg BK10;replace BK10:=bb BK10 hb;clear hb hg;have hnb6:=NB10_16.out;have hnc6:=NB16_10.out;have hcz7:=cf2 BK10;have hcz8:=cf2 BK16))
 go_at_call 90;(with_reducible refine (laws_eqStockS.calls k _ _ l0_0 _ _ l1_0 t17 _ (Kd.C_below HR0_0.out (bs HB)) HC0_0.out (Kd.C_below HR1_0.out (bs HB)) HC1_0.out A3.out).mono ?_);rintro e w9 ⟨rfl,hb⟩;replace BK10:=bb BK10 hb;replace BK16:=bb BK16 hb;replace HB:=bq HB hb;(try clear hb);(try clear hb2);(try clear hk);(try clear hi)
 obtain rfl|rfl:=bt t17
 ·replace H:=itT H;replace H:=bo H;obtain ⟨t18,A11,H⟩:=H;have hnb12:=NB10_16.out;have hnc12:=NB16_10.out;have hcz13:=cf2 BK10;have hcz14:=cf2 BK16
  try go_wp2_with (fail)
  go_at_call 91;(with_reducible refine (laws_eqOrderLineS.calls k _ _ l0_1 _ _ l1_1 t18 _ (Kd.C_below HR0_1.out (bs HB)) HC0_1.out (Kd.C_below HR1_1.out (bs HB)) HC1_1.out A11.out).mono ?_);rintro e w15 ⟨rfl,hb⟩;replace BK10:=bb BK10 hb;replace BK16:=bb BK16 hb;replace HB:=bq HB hb;(try clear hb);(try clear hb2);(try clear hk);(try clear hi)
  obtain rfl|rfl:=bt t18
  ·replace H:=itT H;obtain rfl:=si H
   go_wp2
   go_ret
   exact ⟨ff,bs HB⟩
  ·replace H:=itF H;obtain rfl:=si H
   go_wp2
   go_ret
   exact ⟨ff,bs HB⟩
 ·replace H:=itF H;obtain rfl:=si H
  go_wp2
  go_ret
  exact ⟨ff,bs HB⟩
theorem laws_eqDiff.calls (a0_0:Int) (a0_1:ByteArray) (a0_2:ByteArray) (a0_3:Int) (a0_4:ByteArray) (a0_5:Int) (a1_0:Int) (a1_1:ByteArray) (a1_2:ByteArray) (a1_3:Int) (a1_4:ByteArray) (a1_5:Int) (r:Bool) (w:World) (H:laws_eqDiff.f a0_0 a0_1 a0_2 a0_3 a0_4 a0_5 a1_0 a1_1 a1_2 a1_3 a1_4 a1_5=some r) :
  Calls Tryz.prog 92 #[.agg #[.int .i64 a0_0,.string a0_1,.string a0_2,.int .i64 a0_3,.string a0_4,.int .i64 a0_5],.agg #[.int .i64 a1_0,.string a1_1,.string a1_2,.int .i64 a1_3,.string a1_4,.int .i64 a1_5]] w fun e w'=>e=.returned (.bool r)∧Below w.heap.size w w':=by
 have hu:=Tryz.underlying118;have HB:=am (Below.refl w.heap.size w);unfold laws_eqDiff.f at H
 go_in
 go_upto_region 1 with (first|((with_reducible refine gate_dst (N:=2) rfl ?_);refine bx 2 (cs:=#[.int .i64 a0_0,.string a0_1,.string a0_2,.int .i64 a0_3,.string a0_4,.int .i64 a0_5]) (t:=118) ?_;intro g0 hg wa hbox hb;have B0:=am hbox;replace HB:=bq HB hb;clear hb hbox hg)|((with_reducible refine gate_dst (N:=3) rfl ?_);refine bx 3 (cs:=#[.int .i64 a1_0,.string a1_1,.string a1_2,.int .i64 a1_3,.string a1_4,.int .i64 a1_5]) (t:=118) ?_;intro g1 hg wb hbox hb;have B1:=am hbox;replace HB:=bq HB hb;replace B0:=am (blk_below (ks B0) hb);clear hb hbox hg;have z0:=cf6 B0;have z1:=cf6 B1))
 revert H;refine ie1 ?_
 intro c0b0 c0b1 H
 go_upto_region 3 with (fail)
 revert H;refine ie1 ?_
 intro c1b0 c1b1 H
 go_upto_region 5 with (fail)
 revert H;refine ie1 ?_
 intro c2b0 c2b1 H
 go_upto_region 7 with (fail)
 revert H;refine ie1 ?_
 intro c3b0 c3b1 H
 go_upto_region 9 with (fail)
 revert H;refine ie1 ?_
 intro c4b0 c4b1 H
 go_upto_region 11 with (fail)
 revert H;refine ie1 ?_
 intro c5b0 c5b1 H;obtain rfl:=si H
 go_wp2
 go_ret
 exact ⟨ff,bs HB⟩
theorem laws_eqDiffS.calls (k:Nat) (A0:Option Addr) (c0:Nat) (l0:List (S118)) (A1:Option Addr) (c1:Nat) (l1:List (S118)) (r:Bool) (w:World) (hr0:Kd.C k118 w A0 l0.length l0) (hc0:l0.length≤c0) (hr1:Kd.C k118 w A1 l1.length l1) (hc1:l1.length≤c1) (H:laws_eqDiffS.f k l0 l1=some r) :
  Calls Tryz.prog 36 #[.slice A0 l0.length c0,.slice A1 l1.length c1] w fun e w'=>e=.returned (.bool r)∧Below w.heap.size w w':=by
 have hu:=Tryz.underlying118;have HR0:=am hr0;have HR1:=am hr1;clear hr0 hc0 hr1 hc1;have HB:=am (Below.refl w.heap.size w);unfold laws_eqDiffS.f at H
 go_in
 revert H;refine ie1k ?_
 intro c3 c3b0 c3b1 H
 have c3b2:(l0.length == l1.length)=true:=by first|simpa using c3|(simp at c3 ⊢;omega)
 clear c3;have H':=am H;clear H
 go_wp2
 go_loopg [5] k (fun kq v5 w'=>∃ (x5:Int),v5=.int .i64 x5∧Aside0 (laws_eqDiffS.l0 kq l0 l1 x5=some r)∧Aside0 (kq≤k)∧Aside0 (Below w.heap.size w w'))
 case atStart=>exact ⟨0,fg,H',⟨Nat.le_refl _⟩,⟨bs HB⟩⟩
 case round =>
  clear H';(try clear c3b0);(try clear c3b1);(try clear c3b2);obtain ⟨x5,rfl,HA,HK1,HB⟩:=hrel
  cases gk with
  | zero=>exact absurd HA.out (by simp [laws_eqDiffS.l0])
  | succ k1 =>
   have H:=HA.out;clear HA;simp only [laws_eqDiffS.l0] at H
   revert H;refine id2 ?_ ?_
   ·intro c4b0 H;revert H;refine id1 ?_;intro c5b0 H;revert H;refine id1 ?_;intro c6b0 H;replace H:=bo H;obtain ⟨t,A7,H⟩:=H;have p1:0≤(x5:Int):=oa;have q1:x5<(l0.length:Int):=oa;have q2:x5<(l1.length:Int):=oa;obtain ⟨ad,ea,g0,g1,g2,g3,g4,g5⟩:=at_T118 HR0.out x5 p1 q1;obtain ⟨ae,ee,j0,j1,j2,j3,j4,j5⟩:=at_T118 HR1.out x5 p1 q2;cases ea;cases ee;replace p1:=eq_true p1;replace q1:=eq_true q1;replace q2:=eq_true q2;have G0:=am g0;have J0:=am j0;clear g0 j0;have G1:=am g1;have J1:=am j1;clear g1 j1;have G2:=am g2;have J2:=am j2;clear g2 j2;have G3:=am g3;have J3:=am j3;clear g3 j3;have G4:=am g4;have J4:=am j4;clear g4 j4;have G5:=am g5;have J5:=am j5;clear g5 j5
    try go_wp2
    replace HB:=am (below_drew1 HB.out);refine sta 10 (hca (cb HB G0.out) (hca (cb HB G1.out) (hca (cb HB G2.out) (hca (cb HB G3.out) (hca (cb HB G4.out) (hca (cb HB G5.out) (hca (cb HB J0.out) (hca (cb HB J1.out) (hca (cb HB J2.out) (hca (cb HB J3.out) (hca (cb HB J4.out) (hc (cb HB J5.out))))))))))))) (fun hHeld=>?_);refine with_tabW (show rtab .any (opsOf Tryz.f36 6)=laws_eqT from by kernel_rfl) (show waitsOk laws_eqT.2 laws_eqB=true from by kernel_rfl) (fun HT_ HW_=>?_)
    generalize wr.drew=wa at HB hHeld ⊢
    refine pz3 0 ?_;refine pz3 4 ?_;refine ta 3 ?_;refine ta 7 ?_;refine oA 8 25 HT_ (fun K hK=>?_);refine gA Tryz.func92 #[.agg #[.int .i64 (rd_T118 l0 x5).f0,.string (rd_T118 l0 x5).f1,.string (rd_T118 l0 x5).f2,.int .i64 (rd_T118 l0 x5).f3,.string (rd_T118 l0 x5).f4,.int .i64 (rd_T118 l0 x5).f5],.agg #[.int .i64 (rd_T118 l1 x5).f0,.string (rd_T118 l1 x5).f1,.string (rd_T118 l1 x5).f2,.int .i64 (rd_T118 l1 x5).f3,.string (rd_T118 l1 x5).f4,.int .i64 (rd_T118 l1 x5).f5]] ?_;(with_reducible refine (laws_eqDiff.calls ((rd_T118 l0 x5).f0) ((rd_T118 l0 x5).f1) ((rd_T118 l0 x5).f2) ((rd_T118 l0 x5).f3) ((rd_T118 l0 x5).f4) ((rd_T118 l0 x5).f5) ((rd_T118 l1 x5).f0) ((rd_T118 l1 x5).f1) ((rd_T118 l1 x5).f2) ((rd_T118 l1 x5).f3) ((rd_T118 l1 x5).f4) ((rd_T118 l1 x5).f5) t _ A7.out).mono ?_);rintro e wb ⟨rfl,hb⟩;refine ⟨_,rfl,?_⟩;replace HB:=bq HB hb;clear hb;refine hK.out _ _ (hca (cb HB G0.out) (hca (cb HB G1.out) (hca (cb HB G2.out) (hca (cb HB G3.out) (hca (cb HB G4.out) (hca (cb HB G5.out) (hca (cb HB J0.out) (hca (cb HB J1.out) (hca (cb HB J2.out) (hca (cb HB J3.out) (hca (cb HB J4.out) (hc (cb HB J5.out))))))))))))).out (fun hHeld=>?_);clear hK K;refine nA 25 ?_;refine pz1 9 ?_;refine done_ (done_of HT_.out (by kernel_rfl)) ?_;clear HT_ HW_ hHeld
    obtain rfl|rfl:=bt t;rotate_left
    ·replace H:=itF H;cases H
    replace H:=itT H;have H':=am H;clear H
    try go_wp2
    go_roundg k1
    case measure=>have:=HK1.out;omega
    case rel=>exact ⟨wrap64 (x5+1),fg,H',⟨by have:=HK1.out;omega⟩,⟨bs HB⟩⟩
   ·intro c4b0 H;obtain rfl:=si H
    go_wp2
    go_ret
    exact ⟨ff,bs HB⟩
theorem laws_eqOut.calls (a0_0:ByteArray) (a0_1:Int) (a0_2:ByteArray) (a0_3:Int) (a0_4:Int) (a1_0:ByteArray) (a1_1:Int) (a1_2:ByteArray) (a1_3:Int) (a1_4:Int) (r:Bool) (w:World) (H:laws_eqOut.f a0_0 a0_1 a0_2 a0_3 a0_4 a1_0 a1_1 a1_2 a1_3 a1_4=some r) :
  Calls Tryz.prog 93 #[.agg #[.string a0_0,.int .i64 a0_1,.string a0_2,.int .i64 a0_3,.int .i64 a0_4],.agg #[.string a1_0,.int .i64 a1_1,.string a1_2,.int .i64 a1_3,.int .i64 a1_4]] w fun e w'=>e=.returned (.bool r)∧Below w.heap.size w w':=by
 have hu:=Tryz.underlying120;have HB:=am (Below.refl w.heap.size w);unfold laws_eqOut.f at H
 go_in
 go_upto_region 1 with (first|((with_reducible refine gate_dst (N:=2) rfl ?_);refine bx 2 (cs:=#[.string a0_0,.int .i64 a0_1,.string a0_2,.int .i64 a0_3,.int .i64 a0_4]) (t:=120) ?_;intro g0 hg wa hbox hb;have B0:=am hbox;replace HB:=bq HB hb;clear hb hbox hg)|((with_reducible refine gate_dst (N:=3) rfl ?_);refine bx 3 (cs:=#[.string a1_0,.int .i64 a1_1,.string a1_2,.int .i64 a1_3,.int .i64 a1_4]) (t:=120) ?_;intro g1 hg wb hbox hb;have B1:=am hbox;replace HB:=bq HB hb;replace B0:=am (blk_below (ks B0) hb);clear hb hbox hg;have z0:=cf5 B0;have z1:=cf5 B1))
 revert H;refine ie1 ?_
 intro c0b0 c0b1 H
 go_upto_region 3 with (fail)
 revert H;refine ie1 ?_
 intro c1b0 c1b1 H
 go_upto_region 5 with (fail)
 revert H;refine ie1 ?_
 intro c2b0 c2b1 H
 go_upto_region 7 with (fail)
 revert H;refine ie1 ?_
 intro c3b0 c3b1 H
 go_upto_region 9 with (fail)
 revert H;refine ie1 ?_
 intro c4b0 c4b1 H;obtain rfl:=si H
 go_wp2
 go_ret
 exact ⟨ff,bs HB⟩
theorem laws_eqOutS.calls (k:Nat) (A0:Option Addr) (c0:Nat) (l0:List (S120)) (A1:Option Addr) (c1:Nat) (l1:List (S120)) (r:Bool) (w:World) (hr0:Kd.C k120 w A0 l0.length l0) (hc0:l0.length≤c0) (hr1:Kd.C k120 w A1 l1.length l1) (hc1:l1.length≤c1) (H:laws_eqOutS.f k l0 l1=some r) :
  Calls Tryz.prog 37 #[.slice A0 l0.length c0,.slice A1 l1.length c1] w fun e w'=>e=.returned (.bool r)∧Below w.heap.size w w':=by
 have hu:=Tryz.underlying120;have HR0:=am hr0;have HR1:=am hr1;clear hr0 hc0 hr1 hc1;have HB:=am (Below.refl w.heap.size w);unfold laws_eqOutS.f at H
 go_in
 revert H;refine ie1k ?_
 intro c3 c3b0 c3b1 H
 have c3b2:(l0.length == l1.length)=true:=by first|simpa using c3|(simp at c3 ⊢;omega)
 clear c3;have H':=am H;clear H
 go_wp2
 go_loopg [5] k (fun kq v5 w'=>∃ (x5:Int),v5=.int .i64 x5∧Aside0 (laws_eqOutS.l0 kq l0 l1 x5=some r)∧Aside0 (kq≤k)∧Aside0 (Below w.heap.size w w'))
 case atStart=>exact ⟨0,fg,H',⟨Nat.le_refl _⟩,⟨bs HB⟩⟩
 case round =>
  clear H';(try clear c3b0);(try clear c3b1);(try clear c3b2);obtain ⟨x5,rfl,HA,HK1,HB⟩:=hrel
  cases gk with
  | zero=>exact absurd HA.out (by simp [laws_eqOutS.l0])
  | succ k1 =>
   have H:=HA.out;clear HA;simp only [laws_eqOutS.l0] at H
   revert H;refine id2 ?_ ?_
   ·intro c4b0 H;revert H;refine id1 ?_;intro c5b0 H;revert H;refine id1 ?_;intro c6b0 H;replace H:=bo H;obtain ⟨t,A7,H⟩:=H;have p1:0≤(x5:Int):=oa;have q1:x5<(l0.length:Int):=oa;have q2:x5<(l1.length:Int):=oa;obtain ⟨ad,ea,g0,g1,g2,g3,g4⟩:=at_T120 HR0.out x5 p1 q1;obtain ⟨ae,ee,j0,j1,j2,j3,j4⟩:=at_T120 HR1.out x5 p1 q2;cases ea;cases ee;replace p1:=eq_true p1;replace q1:=eq_true q1;replace q2:=eq_true q2;have G0:=am g0;have J0:=am j0;clear g0 j0;have G1:=am g1;have J1:=am j1;clear g1 j1;have G2:=am g2;have J2:=am j2;clear g2 j2;have G3:=am g3;have J3:=am j3;clear g3 j3;have G4:=am g4;have J4:=am j4;clear g4 j4
    try go_wp2
    replace HB:=am (below_drew1 HB.out);refine sta 10 (hca (cb HB G0.out) (hca (cb HB G1.out) (hca (cb HB G2.out) (hca (cb HB G3.out) (hca (cb HB G4.out) (hca (cb HB J0.out) (hca (cb HB J1.out) (hca (cb HB J2.out) (hca (cb HB J3.out) (hc (cb HB J4.out))))))))))) (fun hHeld=>?_);refine with_tabW (show rtab .any (opsOf Tryz.f37 6)=laws_eqT from by kernel_rfl) (show waitsOk laws_eqT.2 laws_eqB=true from by kernel_rfl) (fun HT_ HW_=>?_)
    generalize wr.drew=wa at HB hHeld ⊢
    refine pz3 0 ?_;refine pz3 4 ?_;refine ta 3 ?_;refine ta 7 ?_;refine oA 8 25 HT_ (fun K hK=>?_);refine gA Tryz.func93 #[.agg #[.string (rd_T120 l0 x5).f0,.int .i64 (rd_T120 l0 x5).f1,.string (rd_T120 l0 x5).f2,.int .i64 (rd_T120 l0 x5).f3,.int .i64 (rd_T120 l0 x5).f4],.agg #[.string (rd_T120 l1 x5).f0,.int .i64 (rd_T120 l1 x5).f1,.string (rd_T120 l1 x5).f2,.int .i64 (rd_T120 l1 x5).f3,.int .i64 (rd_T120 l1 x5).f4]] ?_;(with_reducible refine (laws_eqOut.calls ((rd_T120 l0 x5).f0) ((rd_T120 l0 x5).f1) ((rd_T120 l0 x5).f2) ((rd_T120 l0 x5).f3) ((rd_T120 l0 x5).f4) ((rd_T120 l1 x5).f0) ((rd_T120 l1 x5).f1) ((rd_T120 l1 x5).f2) ((rd_T120 l1 x5).f3) ((rd_T120 l1 x5).f4) t _ A7.out).mono ?_);rintro e wb ⟨rfl,hb⟩;refine ⟨_,rfl,?_⟩;replace HB:=bq HB hb;clear hb;refine hK.out _ _ (hca (cb HB G0.out) (hca (cb HB G1.out) (hca (cb HB G2.out) (hca (cb HB G3.out) (hca (cb HB G4.out) (hca (cb HB J0.out) (hca (cb HB J1.out) (hca (cb HB J2.out) (hca (cb HB J3.out) (hc (cb HB J4.out))))))))))).out (fun hHeld=>?_);clear hK K;refine nA 25 ?_;refine pz1 9 ?_;refine done_ (done_of HT_.out (by kernel_rfl)) ?_;clear HT_ HW_ hHeld
    obtain rfl|rfl:=bt t;rotate_left
    ·replace H:=itF H;cases H
    replace H:=itT H;have H':=am H;clear H
    try go_wp2
    go_roundg k1
    case measure=>have:=HK1.out;omega
    case rel=>exact ⟨wrap64 (x5+1),fg,H',⟨by have:=HK1.out;omega⟩,⟨bs HB⟩⟩
   ·intro c4b0 H;obtain rfl:=si H
    go_wp2
    go_ret
    exact ⟨ff,bs HB⟩
theorem laws_eqGate.calls (k:Nat) (a0_0:ByteArray) (a0_1:Int) (A0_2:Option Addr) (c0_2:Nat) (l0_2:List (S83)) (A0_3:Option Addr) (c0_3:Nat) (l0_3:List (S114)) (A0_4:Option Addr) (c0_4:Nat) (l0_4:List (S152)) (A0_5:Option Addr) (c0_5:Nat) (l0_5:List (S161)) (A0_6:Option Addr) (c0_6:Nat) (l0_6:List (S118)) (A0_7:Option Addr) (c0_7:Nat) (l0_7:List (S120)) (a1_0:ByteArray) (a1_1:Int) (A1_2:Option Addr) (c1_2:Nat) (l1_2:List (S83)) (A1_3:Option Addr) (c1_3:Nat) (l1_3:List (S114)) (A1_4:Option Addr) (c1_4:Nat) (l1_4:List (S152)) (A1_5:Option Addr) (c1_5:Nat) (l1_5:List (S161)) (A1_6:Option Addr) (c1_6:Nat) (l1_6:List (S118)) (A1_7:Option Addr) (c1_7:Nat) (l1_7:List (S120)) (r:Bool) (w:World) (hr0_2:Kd.C k83 w A0_2 l0_2.length l0_2) (hc0_2:l0_2.length≤c0_2) (hr0_3:Kd.C k114 w A0_3 l0_3.length l0_3) (hc0_3:l0_3.length≤c0_3) (hr0_4:Kd.C k152 w A0_4 l0_4.length l0_4) (hc0_4:l0_4.length≤c0_4) (hr0_5:Kd.C k161 w A0_5 l0_5.length l0_5) (hc0_5:l0_5.length≤c0_5) (hr0_6:Kd.C k118 w A0_6 l0_6.length l0_6) (hc0_6:l0_6.length≤c0_6) (hr0_7:Kd.C k120 w A0_7 l0_7.length l0_7) (hc0_7:l0_7.length≤c0_7) (hr1_2:Kd.C k83 w A1_2 l1_2.length l1_2) (hc1_2:l1_2.length≤c1_2) (hr1_3:Kd.C k114 w A1_3 l1_3.length l1_3) (hc1_3:l1_3.length≤c1_3) (hr1_4:Kd.C k152 w A1_4 l1_4.length l1_4) (hc1_4:l1_4.length≤c1_4) (hr1_5:Kd.C k161 w A1_5 l1_5.length l1_5) (hc1_5:l1_5.length≤c1_5) (hr1_6:Kd.C k118 w A1_6 l1_6.length l1_6) (hc1_6:l1_6.length≤c1_6) (hr1_7:Kd.C k120 w A1_7 l1_7.length l1_7) (hc1_7:l1_7.length≤c1_7) (H:laws_eqGate.f k a0_0 a0_1 l0_2 l0_3 l0_4 l0_5 l0_6 l0_7 a1_0 a1_1 l1_2 l1_3 l1_4 l1_5 l1_6 l1_7=some r) :
  Calls Tryz.prog 9 #[.agg #[.string a0_0,.int .i64 a0_1,.slice A0_2 l0_2.length c0_2,.slice A0_3 l0_3.length c0_3,.slice A0_4 l0_4.length c0_4,.slice A0_5 l0_5.length c0_5,.slice A0_6 l0_6.length c0_6,.slice A0_7 l0_7.length c0_7],.agg #[.string a1_0,.int .i64 a1_1,.slice A1_2 l1_2.length c1_2,.slice A1_3 l1_3.length c1_3,.slice A1_4 l1_4.length c1_4,.slice A1_5 l1_5.length c1_5,.slice A1_6 l1_6.length c1_6,.slice A1_7 l1_7.length c1_7]] w fun e w'=>e=.returned (.bool r)∧Below w.heap.size w w':=by
 have hu42:=Tryz.underlying42;have hu38:=Tryz.underlying38;have HR0_2:=am hr0_2;have HC0_2:=am hc0_2;clear hr0_2 hc0_2;have HR0_3:=am hr0_3;have HC0_3:=am hc0_3;clear hr0_3 hc0_3;have HR0_4:=am hr0_4;have HC0_4:=am hc0_4;clear hr0_4 hc0_4;have HR0_5:=am hr0_5;have HC0_5:=am hc0_5;clear hr0_5 hc0_5;have HR0_6:=am hr0_6;have HC0_6:=am hc0_6;clear hr0_6 hc0_6;have HR0_7:=am hr0_7;have HC0_7:=am hc0_7;clear hr0_7 hc0_7;have HR1_2:=am hr1_2;have HC1_2:=am hc1_2;clear hr1_2 hc1_2;have HR1_3:=am hr1_3;have HC1_3:=am hc1_3;clear hr1_3 hc1_3;have HR1_4:=am hr1_4;have HC1_4:=am hc1_4;clear hr1_4 hc1_4;have HR1_5:=am hr1_5;have HC1_5:=am hc1_5;clear hr1_5 hc1_5;have HR1_6:=am hr1_6;have HC1_6:=am hc1_6;clear hr1_6 hc1_6;have HR1_7:=am hr1_7;have HC1_7:=am hc1_7;clear hr1_7 hc1_7;have HB:=am (Below.refl w.heap.size w);unfold laws_eqGate.f at H
 revert H;refine ie2 ?_ ?_
 ·intro c3b0 c3b1 H
  revert H;refine ie2 ?_ ?_
  ·intro c4b0 c4b1 H;replace H:=bo H;obtain ⟨t24,A5,H⟩:=H
   go_in
   try go_wp2_with (first|((with_reducible refine gate_dst (N:=2) rfl ?_);refine bz 2 (cs:=#[.string a0_0,.int .i64 a0_1,.slice A0_2 l0_2.length c0_2,.slice A0_3 l0_3.length c0_3,.slice A0_4 l0_4.length c0_4,.slice A0_5 l0_5.length c0_5,.slice A0_6 l0_6.length c0_6,.slice A0_7 l0_7.length c0_7]) (t:=42) HB ?_;clear HB;intro gb12 hg w6 BK12 GW12 hb HB;clear hb hg)|((with_reducible refine gate_dst (N:=3) rfl ?_);refine bz 3 (cs:=#[.string a1_0,.int .i64 a1_1,.slice A1_2 l1_2.length c1_2,.slice A1_3 l1_3.length c1_3,.slice A1_4 l1_4.length c1_4,.slice A1_5 l1_5.length c1_5,.slice A1_6 l1_6.length c1_6,.slice A1_7 l1_7.length c1_7]) (t:=42) HB ?_;clear HB;intro gb18 hg w7 BK18 GW18 hb HB;have NB12_18:=na hg BK12;have NB18_12:=nc hg BK12;replace BK12:=bb BK12 hb;clear hb hg;have hnb8:=NB12_18.out;have hnc8:=NB18_12.out;have hcz9:=cf8 BK12;have hcz10:=cf8 BK18))
   go_at_call 33;(with_reducible refine (laws_eqPartnerS.calls k _ _ l0_2 _ _ l1_2 t24 _ (Kd.C_below HR0_2.out (bs HB)) HC0_2.out (Kd.C_below HR1_2.out (bs HB)) HC1_2.out A5.out).mono ?_);rintro e w11 ⟨rfl,hb⟩;replace BK12:=bb BK12 hb;replace BK18:=bb BK18 hb;replace HB:=bq HB hb;(try clear hb);(try clear hb2);(try clear hk);(try clear hi)
   obtain rfl|rfl:=bt t24
   ·replace H:=itT H;replace H:=bo H;obtain ⟨t30,A13,H⟩:=H;have hnb14:=NB12_18.out;have hnc14:=NB18_12.out;have hcz15:=cf8 BK12;have hcz16:=cf8 BK18
    try go_wp2_with (fail)
    go_at_call 34;(with_reducible refine (laws_eqCrossS.calls k _ _ l0_3 _ _ l1_3 t30 _ (Kd.C_below HR0_3.out (bs HB)) HC0_3.out (Kd.C_below HR1_3.out (bs HB)) HC1_3.out A13.out).mono ?_);rintro e w17 ⟨rfl,hb⟩;replace BK12:=bb BK12 hb;replace BK18:=bb BK18 hb;replace HB:=bq HB hb;(try clear hb);(try clear hb2);(try clear hk);(try clear hi)
    obtain rfl|rfl:=bt t30
    ·replace H:=itT H;replace H:=bo H;obtain ⟨t47,A19,H⟩:=H;have hnb20:=NB12_18.out;have hnc20:=NB18_12.out;have hcz21:=cf8 BK12;have hcz22:=cf8 BK18
     try go_wp2_with (fail)
     go_at_call 35;(with_reducible refine (laws_eqBook.calls k _ _ l0_4 _ _ l0_5 _ _ l1_4 _ _ l1_5 t47 _ (Kd.C_below HR0_4.out (bs HB)) HC0_4.out (Kd.C_below HR0_5.out (bs HB)) HC0_5.out (Kd.C_below HR1_4.out (bs HB)) HC1_4.out (Kd.C_below HR1_5.out (bs HB)) HC1_5.out A19.out).mono ?_);rintro e w23 ⟨rfl,hb⟩;replace BK12:=bb BK12 hb;replace BK18:=bb BK18 hb;replace HB:=bq HB hb;(try clear hb);(try clear hb2);(try clear hk);(try clear hi)
     obtain rfl|rfl:=bt t47
     ·replace H:=itT H;replace H:=bo H;obtain ⟨t48,A25,H⟩:=H;have hnb26:=NB12_18.out;have hnc26:=NB18_12.out;have hcz27:=cf8 BK12;have hcz28:=cf8 BK18
      try go_wp2_with (fail)
      go_at_call 36;(with_reducible refine (laws_eqDiffS.calls k _ _ l0_6 _ _ l1_6 t48 _ (Kd.C_below HR0_6.out (bs HB)) HC0_6.out (Kd.C_below HR1_6.out (bs HB)) HC1_6.out A25.out).mono ?_);rintro e w29 ⟨rfl,hb⟩;replace BK12:=bb BK12 hb;replace BK18:=bb BK18 hb;replace HB:=bq HB hb;(try clear hb);(try clear hb2);(try clear hk);(try clear hi)
      obtain rfl|rfl:=bt t48
      ·replace H:=itT H;replace H:=bo H;obtain ⟨t49,A31,H⟩:=H;have hnb32:=NB12_18.out;have hnc32:=NB18_12.out;have hcz33:=cf8 BK12;have hcz34:=cf8 BK18
       try go_wp2_with (fail)
       go_at_call 37;(with_reducible refine (laws_eqOutS.calls k _ _ l0_7 _ _ l1_7 t49 _ (Kd.C_below HR0_7.out (bs HB)) HC0_7.out (Kd.C_below HR1_7.out (bs HB)) HC1_7.out A31.out).mono ?_);rintro e w35 ⟨rfl,hb⟩;replace BK12:=bb BK12 hb;replace BK18:=bb BK18 hb;replace HB:=bq HB hb;(try clear hb);(try clear hb2);(try clear hk);(try clear hi)
       obtain rfl|rfl:=bt t49
       ·replace H:=itT H;obtain rfl:=si H
        go_wp2
        go_ret
        exact ⟨ff,bs HB⟩
       ·replace H:=itF H;obtain rfl:=si H
        go_wp2
        go_ret
        exact ⟨ff,bs HB⟩
      ·replace H:=itF H;obtain rfl:=si H
       go_wp2
       go_ret
       exact ⟨ff,bs HB⟩
     ·replace H:=itF H;obtain rfl:=si H
      go_wp2
      go_ret
      exact ⟨ff,bs HB⟩
    ·replace H:=itF H;obtain rfl:=si H
     go_wp2
     go_ret
     exact ⟨ff,bs HB⟩
   ·replace H:=itF H;obtain rfl:=si H
    go_wp2
    go_ret
    exact ⟨ff,bs HB⟩
  ·intro c4 c4b0 c4b1 H;obtain rfl:=si H
   go_in
   go_wp2_with (first|((with_reducible refine gate_dst (N:=2) rfl ?_);refine bz 2 (cs:=#[.string a0_0,.int .i64 a0_1,.slice A0_2 l0_2.length c0_2,.slice A0_3 l0_3.length c0_3,.slice A0_4 l0_4.length c0_4,.slice A0_5 l0_5.length c0_5,.slice A0_6 l0_6.length c0_6,.slice A0_7 l0_7.length c0_7]) (t:=42) HB ?_;clear HB;intro gb12 hg w37 BK12 GW12 hb HB;clear hb hg)|((with_reducible refine gate_dst (N:=3) rfl ?_);refine bz 3 (cs:=#[.string a1_0,.int .i64 a1_1,.slice A1_2 l1_2.length c1_2,.slice A1_3 l1_3.length c1_3,.slice A1_4 l1_4.length c1_4,.slice A1_5 l1_5.length c1_5,.slice A1_6 l1_6.length c1_6,.slice A1_7 l1_7.length c1_7]) (t:=42) HB ?_;clear HB;intro gb18 hg w38 BK18 GW18 hb HB;have NB12_18:=na hg BK12;have NB18_12:=nc hg BK12;replace BK12:=bb BK12 hb;clear hb hg;have hnb39:=NB12_18.out;have hnc39:=NB18_12.out;have hcz40:=cf8 BK12;have hcz41:=cf8 BK18))
   go_ret
   exact ⟨ff,bs HB⟩
 ·intro c3 c3b0 c3b1 H;obtain rfl:=si H
  go_in
  go_wp2_with (first|((with_reducible refine gate_dst (N:=2) rfl ?_);refine bz 2 (cs:=#[.string a0_0,.int .i64 a0_1,.slice A0_2 l0_2.length c0_2,.slice A0_3 l0_3.length c0_3,.slice A0_4 l0_4.length c0_4,.slice A0_5 l0_5.length c0_5,.slice A0_6 l0_6.length c0_6,.slice A0_7 l0_7.length c0_7]) (t:=42) HB ?_;clear HB;intro gb12 hg w42 BK12 GW12 hb HB;clear hb hg)|((with_reducible refine gate_dst (N:=3) rfl ?_);refine bz 3 (cs:=#[.string a1_0,.int .i64 a1_1,.slice A1_2 l1_2.length c1_2,.slice A1_3 l1_3.length c1_3,.slice A1_4 l1_4.length c1_4,.slice A1_5 l1_5.length c1_5,.slice A1_6 l1_6.length c1_6,.slice A1_7 l1_7.length c1_7]) (t:=42) HB ?_;clear HB;intro gb18 hg w43 BK18 GW18 hb HB;have NB12_18:=na hg BK12;have NB18_12:=nc hg BK12;replace BK12:=bb BK12 hb;clear hb hg;have hnb44:=NB12_18.out;have hnc44:=NB18_12.out;have hcz45:=cf8 BK12;have hcz46:=cf8 BK18))
  go_ret
  exact ⟨ff,bs HB⟩
theorem laws_eqGateOut.calls (k:Nat) (a0_0:ByteArray) (a0_1:Int) (A0_2:Option Addr) (c0_2:Nat) (l0_2:List (S83)) (A0_3:Option Addr) (c0_3:Nat) (l0_3:List (S114)) (A0_4:Option Addr) (c0_4:Nat) (l0_4:List (S152)) (A0_5:Option Addr) (c0_5:Nat) (l0_5:List (S161)) (A0_6:Option Addr) (c0_6:Nat) (l0_6:List (S118)) (A0_7:Option Addr) (c0_7:Nat) (l0_7:List (S120)) (a0_8:ByteArray) (a0_9:Int) (a0_10:Int) (a0_11:Int) (a0_12:Int) (a0_13:Int) (a1_0:ByteArray) (a1_1:Int) (A1_2:Option Addr) (c1_2:Nat) (l1_2:List (S83)) (A1_3:Option Addr) (c1_3:Nat) (l1_3:List (S114)) (A1_4:Option Addr) (c1_4:Nat) (l1_4:List (S152)) (A1_5:Option Addr) (c1_5:Nat) (l1_5:List (S161)) (A1_6:Option Addr) (c1_6:Nat) (l1_6:List (S118)) (A1_7:Option Addr) (c1_7:Nat) (l1_7:List (S120)) (a1_8:ByteArray) (a1_9:Int) (a1_10:Int) (a1_11:Int) (a1_12:Int) (a1_13:Int) (r:Bool) (w:World) (hr0_2:Kd.C k83 w A0_2 l0_2.length l0_2) (hc0_2:l0_2.length≤c0_2) (hr0_3:Kd.C k114 w A0_3 l0_3.length l0_3) (hc0_3:l0_3.length≤c0_3) (hr0_4:Kd.C k152 w A0_4 l0_4.length l0_4) (hc0_4:l0_4.length≤c0_4) (hr0_5:Kd.C k161 w A0_5 l0_5.length l0_5) (hc0_5:l0_5.length≤c0_5) (hr0_6:Kd.C k118 w A0_6 l0_6.length l0_6) (hc0_6:l0_6.length≤c0_6) (hr0_7:Kd.C k120 w A0_7 l0_7.length l0_7) (hc0_7:l0_7.length≤c0_7) (hr1_2:Kd.C k83 w A1_2 l1_2.length l1_2) (hc1_2:l1_2.length≤c1_2) (hr1_3:Kd.C k114 w A1_3 l1_3.length l1_3) (hc1_3:l1_3.length≤c1_3) (hr1_4:Kd.C k152 w A1_4 l1_4.length l1_4) (hc1_4:l1_4.length≤c1_4) (hr1_5:Kd.C k161 w A1_5 l1_5.length l1_5) (hc1_5:l1_5.length≤c1_5) (hr1_6:Kd.C k118 w A1_6 l1_6.length l1_6) (hc1_6:l1_6.length≤c1_6) (hr1_7:Kd.C k120 w A1_7 l1_7.length l1_7) (hc1_7:l1_7.length≤c1_7) (H:laws_eqGateOut.f k a0_0 a0_1 l0_2 l0_3 l0_4 l0_5 l0_6 l0_7 a0_8 a0_9 a0_10 a0_11 a0_12 a0_13 a1_0 a1_1 l1_2 l1_3 l1_4 l1_5 l1_6 l1_7 a1_8 a1_9 a1_10 a1_11 a1_12 a1_13=some r) :
  Calls Tryz.prog 14 #[.agg #[.string a0_0,.int .i64 a0_1,.slice A0_2 l0_2.length c0_2,.slice A0_3 l0_3.length c0_3,.slice A0_4 l0_4.length c0_4,.slice A0_5 l0_5.length c0_5,.slice A0_6 l0_6.length c0_6,.slice A0_7 l0_7.length c0_7,.string a0_8,.int .i64 a0_9,.int .i64 a0_10,.int .i64 a0_11,.int .i64 a0_12,.int .i64 a0_13],.agg #[.string a1_0,.int .i64 a1_1,.slice A1_2 l1_2.length c1_2,.slice A1_3 l1_3.length c1_3,.slice A1_4 l1_4.length c1_4,.slice A1_5 l1_5.length c1_5,.slice A1_6 l1_6.length c1_6,.slice A1_7 l1_7.length c1_7,.string a1_8,.int .i64 a1_9,.int .i64 a1_10,.int .i64 a1_11,.int .i64 a1_12,.int .i64 a1_13]] w fun e w'=>e=.returned (.bool r)∧Below w.heap.size w w':=by
 have hu49:=Tryz.underlying49;have hu42:=Tryz.underlying42;have HR0_2:=am hr0_2;have HC0_2:=am hc0_2;clear hr0_2 hc0_2;have HR0_3:=am hr0_3;have HC0_3:=am hc0_3;clear hr0_3 hc0_3;have HR0_4:=am hr0_4;have HC0_4:=am hc0_4;clear hr0_4 hc0_4;have HR0_5:=am hr0_5;have HC0_5:=am hc0_5;clear hr0_5 hc0_5;have HR0_6:=am hr0_6;have HC0_6:=am hc0_6;clear hr0_6 hc0_6;have HR0_7:=am hr0_7;have HC0_7:=am hc0_7;clear hr0_7 hc0_7;have HR1_2:=am hr1_2;have HC1_2:=am hc1_2;clear hr1_2 hc1_2;have HR1_3:=am hr1_3;have HC1_3:=am hc1_3;clear hr1_3 hc1_3;have HR1_4:=am hr1_4;have HC1_4:=am hc1_4;clear hr1_4 hc1_4;have HR1_5:=am hr1_5;have HC1_5:=am hc1_5;clear hr1_5 hc1_5;have HR1_6:=am hr1_6;have HC1_6:=am hc1_6;clear hr1_6 hc1_6;have HR1_7:=am hr1_7;have HC1_7:=am hc1_7;clear hr1_7 hc1_7;have HB:=am (Below.refl w.heap.size w);unfold laws_eqGateOut.f at H;replace H:=bo H;obtain ⟨t40,A3,H⟩:=H
 go_in
 try go_wp2_with (first|((with_reducible refine gate_dst (N:=2) rfl ?_);refine bz 2 (cs:=#[.string a0_0,.int .i64 a0_1,.slice A0_2 l0_2.length c0_2,.slice A0_3 l0_3.length c0_3,.slice A0_4 l0_4.length c0_4,.slice A0_5 l0_5.length c0_5,.slice A0_6 l0_6.length c0_6,.slice A0_7 l0_7.length c0_7,.string a0_8,.int .i64 a0_9,.int .i64 a0_10,.int .i64 a0_11,.int .i64 a0_12,.int .i64 a0_13]) (t:=49) HB ?_;clear HB;intro gb38 hg w4 BK38 GW38 hb HB;clear hb hg)|((with_reducible refine gate_dst (N:=3) rfl ?_);refine bz 3 (cs:=#[.string a1_0,.int .i64 a1_1,.slice A1_2 l1_2.length c1_2,.slice A1_3 l1_3.length c1_3,.slice A1_4 l1_4.length c1_4,.slice A1_5 l1_5.length c1_5,.slice A1_6 l1_6.length c1_6,.slice A1_7 l1_7.length c1_7,.string a1_8,.int .i64 a1_9,.int .i64 a1_10,.int .i64 a1_11,.int .i64 a1_12,.int .i64 a1_13]) (t:=49) HB ?_;clear HB;intro gb39 hg w5 BK39 GW39 hb HB;have NB38_39:=na hg BK38;have NB39_38:=nc hg BK38;replace BK38:=bb BK38 hb;clear hb hg;have hnb6:=NB38_39.out;have hnc6:=NB39_38.out;have hcz7:=cf14 BK38;have hcz8:=cf14 BK39))
 go_at_call 9;(with_reducible refine (laws_eqGate.calls k a0_0 a0_1 _ _ l0_2 _ _ l0_3 _ _ l0_4 _ _ l0_5 _ _ l0_6 _ _ l0_7 a1_0 a1_1 _ _ l1_2 _ _ l1_3 _ _ l1_4 _ _ l1_5 _ _ l1_6 _ _ l1_7 t40 _ (Kd.C_below HR0_2.out (bs HB)) HC0_2.out (Kd.C_below HR0_3.out (bs HB)) HC0_3.out (Kd.C_below HR0_4.out (bs HB)) HC0_4.out (Kd.C_below HR0_5.out (bs HB)) HC0_5.out (Kd.C_below HR0_6.out (bs HB)) HC0_6.out (Kd.C_below HR0_7.out (bs HB)) HC0_7.out (Kd.C_below HR1_2.out (bs HB)) HC1_2.out (Kd.C_below HR1_3.out (bs HB)) HC1_3.out (Kd.C_below HR1_4.out (bs HB)) HC1_4.out (Kd.C_below HR1_5.out (bs HB)) HC1_5.out (Kd.C_below HR1_6.out (bs HB)) HC1_6.out (Kd.C_below HR1_7.out (bs HB)) HC1_7.out A3.out).mono ?_);rintro e w9 ⟨rfl,hb⟩;replace BK38:=bb BK38 hb;replace BK39:=bb BK39 hb;replace HB:=bq HB hb;(try clear hb);(try clear hb2);(try clear hk);(try clear hi)
 obtain rfl|rfl:=bt t40
 ·replace H:=itT H
  revert H;refine ie2 ?_ ?_
  ·intro c11b0 c11b1 H
   revert H;refine ie2 ?_ ?_
   ·intro c12b0 c12b1 H
    revert H;refine ie2 ?_ ?_
    ·intro c13b0 c13b1 H
     revert H;refine ie2 ?_ ?_
     ·intro c14b0 c14b1 H
      revert H;refine ie2 ?_ ?_
      ·intro c15b0 c15b1 H
       revert H;refine ie2 ?_ ?_
       ·intro c16b0 c16b1 H;obtain rfl:=si H;have hnb17:=NB38_39.out;have hnc17:=NB39_38.out;have hcz18:=cf14 BK38;have hcz19:=cf14 BK39
        go_wp2
        go_ret
        exact ⟨ff,bs HB⟩
       ·intro c16 c16b0 c16b1 H;obtain rfl:=si H;have hnb20:=NB38_39.out;have hnc20:=NB39_38.out;have hcz21:=cf14 BK38;have hcz22:=cf14 BK39
        go_wp2
        go_ret
        exact ⟨ff,bs HB⟩
      ·intro c15 c15b0 c15b1 H;obtain rfl:=si H;have hnb23:=NB38_39.out;have hnc23:=NB39_38.out;have hcz24:=cf14 BK38;have hcz25:=cf14 BK39
       go_wp2
       go_ret
       exact ⟨ff,bs HB⟩
     ·intro c14 c14b0 c14b1 H;obtain rfl:=si H;have hnb26:=NB38_39.out;have hnc26:=NB39_38.out;have hcz27:=cf14 BK38;have hcz28:=cf14 BK39
      go_wp2
      go_ret
      exact ⟨ff,bs HB⟩
    ·intro c13 c13b0 c13b1 H;obtain rfl:=si H;have hnb29:=NB38_39.out;have hnc29:=NB39_38.out;have hcz30:=cf14 BK38;have hcz31:=cf14 BK39
     go_wp2
     go_ret
     exact ⟨ff,bs HB⟩
   ·intro c12 c12b0 c12b1 H;obtain rfl:=si H;have hnb32:=NB38_39.out;have hnc32:=NB39_38.out;have hcz33:=cf14 BK38;have hcz34:=cf14 BK39
    go_wp2
    go_ret
    exact ⟨ff,bs HB⟩
  ·intro c11 c11b0 c11b1 H;obtain rfl:=si H;have hnb35:=NB38_39.out;have hnc35:=NB39_38.out;have hcz36:=cf14 BK38;have hcz37:=cf14 BK39
   go_wp2
   go_ret
   exact ⟨ff,bs HB⟩
 ·replace H:=itF H;obtain rfl:=si H
  go_wp2
  go_ret
  exact ⟨ff,bs HB⟩
theorem laws_markText.calls (k:Nat) (a0:Int) (r:ByteArray) (w:World) (H:laws_markText.f k a0=some r) :
  Calls Tryz.prog 94 #[.int .i64 a0] w fun e w'=>e=.returned (.string r)∧Below w.heap.size w w':=by
 have HB:=am (Below.refl w.heap.size w);unfold laws_markText.f at H
 revert H;refine id2 ?_ ?_
 ·intro c2b0 H;obtain rfl:=si H
  go_in
  go_wp2
  go_ret
  exact ⟨ff,bs HB⟩
 ·intro c2b0 H;have H':=am H;clear H
  go_in
  go_wp2
  go_loopg [0,3] k (fun kq v0 v3 w'=>∃ (x0_1:Int) (x3_1:ByteArray),v0=.int .i64 x0_1∧v3=.string x3_1∧Aside0 (laws_markText.l0 kq x0_1 x3_1=some r)∧Aside0 (kq≤k)∧Aside0 (Below w.heap.size w w'))
  case atStart=>exact ⟨(a0),((⟨#[]⟩:ByteArray)),fg,fg,H',⟨Nat.le_refl _⟩,⟨bs HB⟩⟩
  case round =>
   clear H'
   try clear c2b0
   obtain ⟨x0_1,x3_1,rfl,rfl,HA,HK1,HB⟩:=hrel
   cases gk with
   | zero=>exact absurd HA.out (by simp [laws_markText.l0])
   | succ k1 =>
    have H:=HA.out;clear HA;simp only [laws_markText.l0] at H
    revert H;refine ip2 ?_ ?_
    ·intro c3 H;have c3b0:decide (0<x0_1)=true:=decide_eq_true c3;clear c3;obtain ⟨y11,hy11⟩:∃ y_:List Int,y_=(([(wrap64 (48+(Int.tmod x0_1 10))) % 256]:List Int)):=⟨_,rfl⟩
     replace H:(if (strOfNums y11).size+x3_1.size≤9223372036854775807 then (laws_markText.l0 k1 (wrap64 (Int.tdiv x0_1 10)) ((strOfNums y11)++x3_1)) else (none))=some r:=ye hy11 H
     have Ny11:=am hy11;clear hy11
     revert H;refine ip1 ?_
     intro c4 H;have c4b0:=eq_true c4;have c4b1:decide ((strOfNums y11).size+x3_1.size≤9223372036854775807)=true:=decide_eq_true c4
     try have c4b2:(9223372036854775807<(strOfNums y11).size+x3_1.size)=False:=eq_false (Nat.not_lt.2 c4)
     have H':=am H;clear H
     go_wp2_with (first|((with_reducible refine gate_dst (N:=12) rfl ?_);refine rl (Kd.int .u8) 5 (N:=12) (xs:=([(wrap64 (48+(Int.tmod x0_1 10))) % 256]:List Int)) (inner:=[.int .u8 ((wrap64 (48+(Int.tmod x0_1 10))) % 256)]) ?hp ?_;(case hp=>exact (Reps.one (show Kd.M (Kd.int .u8) _ _ _ ((wrap64 (48+(Int.tmod x0_1 10))) % 256) [.int .u8 ((wrap64 (48+(Int.tmod x0_1 10))) % 256)] from rfl) (Reps.none _ _)));intro v14 w5 ho6 hb hg_ hnew_;clear hg_ hnew_;(first|rw [← Ny11.out] at ho6|(simp only [Int.reduceToNat] at ho6;rw [← Ny11.out] at ho6));have HO13:=am (Kd.R_lower ho6 (below_size (bs HB)));replace HB:=bq HB hb;clear hb ho6;have hcv7:=own_string (P:=Tryz.prog) Tryz.underlying174 Tryz.underlying5 Tryz.underlying9 (Kd.own_of_R HO13.out)))
     go_roundg k1
     case measure=>have:=HK1.out;omega
     case rel=>exact ⟨(wrap64 (Int.tdiv x0_1 10)),((strOfNums y11)++x3_1),fg,fg,H',⟨by have:=HK1.out;omega⟩,⟨bs HB⟩⟩
    ·intro c3 H;have c3b0:decide (0<x0_1)=false:=decide_eq_false c3;clear c3
     revert H;refine ip2 ?_ ?_
     ·intro c8 H;have c8b0:=eq_true c8;have c8b1:decide (1+x3_1.size≤9223372036854775807)=true:=decide_eq_true c8
      try have c8b2:(9223372036854775807<1+x3_1.size)=False:=eq_false (Nat.not_lt.2 c8)
      obtain rfl:=si H
      go_wp2
      go_ret
      exact ⟨ff,bs HB⟩
     ·intro c8 H
      exact absurd H (by simp)
theorem laws_markSeenS.calls (k:Nat) (P0_:Nat→Prop) (u9000_:Value) (l0:List (S155)) (a1:Int) (r1:Int) (r2:List (S155)) (w0 w:World) (hB:Below w0.heap.size w0 w) (ho0:Kd.R k155 155 w w0.heap.size P0_ u9000_ l0) (h:laws_markSeenS.f k l0 a1=some (r1,r2)) :
  Calls Tryz.prog 95 #[u9000_,.int .i64 a1] w fun e w'=>e=.returned (.int .i64 r1)∧Kd.R k155 155 w' w0.heap.size (fun k_=>(P0_ k_∨w.heap.size≤k_)) u9000_ r2∧Below w0.heap.size w0 w'∧Kept w w' (fun k_=>P0_ k_):=by
 have HO:=am (show Kd.R k155 155 w w0.heap.size (fun k_=>(P0_ k_∨w.heap.size≤k_)) u9000_ l0 from Kd.R_mono ho0 (fun _ hk=>(.inl hk)));have HK:=am (Kept.refl w (fun k_=>P0_ k_));have HB:=am hB;have H':=am (show laws_markSeenS.l0 k l0 a1 0=some (r1,r2) from h);clear hB h
 go_in
 go_wp2
 go_loopg [1,5] k (fun kq v1 v5 w'=>∃ (x0:List (S155)) (x1:Int) (x5:Int),v1=.int .i64 x1∧v5=.int .i64 x5∧Aside0 (laws_markSeenS.l0 kq x0 x1 x5=some (r1,r2))∧Aside0 (kq≤k)∧Aside0 (Kd.R k155 155 w' w0.heap.size (fun k_=>(P0_ k_∨w.heap.size≤k_)) u9000_ x0)∧Aside0 (Kept w w' (fun k_=>P0_ k_))∧Aside0 (Below w0.heap.size w0 w'))
 case atStart=>exact ⟨l0,a1,0,rfl,rfl,H',⟨Nat.le_refl _⟩,HO,HK,HB⟩
 case round =>
  clear H';obtain ⟨x0,x1,x5,rfl,rfl,HA,HK1,HO,HK,HB⟩:=hrel
  cases gk with
  | zero=>exact absurd HA.out (by simp [laws_markSeenS.l0])
  | succ k1 =>
   have H:=HA.out;clear HA;simp only [laws_markSeenS.l0] at H
   by_cases c3:x5<(x0.length:Int)
   ·rw [if_pos c3] at H;have c3b0:decide (x5<(x0.length:Int))=true:=decide_eq_true c3
    revert H;refine id1k ?_
    intro c5 c5b0 H;have H':=am H;clear H;obtain ⟨g,cap,oki,c,eo,hM,hL⟩:=hol z155 x5 (S_flat (fun _ _ _ _ _ h=>by obtain rfl:=k155_openM h;exact k155_mkM _ _ _ _) HO.out) HB.out HK.out c5 c3;subst eo;obtain rfl:=k155_openM hM;have HL:=am hL;clear hL hM HO HK HB;replace c3:=eq_true c3;replace c5:=eq_true c5;obtain ⟨hx,hf⟩:=HL.out.nz 3 rfl rfl
    go_wp2_with (first|((with_reducible refine gate_store (t:=2) (p:=16) rfl ?_);refine store_event (t:=2) (p:=16) (v:=?vo0) (w1:=(wr.setCell ⟨g,(x5:Int).toNat * 3,none⟩ (.int .i64 x1))) ?hg ?ho ?hn ?hr ?_;(case ho=>rfl);(case hg=>rfl);(case hn=>rfl);(case hr=>first|(go_simp;done)|(go_simp;rfl));intro w0b hw;replace HL:=am (HL.out.put 0 (.int .i64 x1) (by decide) rfl hw);clear hw hx hf;obtain ⟨hz,hx,hf⟩:=HL.out.nx 3 1 rfl rfl rfl)|((with_reducible refine gate_store (t:=2) (p:=23) rfl ?_);refine store_event (t:=2) (p:=23) (v:=?vo1) (w1:=(w0b.setCell ⟨g,(x5:Int).toNat * 3+1,none⟩ (.int .i64 (wrap64 (x1+1))))) ?hg ?ho ?hn ?hr ?_;(case ho=>rfl);(case hg=>rfl);(case hn=>rfl);(case hr=>first|(go_simp;done)|(go_simp;rfl));intro w1b hw;replace HL:=am (HL.out.put 1 (.int .i64 (wrap64 (x1+1))) (by decide) rfl hw);clear hw hx hf hz;obtain ⟨hz,hx,hf⟩:=HL.out.nx 3 2 rfl rfl rfl)|((with_reducible refine gate_store (t:=2) (p:=30) rfl ?_);refine store_event (t:=2) (p:=30) (v:=?vo2) (w1:=(w1b.setCell ⟨g,(x5:Int).toNat * 3+2,none⟩ (.int .i64 (wrap64 ((wrap64 (x1+1))+1))))) ?hg ?ho ?hn ?hr ?_;(case ho=>rfl);(case hg=>rfl);(case hn=>rfl);(case hr=>first|(go_simp;done)|(go_simp;rfl));intro w2b hw;replace HL:=am (HL.out.put 2 (.int .i64 (wrap64 ((wrap64 (x1+1))+1))) (by decide) rfl hw);clear hw hx hf hz))
    go_roundg k1
    case measure=>have:=HK1.out;omega
    case rel=>exact ⟨_,_,_,rfl,rfl,H',⟨by have:=HK1.out;omega⟩,⟨HL.out.back (⟨x1,wrap64 (x1+1),wrap64 ((wrap64 (x1+1))+1)⟩:S155) (k155_mkM _ _ _ (⟨x1,wrap64 (x1+1),wrap64 ((wrap64 (x1+1))+1)⟩:S155))⟩,⟨HL.out.hK⟩,⟨HL.out.hB⟩⟩
   ·rw [if_neg c3] at H;have c3b0:decide (x5<(x0.length:Int))=false:=decide_eq_false c3;clear c3;obtain ⟨rfl,rfl⟩:=Prod.mk.inj (Option.some.inj H);obtain ⟨Ao,co,eo⟩:=Kd.R_slice HO.out;subst eo
    go_wp2
    go_ret
    exact ⟨rfl,HO.out,HB.out,HK.out⟩
theorem laws_markPartnerS_one (v:Value) (h:v.oneCell'=true):∀ q ∈ [v],q.oneCell'=true:=fun q hq=>by
 rw [List.mem_singleton.1 hq]
 exact h
theorem laws_markPartnerS.calls0 (k:Nat) (P0_:Nat→Prop) (u9000_:Value) (l0:List (S83)) (a1:Int) (r1:Int) (r2:List (S83)) (w0 w:World) (hB:Below w0.heap.size w0 w) (ho0:Kd.S k83 83 w w0.heap.size P0_ u9000_ l0) (h:laws_markPartnerS.f k l0 a1=some (r1,r2)) :
  Calls Tryz.prog 38 #[u9000_,.int .i64 a1] w fun e w'=>e=.returned (.int .i64 r1)∧Kd.S k83 83 w' w0.heap.size P0_ u9000_ r2∧Below w0.heap.size w0 w'∧Kept w w' (fun k_=>P0_ k_):=by
 have HO0:=Aside0.mk ho0;have HK:=Aside0.mk (Kept.refl w (fun k_=>P0_ k_));have HB:=Aside0.mk hB;have H':=Aside0.mk (show laws_markPartnerS.l0 k l0 a1 0=some (r1,r2) from h);clear hB h
 go_enter Tryz.func38,Tryz.ntmps38
 go_wp2
 go_loopg [1,5] k (fun kq v1 v5 w'=>∃ (x0_1:List (S83)) (x1_1:Int) (x5_1:Int),v1=.int .i64 x1_1∧v5=.int .i64 x5_1∧Aside0 (laws_markPartnerS.l0 kq x0_1 x1_1 x5_1=some (r1,r2))∧Aside0 (kq≤k)∧Aside0 (Kd.S k83 83 w' w0.heap.size P0_ u9000_ x0_1)∧Aside0 (Kept w w' (fun k_=>P0_ k_))∧Aside0 (Below w0.heap.size w0 w'))
 case atStart=>exact ⟨l0,a1,0,rfl,rfl,H',⟨Nat.le_refl _⟩,HO0,HK,HB⟩
 case round =>
  clear H';obtain ⟨x0_1,x1_1,x5_1,rfl,rfl,HA,HK1,HO,HK,HB⟩:=hrel;obtain ⟨Ao,co,eo⟩:=Kd.S_slice HO.out;subst eo
  cases gk with
  | zero=>exact absurd HA.out (by simp [laws_markPartnerS.l0])
  | succ k1 =>
   have H:=HA.out;clear HA;simp only [laws_markPartnerS.l0] at H
   by_cases c3:x5_1<(x0_1.length:Int)
   ·rw [if_pos c3] at H;have c3b0:decide (x5_1<(x0_1.length:Int))=true:=decide_eq_true c3;obtain ⟨t1,A4,H⟩:=Option.bind_eq_some_iff.mp H
    by_cases c5:0≤x5_1
    ·rw [if_pos c5] at H;have c5b0:decide (0≤x5_1)=true:=decide_eq_true c5;obtain ⟨⟨s2,q2⟩,A8,H⟩:=Option.bind_eq_some_iff.mp H;replace A4:=Aside0.mk A4;replace A8:=Aside0.mk A8;have H':=Aside0.mk H;have C3:=Aside0.mk c3;have C5:=Aside0.mk c5;clear H c3 c5
     go_wp2_with (first
      | ((first|((with_reducible refine gate_callee (f:=94) rfl ?_);refine goesL_ (some 15) rfl rfl Tryz.func94 (by kernel_rfl) rfl #[.int .i64 x1_1] rfl (by (try simp only [List.map_toArray,List.map_cons,List.map_nil]);first|done|rfl) ?_;(with_reducible refine (laws_markText.calls k1 x1_1 t1 _ A4.out).mono ?_);rintro e w12 ⟨rfl,hb⟩;refine ⟨_,rfl,?_⟩)|(go_at_call 94;(with_reducible refine (laws_markText.calls k1 x1_1 t1 _ A4.out).mono ?_);rintro e w12 ⟨rfl,hb⟩));replace HO:=Aside0.mk (Kd.S_below HO.out hb);replace HK:=Aside0.mk (Kept.below (S:=(fun k_=>P0_ k_)) HK.out hb);replace HB:=Aside0.mk (below_step HB.out hb);clear hb;obtain ⟨go6,co6,eo6,gb6,gl6,cl6,HG6⟩:=Kd.S_form HO.out (by have:=C3.out;have:=C5.out;omega);(first|cases eo6|(injection eo6 with ea_ en_ ec_;(first|subst ea_|(injection ea_ with ea_;subst ea_));subst ec_;clear en_));have GB6:=Aside0.mk gb6;clear gb6 gl6 HG6;have GO:=Aside0.mk ((Kd.S_R HO.out).1 go6 rfl);obtain ⟨oki,ce,hcl,hM,hcc,hfr,hoki,hH⟩:=Kd.S_elem HO.out z83 (x5_1:Int) C5.out C3.out;obtain ⟨v3,ec,hR⟩:=k83_openM hM;subst ec;obtain ⟨A3,c3,e3⟩:=Kd.R_slice hR;subst e3;have hx0:w12.cell? ⟨go6,(x5_1:Int).toNat * 4,none⟩=some (.string (rd_T83 x0_1 x5_1).f0):=hcc 0 _ rfl;have hf0:w12.frozen? ⟨go6,(x5_1:Int).toNat * 4,none⟩=false:=hfr 0;have HR:=Aside0.mk hR;have HOK:=Aside0.mk hoki;have HP:=Aside0.mk (Kd.H_seg hH C5.out C3.out (seg:=[.string t1]) (j:=0) (show 1≤4 from by decide) (laws_markPartnerS_one _ rfl));clear HO hR hoki hH hcl hM hcc hfr;have p6:=eq_true C5.out;have q6:=eq_true C3.out)
      | ((with_reducible refine gate_store (t:=9) (p:=17) rfl ?_);refine store_event (t:=9) (p:=17) (v:=?vo_w14) (w1:=(w12.setCell ⟨go6,(x5_1:Int).toNat * 4,none⟩ (.string t1))) ?hg ?ho ?hn ?hr ?_;(case ho=>rfl);(case hg=>rfl);(case hn=>rfl);(case hr=>first|(go_simp;done)|(go_simp;rfl));intro w14 hw;have hg:w12.grownBy w14 (some go6):=(by rw [hw];exact HP.out.2);have hH:Kd.H k83 83 w14 w0.heap.size P0_ (.slice (some ⟨go6,0,none⟩) x0_1.length co) x0_1 x5_1 oki [.string t1,.int .i64 (rd_T83 x0_1 x5_1).f1,.int .i64 (rd_T83 x0_1 x5_1).f2,.slice A3 (rd_T83 x0_1 x5_1).f3.length c3]:=(by rw [hw];exact HP.out.1);clear HP;replace HB:=Aside0.mk ((by rw [hw];exact below_set (HB.out) GB6.out:Below w0.heap.size w0 w14));replace HK:=Aside0.mk (Kept.of_grown (S:=(fun k_=>P0_ k_)) hg HK.out (fun z_ e_=>by injection e_ with e_;subst e_;exact .inl GO.out));replace HR:=Aside0.mk (Kd.R_step HR.out (fun z_ hk_ hlt_=>hg.block z_ hlt_ (fun he_=>(HOK.out z_ hk_).2 (by injection he_))));clear hw hg hx0 hf0;obtain ⟨hcc,hfr⟩:=Kd.H_at hH C5.out C3.out;have hx1:w14.cell? ⟨go6,(x5_1:Int).toNat * 4+1,none⟩=some (.int .i64 (rd_T83 x0_1 x5_1).f1):=hcc 1 _ rfl;have hf1:w14.frozen? ⟨go6,(x5_1:Int).toNat * 4+1,none⟩=false:=hfr 1;have hx10:w14.cell? ⟨go6,(x5_1:Int).toNat * 4,none⟩=some (.string t1):=hcc 0 _ rfl;have HP:=Aside0.mk (Kd.H_seg hH C5.out C3.out (seg:=[.int .i64 (wrap64 (x1_1+1))]) (j:=1) (show 2≤4 from by decide) (laws_markPartnerS_one _ rfl));clear hH hcc hfr)
      | ((with_reducible refine gate_store (t:=2) (p:=24) rfl ?_);refine store_event (t:=2) (p:=24) (v:=?vo_w16) (w1:=(w14.setCell ⟨go6,(x5_1:Int).toNat * 4+1,none⟩ (.int .i64 (wrap64 (x1_1+1))))) ?hg ?ho ?hn ?hr ?_;(case ho=>rfl);(case hg=>rfl);(case hn=>rfl);(case hr=>first|(go_simp;done)|(go_simp;rfl));intro w16 hw;have hg:w14.grownBy w16 (some go6):=(by rw [hw];exact HP.out.2);have hH:Kd.H k83 83 w16 w0.heap.size P0_ (.slice (some ⟨go6,0,none⟩) x0_1.length co) x0_1 x5_1 oki [.string t1,.int .i64 (wrap64 (x1_1+1)),.int .i64 (rd_T83 x0_1 x5_1).f2,.slice A3 (rd_T83 x0_1 x5_1).f3.length c3]:=(by rw [hw];exact HP.out.1);clear HP;replace HB:=Aside0.mk ((by rw [hw];exact below_set (HB.out) GB6.out:Below w0.heap.size w0 w16));replace HK:=Aside0.mk (Kept.of_grown (S:=(fun k_=>P0_ k_)) hg HK.out (fun z_ e_=>by injection e_ with e_;subst e_;exact .inl GO.out));replace HR:=Aside0.mk (Kd.R_step HR.out (fun z_ hk_ hlt_=>hg.block z_ hlt_ (fun he_=>(HOK.out z_ hk_).2 (by injection he_))));clear hw hg hx1 hf1 hx10;obtain ⟨hcc,hfr⟩:=Kd.H_at hH C5.out C3.out;have hx2:w16.cell? ⟨go6,(x5_1:Int).toNat * 4+2,none⟩=some (.int .i64 (rd_T83 x0_1 x5_1).f2):=hcc 2 _ rfl;have hf2:w16.frozen? ⟨go6,(x5_1:Int).toNat * 4+2,none⟩=false:=hfr 2;have hx20:w16.cell? ⟨go6,(x5_1:Int).toNat * 4,none⟩=some (.string t1):=hcc 0 _ rfl;have HP:=Aside0.mk (Kd.H_seg hH C5.out C3.out (seg:=[.int .i64 (wrap64 (wrap64 (x1_1+1)+1))]) (j:=2) (show 3≤4 from by decide) (laws_markPartnerS_one _ rfl));clear hH hcc hfr)
      | ((with_reducible refine gate_store (t:=2) (p:=31) rfl ?_);refine store_event (t:=2) (p:=31) (v:=?vo_w18) (w1:=(w16.setCell ⟨go6,(x5_1:Int).toNat * 4+2,none⟩ (.int .i64 (wrap64 (wrap64 (x1_1+1)+1))))) ?hg ?ho ?hn ?hr ?_;(case ho=>rfl);(case hg=>rfl);(case hn=>rfl);(case hr=>first|(go_simp;done)|(go_simp;rfl));intro w18 hw;have hg:w16.grownBy w18 (some go6):=(by rw [hw];exact HP.out.2);have hH:Kd.H k83 83 w18 w0.heap.size P0_ (.slice (some ⟨go6,0,none⟩) x0_1.length co) x0_1 x5_1 oki [.string t1,.int .i64 (wrap64 (x1_1+1)),.int .i64 (wrap64 (wrap64 (x1_1+1)+1)),.slice A3 (rd_T83 x0_1 x5_1).f3.length c3]:=(by rw [hw];exact HP.out.1);clear HP;replace HB:=Aside0.mk ((by rw [hw];exact below_set (HB.out) GB6.out:Below w0.heap.size w0 w18));replace HK:=Aside0.mk (Kept.of_grown (S:=(fun k_=>P0_ k_)) hg HK.out (fun z_ e_=>by injection e_ with e_;subst e_;exact .inl GO.out));replace HR:=Aside0.mk (Kd.R_step HR.out (fun z_ hk_ hlt_=>hg.block z_ hlt_ (fun he_=>(HOK.out z_ hk_).2 (by injection he_))));clear hw hg hx2 hf2 hx20;have HH:=Aside0.mk hH;obtain ⟨hcc,hfr⟩:=Kd.H_at hH C5.out C3.out;have hx3:w18.cell? ⟨go6,(x5_1:Int).toNat * 4+3,none⟩=some (.slice A3 (rd_T83 x0_1 x5_1).f3.length c3):=hcc 3 _ rfl;have hx30:w18.cell? ⟨go6,(x5_1:Int).toNat * 4,none⟩=some (.string t1):=hcc 0 _ rfl;clear hH hcc hfr)
      | ((first|((with_reducible refine gate_callee (f:=95) rfl ?_);refine goesL_ (some 40) rfl rfl Tryz.func95 (by kernel_rfl) rfl #[.slice A3 (rd_T83 x0_1 x5_1).f3.length c3,.int .i64 (wrap64 (wrap64 (wrap64 (x1_1+1)+1)+1))] rfl (by (try simp only [List.map_toArray,List.map_cons,List.map_nil]);first|done|rfl) ?_;(refine (laws_markSeenS.calls k1 oki (.slice A3 (rd_T83 x0_1 x5_1).f3.length c3) (rd_T83 x0_1 x5_1).f3 (wrap64 (wrap64 (wrap64 (x1_1+1)+1)+1)) s2 q2 w0 _ HB.out HR.out A8.out).mono ?_);rintro e w20 ⟨rfl,hR2,hb2,hk2⟩;refine ⟨_,rfl,?_⟩)|(go_at_call 95;(refine (laws_markSeenS.calls k1 oki (.slice A3 (rd_T83 x0_1 x5_1).f3.length c3) (rd_T83 x0_1 x5_1).f3 (wrap64 (wrap64 (wrap64 (x1_1+1)+1)+1)) s2 q2 w0 _ HB.out HR.out A8.out).mono ?_);rintro e w20 ⟨rfl,hR2,hb2,hk2⟩));have HO:=Aside0.mk (Kd.H_back (x':=(⟨t1,wrap64 (x1_1+1),wrap64 (wrap64 (x1_1+1)+1),q2⟩:S83)) (Kd.H_kept HH.out hk2 (fun _ _ hn_ hk_=>hn_ hk_)) (k83_mkM _ _ _ (⟨t1,wrap64 (x1_1+1),wrap64 (wrap64 (x1_1+1)+1),q2⟩:S83) (Kd.R_reok rfl hR2 (fun z_ e_=>HR.out.1 z_ e_))) (fun _ hk_=>hk_));replace HK:=Aside0.mk (HK.out.then_ hk2 (fun z_ hk_=>.inl (HOK.out z_ hk_).1));replace HB:=Aside0.mk hb2;clear HH HR hk2 hb2 hR2 hx3 hx30))
     go_roundg k1
     case measure=>have:=HK1.out;omega
     case rel=>exact ⟨_,_,_,rfl,rfl,H',⟨by have:=HK1.out;omega⟩,HO,HK,HB⟩
    ·rw [if_neg c5] at H
     exact absurd H (by simp)
   ·rw [if_neg c3] at H;have c3b0:decide (x5_1<(x0_1.length:Int))=false:=decide_eq_false c3;clear c3;simp only [Option.some.injEq,Prod.mk.injEq] at H;obtain ⟨rfl,rfl⟩:=H
    go_wp2
    go_ret
    exact ⟨rfl,HO.out,HB.out,HK.out⟩
theorem laws_markCrossS.calls (k:Nat) (P0_:Nat→Prop) (u9000_:Value) (l0:List (S114)) (a1:Int) (r1:Int) (r2:List (S114)) (w0 w:World) (hB:Below w0.heap.size w0 w) (ho0:Kd.R k114 114 w w0.heap.size P0_ u9000_ l0) (h:laws_markCrossS.f k l0 a1=some (r1,r2)) :
  Calls Tryz.prog 39 #[u9000_,.int .i64 a1] w fun e w'=>e=.returned (.int .i64 r1)∧Kd.R k114 114 w' w0.heap.size (fun k_=>(P0_ k_∨w.heap.size≤k_)) u9000_ r2∧Below w0.heap.size w0 w'∧Kept w w' (fun k_=>P0_ k_):=by
 have HO:=am (show Kd.R k114 114 w w0.heap.size (fun k_=>(P0_ k_∨w.heap.size≤k_)) u9000_ l0 from Kd.R_mono ho0 (fun _ hk=>(.inl hk)));have HK:=am (Kept.refl w (fun k_=>P0_ k_));have HB:=am hB;have H':=am (show laws_markCrossS.l0 k l0 a1 0=some (r1,r2) from h);clear hB h
 go_in
 go_wp2
 go_loopg [1,5] k (fun kq v1 v5 w'=>∃ (x0:List (S114)) (x1:Int) (x5:Int),v1=.int .i64 x1∧v5=.int .i64 x5∧Aside0 (laws_markCrossS.l0 kq x0 x1 x5=some (r1,r2))∧Aside0 (kq≤k)∧Aside0 (Kd.R k114 114 w' w0.heap.size (fun k_=>(P0_ k_∨w.heap.size≤k_)) u9000_ x0)∧Aside0 (Kept w w' (fun k_=>P0_ k_))∧Aside0 (Below w0.heap.size w0 w'))
 case atStart=>exact ⟨l0,a1,0,rfl,rfl,H',⟨Nat.le_refl _⟩,HO,HK,HB⟩
 case round =>
  clear H';obtain ⟨x0,x1,x5,rfl,rfl,HA,HK1,HO,HK,HB⟩:=hrel
  cases gk with
  | zero=>exact absurd HA.out (by simp [laws_markCrossS.l0])
  | succ k1 =>
   have H:=HA.out;clear HA;simp only [laws_markCrossS.l0] at H
   by_cases c3:x5<(x0.length:Int)
   ·rw [if_pos c3] at H;have c3b0:decide (x5<(x0.length:Int))=true:=decide_eq_true c3;obtain ⟨t0,A0,H⟩:=Option.bind_eq_some_iff.mp H;replace A0:=am A0
    revert H;refine id1k ?_
    intro c5 c5b0 H;obtain ⟨t1,A1,H⟩:=Option.bind_eq_some_iff.mp H;replace A1:=am A1;obtain ⟨t2,A2,H⟩:=Option.bind_eq_some_iff.mp H;replace A2:=am A2;have H':=am H;clear H;obtain ⟨g,cap,oki,c,eo,hM,hL⟩:=hol z114 x5 (S_flat (fun _ _ _ _ _ h=>by obtain rfl:=k114_openM h;exact k114_mkM _ _ _ _) HO.out) HB.out HK.out c5 c3;subst eo;obtain rfl:=k114_openM hM;have HL:=am hL;clear hL hM HO HK HB;replace c3:=eq_true c3;replace c5:=eq_true c5
    go_wp2_with (first|(go_at_call 94;(with_reducible refine (laws_markText.calls k1 x1 t0 _ A0.out).mono ?_);rintro e w0a ⟨rfl,hb⟩;replace HL:=am (HL.out.below hb);clear hb;obtain ⟨hx,hf⟩:=HL.out.nz 3 rfl rfl)|((with_reducible refine gate_store (t:=9) (p:=17) rfl ?_);refine store_event (t:=9) (p:=17) (v:=?vo0) (w1:=(w0a.setCell ⟨g,(x5:Int).toNat * 3,none⟩ (.string t0))) ?hg ?ho ?hn ?hr ?_;(case ho=>rfl);(case hg=>rfl);(case hn=>rfl);(case hr=>first|(go_simp;done)|(go_simp;rfl));intro w0b hw;replace HL:=am (HL.out.put 0 (.string t0) (by decide) rfl hw);clear hw hx hf)|(go_at_call 94;(with_reducible refine (laws_markText.calls k1 (wrap64 (x1+1)) t1 _ A1.out).mono ?_);rintro e w1a ⟨rfl,hb⟩;replace HL:=am (HL.out.below hb);clear hb;obtain ⟨hz,hx,hf⟩:=HL.out.nx 3 1 rfl rfl rfl)|((with_reducible refine gate_store (t:=9) (p:=25) rfl ?_);refine store_event (t:=9) (p:=25) (v:=?vo1) (w1:=(w1a.setCell ⟨g,(x5:Int).toNat * 3+1,none⟩ (.string t1))) ?hg ?ho ?hn ?hr ?_;(case ho=>rfl);(case hg=>rfl);(case hn=>rfl);(case hr=>first|(go_simp;done)|(go_simp;rfl));intro w1b hw;replace HL:=am (HL.out.put 1 (.string t1) (by decide) rfl hw);clear hw hx hf hz)|(go_at_call 94;(with_reducible refine (laws_markText.calls k1 (wrap64 ((wrap64 (x1+1))+1)) t2 _ A2.out).mono ?_);rintro e w2a ⟨rfl,hb⟩;replace HL:=am (HL.out.below hb);clear hb;obtain ⟨hz,hx,hf⟩:=HL.out.nx 3 2 rfl rfl rfl)|((with_reducible refine gate_store (t:=9) (p:=33) rfl ?_);refine store_event (t:=9) (p:=33) (v:=?vo2) (w1:=(w2a.setCell ⟨g,(x5:Int).toNat * 3+2,none⟩ (.string t2))) ?hg ?ho ?hn ?hr ?_;(case ho=>rfl);(case hg=>rfl);(case hn=>rfl);(case hr=>first|(go_simp;done)|(go_simp;rfl));intro w2b hw;replace HL:=am (HL.out.put 2 (.string t2) (by decide) rfl hw);clear hw hx hf hz))
    go_roundg k1
    case measure=>have:=HK1.out;omega
    case rel=>exact ⟨_,_,_,rfl,rfl,H',⟨by have:=HK1.out;omega⟩,⟨HL.out.back (⟨t0,t1,t2⟩:S114) (k114_mkM _ _ _ (⟨t0,t1,t2⟩:S114))⟩,⟨HL.out.hK⟩,⟨HL.out.hB⟩⟩
   ·rw [if_neg c3] at H;have c3b0:decide (x5<(x0.length:Int))=false:=decide_eq_false c3;clear c3;obtain ⟨rfl,rfl⟩:=Prod.mk.inj (Option.some.inj H);obtain ⟨Ao,co,eo⟩:=Kd.R_slice HO.out;subst eo
    go_wp2
    go_ret
    exact ⟨rfl,HO.out,HB.out,HK.out⟩
end Go.Proofs.YtomoflpgdbjojaaGreat.QO
