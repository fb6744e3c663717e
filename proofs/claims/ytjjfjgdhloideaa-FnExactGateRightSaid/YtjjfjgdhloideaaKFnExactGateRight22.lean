-- Merged by a program of this session (wip/tool/pack.py) out of its own texts for this claim.
import Derived.Deep.Slices
import Derived.ChangeArms
import Derived.WalkKit
import Derived.ProofKit
import Derived.OpenShut
import Derived.ShutString
import Derived.ChangeOld
import Derived.Below
import Derived.SizedLaws
import Derived.Test.YtjjfjgdhloideaaKFnExactGateRight0
import Derived.Test.YtjjfjgdhloideaaKFnExactGateRight1
import Derived.Test.YtjjfjgdhloideaaKFnExactGateRight2
import Derived.Test.YtjjfjgdhloideaaKFnExactGateRight3
import Derived.Test.YtjjfjgdhloideaaKFnExactGateRight4
import Derived.Test.YtjjfjgdhloideaaKFnExactGateRight7
import Derived.Test.YtjjfjgdhloideaaKFnExactGateRight12
import Derived.Test.YtjjfjgdhloideaaKFnExactGateRight14
import Derived.Test.YtjjfjgdhloideaaKFnExactGateRight18
import Derived.Test.YtjjfjgdhloideaaKFnExactGateRight21
namespace Go.Proofs.Ytjjfjgdhloideaa.QI
open Go.RowKit Go.Proofs.YtjjfjgdhloideaaW.PrintWords Go.Proofs.YtjjfjgdhloideaaW.PrintLast Go.Proofs.YtjjfjgdhloideaaW.PrintMore
attribute [local go_sem] max2_int min2_int max_two min_two max_three min_three max_four min_four   -- for this text's walks alone
set_option linter.unusedVariables false
set_option linter.unusedSimpArgs false
set_option maxHeartbeats 8000000 in
set_option maxRecDepth 100000 in
theorem laws_FnExactGateRight.calls (k:Nat) (a0_0:ByteArray) (a0_1:Int) (A0_2:Option Addr) (c0_2:Nat) (l0_2:List (S126)) (A0_3:Option Addr) (c0_3:Nat) (l0_3:List (S128)) (A0_4:Option Addr) (c0_4:Nat) (l0_4:List (S111)) (A0_5:Option Addr) (c0_5:Nat) (l0_5:List (S113)) (A0_6:Option Addr) (c0_6:Nat) (l0_6:List (S130)) (A0_7:Option Addr) (c0_7:Nat) (l0_7:List (S132)) (r:Bool) (w:World) (hr0_2:Kd.C k126 w A0_2 l0_2.length l0_2) (hc0_2:l0_2.length≤c0_2) (hr0_3:Kd.C k128 w A0_3 l0_3.length l0_3) (hc0_3:l0_3.length≤c0_3) (hr0_4:Kd.C k111 w A0_4 l0_4.length l0_4) (hc0_4:l0_4.length≤c0_4) (hr0_5:Kd.C k113 w A0_5 l0_5.length l0_5) (hc0_5:l0_5.length≤c0_5) (hr0_6:Kd.C k130 w A0_6 l0_6.length l0_6) (hc0_6:l0_6.length≤c0_6) (hr0_7:Kd.C k132 w A0_7 l0_7.length l0_7) (hc0_7:l0_7.length≤c0_7) (h:laws_FnExactGateRight.f k a0_0 a0_1 l0_2 l0_3 l0_4 l0_5 l0_6 l0_7=some r) :
  Calls Try.prog 5 #[.agg #[.string a0_0,.int .i64 a0_1,.slice A0_2 l0_2.length c0_2,.slice A0_3 l0_3.length c0_3,.slice A0_4 l0_4.length c0_4,.slice A0_5 l0_5.length c0_5,.slice A0_6 l0_6.length c0_6,.slice A0_7 l0_7.length c0_7]] w fun e w'=>e=.returned (.bool r)∧Below w.heap.size w w':=by
 have hu54:=Try.underlying54;have hu31:=Try.underlying31;have HR0_2:=am hr0_2;have HC0_2:=am hc0_2;clear hr0_2 hc0_2;have HR0_3:=am hr0_3;have HC0_3:=am hc0_3;clear hr0_3 hc0_3;have HR0_4:=am hr0_4;have HC0_4:=am hc0_4;clear hr0_4 hc0_4;have HR0_5:=am hr0_5;have HC0_5:=am hc0_5;clear hr0_5 hc0_5;have HR0_6:=am hr0_6;have HC0_6:=am hc0_6;clear hr0_6 hc0_6;have HR0_7:=am hr0_7;have HC0_7:=am hc0_7;clear hr0_7 hc0_7;have HB:=am (Below.refl w.heap.size w);have H:((laws_szGate.f k a0_0 a0_1 l0_2 l0_3 l0_4 l0_5 l0_6 l0_7 1048576).bind fun t479=>(if t479<0 then (some true) else ((laws_toGate.f k a0_0 a0_1 l0_2 l0_3 l0_4 l0_5 l0_6 l0_7).bind fun bt480=>((spec_GateRight.f k bt480.1 bt480.2.1 bt480.2.2.1 bt480.2.2.2.1 bt480.2.2.2.2.1 bt480.2.2.2.2.2.1 bt480.2.2.2.2.2.2.1 bt480.2.2.2.2.2.2.2).bind fun t500=>((laws_toGate.f k a0_0 a0_1 l0_2 l0_3 l0_4 l0_5 l0_6 l0_7).bind fun bt501=>((impl_GateRight.f k bt501.1 bt501.2.1 bt501.2.2.1 bt501.2.2.2.1 bt501.2.2.2.2.1 bt501.2.2.2.2.2.1 bt501.2.2.2.2.2.2.1 bt501.2.2.2.2.2.2.2).bind fun t522=>(if (t522 != t500)=true then (some false) else ((laws_toGate.f k a0_0 a0_1 l0_2 l0_3 l0_4 l0_5 l0_6 l0_7).bind fun bt523=>((laws_eqGate.f k bt501.1 bt501.2.1 bt501.2.2.1 bt501.2.2.2.1 bt501.2.2.2.2.1 bt501.2.2.2.2.2.1 bt501.2.2.2.2.2.2.1 bt501.2.2.2.2.2.2.2 bt523.1 bt523.2.1 bt523.2.2.1 bt523.2.2.2.1 bt523.2.2.2.2.1 bt523.2.2.2.2.2.1 bt523.2.2.2.2.2.2.1 bt523.2.2.2.2.2.2.2).bind fun t543=>(if t543=true then (some true) else (some false)))))))))))=some r:=h;clear h;replace H:=Option.bind_eq_some_iff.mp H;obtain ⟨t479,A20,H⟩:=H;replace H:(if t479<0 then (some true) else ((laws_toGate.f k a0_0 a0_1 l0_2 l0_3 l0_4 l0_5 l0_6 l0_7).bind fun bt480=>((spec_GateRight.f k bt480.1 bt480.2.1 bt480.2.2.1 bt480.2.2.2.1 bt480.2.2.2.2.1 bt480.2.2.2.2.2.1 bt480.2.2.2.2.2.2.1 bt480.2.2.2.2.2.2.2).bind fun t500=>((laws_toGate.f k a0_0 a0_1 l0_2 l0_3 l0_4 l0_5 l0_6 l0_7).bind fun bt501=>((impl_GateRight.f k bt501.1 bt501.2.1 bt501.2.2.1 bt501.2.2.2.1 bt501.2.2.2.2.1 bt501.2.2.2.2.2.1 bt501.2.2.2.2.2.2.1 bt501.2.2.2.2.2.2.2).bind fun t522=>(if (t522 != t500)=true then (some false) else ((laws_toGate.f k a0_0 a0_1 l0_2 l0_3 l0_4 l0_5 l0_6 l0_7).bind fun bt523=>((laws_eqGate.f k bt501.1 bt501.2.1 bt501.2.2.1 bt501.2.2.2.1 bt501.2.2.2.2.1 bt501.2.2.2.2.2.1 bt501.2.2.2.2.2.2.1 bt501.2.2.2.2.2.2.2 bt523.1 bt523.2.1 bt523.2.2.1 bt523.2.2.2.1 bt523.2.2.2.2.1 bt523.2.2.2.2.2.1 bt523.2.2.2.2.2.2.1 bt523.2.2.2.2.2.2.2).bind fun t543=>(if t543=true then (some true) else (some false))))))))))=some r:=H;have A2:=am A20;clear A20
 go_enter Try.func5,Try.ntmps5
 try go_wp2_with (first|((with_reducible refine gate_dst (N:=1) rfl ?_);refine bx 1 (cs:=#[.string a0_0,.int .i64 a0_1,.slice A0_2 l0_2.length c0_2,.slice A0_3 l0_3.length c0_3,.slice A0_4 l0_4.length c0_4,.slice A0_5 l0_5.length c0_5,.slice A0_6 l0_6.length c0_6,.slice A0_7 l0_7.length c0_7]) (t:=54) ?_;intro gb478 hg w3 hbox hb;have BK478:=am (hbox);have GW478:=am ((gs hg (bs HB)));have GE478:=am ((gs hg (bs HB)));replace HB:=am (below_step (bs HB) hb);clear hb hbox hg;obtain ⟨hcz4_0,hcz4_1,hcz4_2,hcz4_3,hcz4_4,hcz4_5,hcz4_6,hcz4_7,hfz4_0,hfz4_1,hfz4_2,hfz4_3,hfz4_4,hfz4_5,hfz4_6,hfz4_7⟩:=cf8 BK478))
 go_at_call 20;(with_reducible refine (laws_szGate.calls k a0_0 a0_1 _ _ l0_2 _ _ l0_3 _ _ l0_4 _ _ l0_5 _ _ l0_6 _ _ l0_7 1048576 t479 _ (Kd.C_below HR0_2.out (bs HB)) HC0_2.out (Kd.C_below HR0_3.out (bs HB)) HC0_3.out (Kd.C_below HR0_4.out (bs HB)) HC0_4.out (Kd.C_below HR0_5.out (bs HB)) HC0_5.out (Kd.C_below HR0_6.out (bs HB)) HC0_6.out (Kd.C_below HR0_7.out (bs HB)) HC0_7.out A2.out).mono ?_);rintro e w5 ⟨rfl,hb⟩;replace BK478:=am (blk_below (ks BK478) hb);replace HB:=am (below_step (bs HB) hb);(try clear hb);(try clear hb2);(try clear hk);(try clear hi)
 by_cases c6:t479<0
 ·rw [if_pos c6] at H;have c6b0:decide (t479<0)=true:=decide_eq_true c6;clear c6;obtain rfl:=Option.some.inj H
  go_wp2
  go_ret
  exact ⟨ff,bs HB⟩
 ·rw [if_neg c6] at H;have c6b0:decide (t479<0)=false:=decide_eq_false c6;clear c6;replace H:=Option.bind_eq_some_iff.mp H;obtain ⟨⟨t480,t481,t482,t485,t488,t491,t494,t497⟩,A70,H⟩:=H;replace H:((spec_GateRight.f k t480 t481 t482 t485 t488 t491 t494 t497).bind fun t500=>((laws_toGate.f k a0_0 a0_1 l0_2 l0_3 l0_4 l0_5 l0_6 l0_7).bind fun bt501=>((impl_GateRight.f k bt501.1 bt501.2.1 bt501.2.2.1 bt501.2.2.2.1 bt501.2.2.2.2.1 bt501.2.2.2.2.2.1 bt501.2.2.2.2.2.2.1 bt501.2.2.2.2.2.2.2).bind fun t522=>(if (t522 != t500)=true then (some false) else ((laws_toGate.f k a0_0 a0_1 l0_2 l0_3 l0_4 l0_5 l0_6 l0_7).bind fun bt523=>((laws_eqGate.f k bt501.1 bt501.2.1 bt501.2.2.1 bt501.2.2.2.1 bt501.2.2.2.2.1 bt501.2.2.2.2.2.1 bt501.2.2.2.2.2.2.1 bt501.2.2.2.2.2.2.2 bt523.1 bt523.2.1 bt523.2.2.1 bt523.2.2.2.1 bt523.2.2.2.2.1 bt523.2.2.2.2.2.1 bt523.2.2.2.2.2.2.1 bt523.2.2.2.2.2.2.2).bind fun t543=>(if t543=true then (some true) else (some false))))))))=some r:=H;have A7:=am A70;clear A70;obtain ⟨hcz8_0,hcz8_1,hcz8_2,hcz8_3,hcz8_4,hcz8_5,hcz8_6,hcz8_7,hfz8_0,hfz8_1,hfz8_2,hfz8_3,hfz8_4,hfz8_5,hfz8_6,hfz8_7⟩:=cf8 BK478
  try go_wp2_with (fail)
  go_at_call 22;(with_reducible refine (laws_toGate.calls k a0_0 a0_1 _ _ l0_2 _ _ l0_3 _ _ l0_4 _ _ l0_5 _ _ l0_6 _ _ l0_7 t480 t481 t482 t485 t488 t491 t494 t497 _ (Kd.C_below HR0_2.out (bs HB)) HC0_2.out (Kd.C_below HR0_3.out (bs HB)) HC0_3.out (Kd.C_below HR0_4.out (bs HB)) HC0_4.out (Kd.C_below HR0_5.out (bs HB)) HC0_5.out (Kd.C_below HR0_6.out (bs HB)) HC0_6.out (Kd.C_below HR0_7.out (bs HB)) HC0_7.out A7.out).mono ?_);rintro e w9 ⟨v483,v486,v489,v492,v495,v498,rfl,ho0,ho1,ho2,ho3,ho4,ho5,hb⟩;have HO484:=am (Kd.S_lower ho0 (below_size (bs HB)));have HO487:=am (Kd.R_lower ho1 (below_size (bs HB)));have HO490:=am (Kd.R_lower ho2 (below_size (bs HB)));have HO493:=am (Kd.R_lower ho3 (below_size (bs HB)));have HO496:=am (Kd.R_lower ho4 (below_size (bs HB)));have HO499:=am (Kd.R_lower ho5 (below_size (bs HB)));replace BK478:=am (blk_below (ks BK478) hb);replace HB:=am (below_step (bs HB) hb);(try clear hb);(try clear hb2);(try clear hk);(try clear hi);(try clear ho0);(try clear ho1);(try clear ho2);(try clear ho3);(try clear ho4);(try clear ho5);replace H:=Option.bind_eq_some_iff.mp H;obtain ⟨t500,A100,H⟩:=H;replace H:((laws_toGate.f k a0_0 a0_1 l0_2 l0_3 l0_4 l0_5 l0_6 l0_7).bind fun bt501=>((impl_GateRight.f k bt501.1 bt501.2.1 bt501.2.2.1 bt501.2.2.2.1 bt501.2.2.2.2.1 bt501.2.2.2.2.2.1 bt501.2.2.2.2.2.2.1 bt501.2.2.2.2.2.2.2).bind fun t522=>(if (t522 != t500)=true then (some false) else ((laws_toGate.f k a0_0 a0_1 l0_2 l0_3 l0_4 l0_5 l0_6 l0_7).bind fun bt523=>((laws_eqGate.f k bt501.1 bt501.2.1 bt501.2.2.1 bt501.2.2.2.1 bt501.2.2.2.2.1 bt501.2.2.2.2.2.1 bt501.2.2.2.2.2.2.1 bt501.2.2.2.2.2.2.2 bt523.1 bt523.2.1 bt523.2.2.1 bt523.2.2.2.1 bt523.2.2.2.2.1 bt523.2.2.2.2.2.1 bt523.2.2.2.2.2.2.1 bt523.2.2.2.2.2.2.2).bind fun t543=>(if t543=true then (some true) else (some false)))))))=some r:=H;have A10:=am A100;clear A100;obtain ⟨Ao11,co11,eo11⟩:=Kd.S_slice HO484.out;subst eo11;obtain ⟨Ao12,co12,eo12⟩:=Kd.R_slice HO487.out;subst eo12;obtain ⟨Ao13,co13,eo13⟩:=Kd.R_slice HO490.out;subst eo13;obtain ⟨Ao14,co14,eo14⟩:=Kd.R_slice HO493.out;subst eo14;obtain ⟨Ao15,co15,eo15⟩:=Kd.R_slice HO496.out;subst eo15;obtain ⟨Ao16,co16,eo16⟩:=Kd.R_slice HO499.out;subst eo16
  try go_wp2_with (fail)
  go_at_call 21;(with_reducible refine (spec_GateRight.calls k t480 t481 _ _ t482 _ _ t485 _ _ t488 _ _ t491 _ _ t494 _ _ t497 t500 _ ?side1 ?side2 ?side3 ?side4 ?side5 ?side6 ?side7 ?side8 ?side9 ?side10 ?side11 ?side12 A10.out).mono ?_);(case side1=>repeat (first|exact (Kd.S_reads' HO484.out).2.2|(with_reducible refine Kd.C_alloc ?_ _)|(with_reducible refine Kd.C_drewN ?_ _)|(with_reducible refine Kd.C_drew ?_)));(case side2=>exact (Kd.S_reads' HO484.out).2.1);(case side3=>repeat (first|exact (Kd.R_reads' HO487.out).2.2|(with_reducible refine Kd.C_alloc ?_ _)|(with_reducible refine Kd.C_drewN ?_ _)|(with_reducible refine Kd.C_drew ?_)));(case side4=>exact (Kd.R_reads' HO487.out).2.1);(case side5=>repeat (first|exact (Kd.R_reads' HO490.out).2.2|(with_reducible refine Kd.C_alloc ?_ _)|(with_reducible refine Kd.C_drewN ?_ _)|(with_reducible refine Kd.C_drew ?_)));(case side6=>exact (Kd.R_reads' HO490.out).2.1);(case side7=>repeat (first|exact (Kd.R_reads' HO493.out).2.2|(with_reducible refine Kd.C_alloc ?_ _)|(with_reducible refine Kd.C_drewN ?_ _)|(with_reducible refine Kd.C_drew ?_)));(case side8=>exact (Kd.R_reads' HO493.out).2.1);(case side9=>repeat (first|exact (Kd.R_reads' HO496.out).2.2|(with_reducible refine Kd.C_alloc ?_ _)|(with_reducible refine Kd.C_drewN ?_ _)|(with_reducible refine Kd.C_drew ?_)));(case side10=>exact (Kd.R_reads' HO496.out).2.1);(case side11=>repeat (first|exact (Kd.R_reads' HO499.out).2.2|(with_reducible refine Kd.C_alloc ?_ _)|(with_reducible refine Kd.C_drewN ?_ _)|(with_reducible refine Kd.C_drew ?_)));(case side12=>exact (Kd.R_reads' HO499.out).2.1);rintro e w17 ⟨rfl,hb⟩;have n0_:=am (Kd.S_below (by (with_reducible repeat (first|apply Kd.S_alloc|apply Kd.S_drewN|apply Kd.S_drew));exact HO484.out) hb);have n1_:=am (Kd.R_below (rs HO487) hb);have n2_:=am (Kd.R_below (rs HO490) hb);have n3_:=am (Kd.R_below (rs HO493) hb);have n4_:=am (Kd.R_below (rs HO496) hb);have n5_:=am (Kd.R_below (rs HO499) hb);have n6_:=am (blk_below (ks BK478) hb);have n7_:=am (below_step (bs HB) hb);clear HO484;clear HO487;clear HO490;clear HO493;clear HO496;clear HO499;clear BK478;clear HB;have HO484:=n0_;have HO487:=n1_;have HO490:=n2_;have HO493:=n3_;have HO496:=n4_;have HO499:=n5_;have BK478:=n6_;have HB:=n7_;clear n0_ n1_ n2_ n3_ n4_ n5_ n6_ n7_;(try clear hb);(try clear hb2);(try clear hk);(try clear hi);replace H:=Option.bind_eq_some_iff.mp H;obtain ⟨⟨t501,t502,t503,t506,t509,t512,t515,t518⟩,A180,H⟩:=H;replace H:((impl_GateRight.f k t501 t502 t503 t506 t509 t512 t515 t518).bind fun t522=>(if (t522 != t500)=true then (some false) else ((laws_toGate.f k a0_0 a0_1 l0_2 l0_3 l0_4 l0_5 l0_6 l0_7).bind fun bt523=>((laws_eqGate.f k t501 t502 t503 t506 t509 t512 t515 t518 bt523.1 bt523.2.1 bt523.2.2.1 bt523.2.2.2.1 bt523.2.2.2.2.1 bt523.2.2.2.2.2.1 bt523.2.2.2.2.2.2.1 bt523.2.2.2.2.2.2.2).bind fun t543=>(if t543=true then (some true) else (some false))))))=some r:=H;have A18:=am A180;clear A180;obtain ⟨hcz19_0,hcz19_1,hcz19_2,hcz19_3,hcz19_4,hcz19_5,hcz19_6,hcz19_7,hfz19_0,hfz19_1,hfz19_2,hfz19_3,hfz19_4,hfz19_5,hfz19_6,hfz19_7⟩:=cf8 BK478
  try go_wp2_with (fail)
  go_at_call 22;(with_reducible refine (laws_toGate.calls k a0_0 a0_1 _ _ l0_2 _ _ l0_3 _ _ l0_4 _ _ l0_5 _ _ l0_6 _ _ l0_7 t501 t502 t503 t506 t509 t512 t515 t518 _ (Kd.C_below HR0_2.out (bs HB)) HC0_2.out (Kd.C_below HR0_3.out (bs HB)) HC0_3.out (Kd.C_below HR0_4.out (bs HB)) HC0_4.out (Kd.C_below HR0_5.out (bs HB)) HC0_5.out (Kd.C_below HR0_6.out (bs HB)) HC0_6.out (Kd.C_below HR0_7.out (bs HB)) HC0_7.out A18.out).mono ?_);rintro e w20 ⟨v504,v507,v510,v513,v516,v519,rfl,ho0,ho1,ho2,ho3,ho4,ho5,hb⟩;have n0_:=am (Kd.S_elder' (by (with_reducible repeat (first|apply Kd.S_alloc|apply Kd.S_drewN|apply Kd.S_drew));exact HO484.out) (Kd.S_base ho0) hb);have n1_:=am (Kd.R_elder' (rs HO487) (Kd.R_base ho1) hb);have n2_:=am (Kd.R_elder' (rs HO490) (Kd.R_base ho2) hb);have n3_:=am (Kd.R_elder' (rs HO493) (Kd.R_base ho3) hb);have n4_:=am (Kd.R_elder' (rs HO496) (Kd.R_base ho4) hb);have n5_:=am (Kd.R_elder' (rs HO499) (Kd.R_base ho5) hb);have n6_:=am (Kd.S_lower (Kd.S_new' ho0 (Kd.S_lt (by (with_reducible repeat (first|apply Kd.S_alloc|apply Kd.S_drewN|apply Kd.S_drew));exact HO484.out))) (below_size (bs HB)));have n7_:=am (Kd.R_lower (Kd.R_new' ho1 (Kd.R_lt (rs HO487))) (below_size (bs HB)));have n8_:=am (Kd.R_lower (Kd.R_new' ho2 (Kd.R_lt (rs HO490))) (below_size (bs HB)));have n9_:=am (Kd.R_lower (Kd.R_new' ho3 (Kd.R_lt (rs HO493))) (below_size (bs HB)));have n10_:=am (Kd.R_lower (Kd.R_new' ho4 (Kd.R_lt (rs HO496))) (below_size (bs HB)));have n11_:=am (Kd.R_lower (Kd.R_new' ho5 (Kd.R_lt (rs HO499))) (below_size (bs HB)));have n12_:=am (blk_below (ks BK478) hb);have n13_:=am (below_step (bs HB) hb);clear HO484;clear HO487;clear HO490;clear HO493;clear HO496;clear HO499;clear BK478;clear HB;have HO484:=n0_;have HO487:=n1_;have HO490:=n2_;have HO493:=n3_;have HO496:=n4_;have HO499:=n5_;have HO505:=n6_;have HO508:=n7_;have HO511:=n8_;have HO514:=n9_;have HO517:=n10_;have HO520:=n11_;have BK478:=n12_;have HB:=n13_;clear n0_ n1_ n2_ n3_ n4_ n5_ n6_ n7_ n8_ n9_ n10_ n11_ n12_ n13_;(try clear hb);(try clear hb2);(try clear hk);(try clear hi);(try clear ho0);(try clear ho1);(try clear ho2);(try clear ho3);(try clear ho4);(try clear ho5);replace H:=Option.bind_eq_some_iff.mp H;obtain ⟨t522,A210,H⟩:=H;replace H:(if (t522 != t500)=true then (some false) else ((laws_toGate.f k a0_0 a0_1 l0_2 l0_3 l0_4 l0_5 l0_6 l0_7).bind fun bt523=>((laws_eqGate.f k t501 t502 t503 t506 t509 t512 t515 t518 bt523.1 bt523.2.1 bt523.2.2.1 bt523.2.2.2.1 bt523.2.2.2.2.1 bt523.2.2.2.2.2.1 bt523.2.2.2.2.2.2.1 bt523.2.2.2.2.2.2.2).bind fun t543=>(if t543=true then (some true) else (some false)))))=some r:=H;have A21:=am A210;clear A210
  try go_wp2_with (first|((with_reducible refine gate_dst (N:=5) rfl ?_);refine bx 5 (cs:=#[.string (⟨#[]⟩:ByteArray),.int .i64 0,.slice none 0 0,.slice none 0 0,.slice none 0 0,.slice none 0 0,.slice none 0 0,.slice none 0 0]) (t:=31) ?_;intro gb521 hg w22 hbox hb;have n0_:=am (Kd.S_below (by (with_reducible repeat (first|apply Kd.S_alloc|apply Kd.S_drewN|apply Kd.S_drew));exact HO484.out) hb);have n1_:=am (Kd.R_below (rs HO487) hb);have n2_:=am (Kd.R_below (rs HO490) hb);have n3_:=am (Kd.R_below (rs HO493) hb);have n4_:=am (Kd.R_below (rs HO496) hb);have n5_:=am (Kd.R_below (rs HO499) hb);have n6_:=am (Kd.S_below (by (with_reducible repeat (first|apply Kd.S_alloc|apply Kd.S_drewN|apply Kd.S_drew));exact HO505.out) hb);have n7_:=am (Kd.R_below (rs HO508) hb);have n8_:=am (Kd.R_below (rs HO511) hb);have n9_:=am (Kd.R_below (rs HO514) hb);have n10_:=am (Kd.R_below (rs HO517) hb);have n11_:=am (Kd.R_below (rs HO520) hb);have n12_:=am (blk_below (ks BK478) hb);have n13_:=am (below_step (bs HB) hb);have n14_:=am (hbox);have n15_:=am ((gs hg (bs HB)));have n16_:=am ((gs hg (bs HB)));have n17_:=am ((gn hg (ks BK478)));have n18_:=am ((gm hg (ks BK478)));clear HO484;clear HO487;clear HO490;clear HO493;clear HO496;clear HO499;clear HO505;clear HO508;clear HO511;clear HO514;clear HO517;clear HO520;clear BK478;clear HB;have HO484:=n0_;have HO487:=n1_;have HO490:=n2_;have HO493:=n3_;have HO496:=n4_;have HO499:=n5_;have HO505:=n6_;have HO508:=n7_;have HO511:=n8_;have HO514:=n9_;have HO517:=n10_;have HO520:=n11_;have BK478:=n12_;have HB:=n13_;have BK521:=n14_;have GW521:=n15_;have GE521:=n16_;have NB478_521:=n17_;have NB521_478:=n18_;clear n0_ n1_ n2_ n3_ n4_ n5_ n6_ n7_ n8_ n9_ n10_ n11_ n12_ n13_ n14_ n15_ n16_ n17_ n18_;clear hb hbox hg;have hnb23:=NB521_478.out;have hnc23:=NB478_521.out;obtain ⟨hcz24_0,hcz24_1,hcz24_2,hcz24_3,hcz24_4,hcz24_5,hcz24_6,hcz24_7,hfz24_0,hfz24_1,hfz24_2,hfz24_3,hfz24_4,hfz24_5,hfz24_6,hfz24_7⟩:=cf8 BK521;obtain ⟨Ao25,co25,eo25⟩:=Kd.S_slice HO505.out;subst eo25;obtain ⟨Ao26,co26,eo26⟩:=Kd.R_slice HO508.out;subst eo26;obtain ⟨Ao27,co27,eo27⟩:=Kd.R_slice HO511.out;subst eo27;obtain ⟨Ao28,co28,eo28⟩:=Kd.R_slice HO514.out;subst eo28;obtain ⟨Ao29,co29,eo29⟩:=Kd.R_slice HO517.out;subst eo29;obtain ⟨Ao30,co30,eo30⟩:=Kd.R_slice HO520.out;subst eo30))
  go_at_call 23;(with_reducible refine (impl_GateRight.calls k t501 t502 _ _ t503 _ _ t506 _ _ t509 _ _ t512 _ _ t515 _ _ t518 t522 _ ?side1 ?side2 ?side3 ?side4 ?side5 ?side6 ?side7 ?side8 ?side9 ?side10 ?side11 ?side12 A21.out).mono ?_);(case side1=>refine (Kd.S_reads' (e:=92) (base:=w.heap.size) (ok:=fun k_=>(True∧some k_≠(.slice Ao11 t482.length co11:Value).ownBlock)) (n:=t503.length) (c:=co25) ?_).2.2;exact (by (with_reducible repeat (first|apply Kd.S_alloc|apply Kd.S_drewN|apply Kd.S_drew));exact (Kd.S_mono (Kd.S_far (p:=⟨gb521,7,none⟩) (Kd.S_far (p:=⟨gb521,6,none⟩) (Kd.S_far (p:=⟨gb521,5,none⟩) (Kd.S_far (p:=⟨gb521,4,none⟩) (Kd.S_far (p:=⟨gb521,3,none⟩) (Kd.S_far (p:=⟨gb521,2,none⟩) (Kd.S_far (p:=⟨gb521,1,none⟩) (Kd.S_far (p:=⟨gb521,0,none⟩) (Kd.S_types HO505.out BK521.out (by decide)) (fun _ hk=>hk.2) (.string t501)) (fun _ hk=>hk.2) (.int .i64 t502)) (fun _ hk=>hk.2) (.slice Ao25 t503.length co25)) (fun _ hk=>hk.2) (.slice Ao26 t506.length co26)) (fun _ hk=>hk.2) (.slice Ao27 t509.length co27)) (fun _ hk=>hk.2) (.slice Ao28 t512.length co28)) (fun _ hk=>hk.2) (.slice Ao29 t515.length co29)) (fun _ hk=>hk.2) (.slice Ao30 t518.length co30)) (fun _ h_=>h_.1))));(case side2=>exact (Kd.S_reads' HO505.out).2.1);(case side3=>refine (Kd.R_reads' (e:=102) (base:=w.heap.size) (ok:=fun k_=>(True∧some k_≠(.slice Ao12 t485.length co12:Value).ownBlock)) (n:=t506.length) (c:=co26) ?_).2.2;exact (by (with_reducible repeat (first|apply Kd.R_alloc|apply Kd.R_drewN|apply Kd.R_drew));exact (Kd.R_mono (rf (Kd.R_types HO508.out BK521.out (by decide))) (fun _ h_=>h_.1))));(case side4=>exact (Kd.R_reads' HO508.out).2.1);(case side5=>refine (Kd.R_reads' (e:=71) (base:=w.heap.size) (ok:=fun k_=>(True∧some k_≠(.slice Ao13 t488.length co13:Value).ownBlock)) (n:=t509.length) (c:=co27) ?_).2.2;exact (by (with_reducible repeat (first|apply Kd.R_alloc|apply Kd.R_drewN|apply Kd.R_drew));exact (Kd.R_mono (rf (Kd.R_types HO511.out BK521.out (by decide))) (fun _ h_=>h_.1))));(case side6=>exact (Kd.R_reads' HO511.out).2.1);(case side7=>refine (Kd.R_reads' (e:=73) (base:=w.heap.size) (ok:=fun k_=>(True∧some k_≠(.slice Ao14 t491.length co14:Value).ownBlock)) (n:=t512.length) (c:=co28) ?_).2.2;exact (by (with_reducible repeat (first|apply Kd.R_alloc|apply Kd.R_drewN|apply Kd.R_drew));exact (Kd.R_mono (rf (Kd.R_types HO514.out BK521.out (by decide))) (fun _ h_=>h_.1))));(case side8=>exact (Kd.R_reads' HO514.out).2.1);(case side9=>refine (Kd.R_reads' (e:=105) (base:=w.heap.size) (ok:=fun k_=>(True∧some k_≠(.slice Ao15 t494.length co15:Value).ownBlock)) (n:=t515.length) (c:=co29) ?_).2.2;exact (by (with_reducible repeat (first|apply Kd.R_alloc|apply Kd.R_drewN|apply Kd.R_drew));exact (Kd.R_mono (rf (Kd.R_types HO517.out BK521.out (by decide))) (fun _ h_=>h_.1))));(case side10=>exact (Kd.R_reads' HO517.out).2.1);(case side11=>refine (Kd.R_reads' (e:=108) (base:=w.heap.size) (ok:=fun k_=>(True∧some k_≠(.slice Ao16 t497.length co16:Value).ownBlock)) (n:=t518.length) (c:=co30) ?_).2.2;exact (by (with_reducible repeat (first|apply Kd.R_alloc|apply Kd.R_drewN|apply Kd.R_drew));exact (Kd.R_mono (rf (Kd.R_types HO520.out BK521.out (by decide))) (fun _ h_=>h_.1))));(case side12=>exact (Kd.R_reads' HO520.out).2.1);rintro e w31 ⟨rfl,hb⟩;have n0_:=am (Kd.S_below (by (with_reducible repeat (first|apply Kd.S_alloc|apply Kd.S_drewN|apply Kd.S_drew));exact (Kd.S_mono (Kd.S_far (p:=⟨gb521,7,none⟩) (Kd.S_far (p:=⟨gb521,6,none⟩) (Kd.S_far (p:=⟨gb521,5,none⟩) (Kd.S_far (p:=⟨gb521,4,none⟩) (Kd.S_far (p:=⟨gb521,3,none⟩) (Kd.S_far (p:=⟨gb521,2,none⟩) (Kd.S_far (p:=⟨gb521,1,none⟩) (Kd.S_far (p:=⟨gb521,0,none⟩) (Kd.S_types HO484.out BK521.out (by decide)) (fun _ hk=>hk.2) (.string t501)) (fun _ hk=>hk.2) (.int .i64 t502)) (fun _ hk=>hk.2) (.slice Ao25 t503.length co25)) (fun _ hk=>hk.2) (.slice Ao26 t506.length co26)) (fun _ hk=>hk.2) (.slice Ao27 t509.length co27)) (fun _ hk=>hk.2) (.slice Ao28 t512.length co28)) (fun _ hk=>hk.2) (.slice Ao29 t515.length co29)) (fun _ hk=>hk.2) (.slice Ao30 t518.length co30)) (fun _ h_=>h_.1))) hb);have n1_:=am (Kd.R_below (by (with_reducible repeat (first|apply Kd.R_alloc|apply Kd.R_drewN|apply Kd.R_drew));exact (Kd.R_mono (rf (Kd.R_types HO487.out BK521.out (by decide))) (fun _ h_=>h_.1))) hb);have n2_:=am (Kd.R_below (by (with_reducible repeat (first|apply Kd.R_alloc|apply Kd.R_drewN|apply Kd.R_drew));exact (Kd.R_mono (rf (Kd.R_types HO490.out BK521.out (by decide))) (fun _ h_=>h_.1))) hb);have n3_:=am (Kd.R_below (by (with_reducible repeat (first|apply Kd.R_alloc|apply Kd.R_drewN|apply Kd.R_drew));exact (Kd.R_mono (rf (Kd.R_types HO493.out BK521.out (by decide))) (fun _ h_=>h_.1))) hb);have n4_:=am (Kd.R_below (by (with_reducible repeat (first|apply Kd.R_alloc|apply Kd.R_drewN|apply Kd.R_drew));exact (Kd.R_mono (rf (Kd.R_types HO496.out BK521.out (by decide))) (fun _ h_=>h_.1))) hb);have n5_:=am (Kd.R_below (by (with_reducible repeat (first|apply Kd.R_alloc|apply Kd.R_drewN|apply Kd.R_drew));exact (Kd.R_mono (rf (Kd.R_types HO499.out BK521.out (by decide))) (fun _ h_=>h_.1))) hb);have n6_:=am (Kd.S_below (by (with_reducible repeat (first|apply Kd.S_alloc|apply Kd.S_drewN|apply Kd.S_drew));exact (Kd.S_mono (Kd.S_far (p:=⟨gb521,7,none⟩) (Kd.S_far (p:=⟨gb521,6,none⟩) (Kd.S_far (p:=⟨gb521,5,none⟩) (Kd.S_far (p:=⟨gb521,4,none⟩) (Kd.S_far (p:=⟨gb521,3,none⟩) (Kd.S_far (p:=⟨gb521,2,none⟩) (Kd.S_far (p:=⟨gb521,1,none⟩) (Kd.S_far (p:=⟨gb521,0,none⟩) (Kd.S_types HO505.out BK521.out (by decide)) (fun _ hk=>hk.2) (.string t501)) (fun _ hk=>hk.2) (.int .i64 t502)) (fun _ hk=>hk.2) (.slice Ao25 t503.length co25)) (fun _ hk=>hk.2) (.slice Ao26 t506.length co26)) (fun _ hk=>hk.2) (.slice Ao27 t509.length co27)) (fun _ hk=>hk.2) (.slice Ao28 t512.length co28)) (fun _ hk=>hk.2) (.slice Ao29 t515.length co29)) (fun _ hk=>hk.2) (.slice Ao30 t518.length co30)) (fun _ h_=>h_.1))) hb);have n7_:=am (Kd.R_below (by (with_reducible repeat (first|apply Kd.R_alloc|apply Kd.R_drewN|apply Kd.R_drew));exact (Kd.R_mono (rf (Kd.R_types HO508.out BK521.out (by decide))) (fun _ h_=>h_.1))) hb);have n8_:=am (Kd.R_below (by (with_reducible repeat (first|apply Kd.R_alloc|apply Kd.R_drewN|apply Kd.R_drew));exact (Kd.R_mono (rf (Kd.R_types HO511.out BK521.out (by decide))) (fun _ h_=>h_.1))) hb);have n9_:=am (Kd.R_below (by (with_reducible repeat (first|apply Kd.R_alloc|apply Kd.R_drewN|apply Kd.R_drew));exact (Kd.R_mono (rf (Kd.R_types HO514.out BK521.out (by decide))) (fun _ h_=>h_.1))) hb);have n10_:=am (Kd.R_below (by (with_reducible repeat (first|apply Kd.R_alloc|apply Kd.R_drewN|apply Kd.R_drew));exact (Kd.R_mono (rf (Kd.R_types HO517.out BK521.out (by decide))) (fun _ h_=>h_.1))) hb);have n11_:=am (Kd.R_below (by (with_reducible repeat (first|apply Kd.R_alloc|apply Kd.R_drewN|apply Kd.R_drew));exact (Kd.R_mono (rf (Kd.R_types HO520.out BK521.out (by decide))) (fun _ h_=>h_.1))) hb);have n12_:=am (blk_below (ks BK478) hb);have n13_:=am (blk_below (g:=gb521) (o:=.cells #[.string t501,.int .i64 t502,.slice Ao25 t503.length co25,.slice Ao26 t506.length co26,.slice Ao27 t509.length co27,.slice Ao28 t512.length co28,.slice Ao29 t515.length co29,.slice Ao30 t518.length co30] 31 (0,0)) (kp BK521) hb);have n14_:=am (below_step (bs HB) hb);clear HO484;clear HO487;clear HO490;clear HO493;clear HO496;clear HO499;clear HO505;clear HO508;clear HO511;clear HO514;clear HO517;clear HO520;clear BK478;clear BK521;clear HB;have HO484:=n0_;have HO487:=n1_;have HO490:=n2_;have HO493:=n3_;have HO496:=n4_;have HO499:=n5_;have HO505:=n6_;have HO508:=n7_;have HO511:=n8_;have HO514:=n9_;have HO517:=n10_;have HO520:=n11_;have BK478:=n12_;have BK521:=n13_;have HB:=n14_;clear n0_ n1_ n2_ n3_ n4_ n5_ n6_ n7_ n8_ n9_ n10_ n11_ n12_ n13_ n14_;(try clear hb);(try clear hb2);(try clear hk);(try clear hi)
  by_cases c32:(t522 != t500)=true
  ·rw [if_pos c32] at H;have c32b0:(t522 != t500)=true:=c32
   (try (have c32b1:decide (t522=t500)=false:=by simpa using c32))
   (try (have c32b2:(t522 == t500)=false:=by simpa using c32))
   (try (have c32b3:¬ (t522=t500):=by simpa using c32))
   clear c32;obtain rfl:=Option.some.inj H
   go_wp2
   go_ret
   exact ⟨ff,bs HB⟩
  ·rw [if_neg c32] at H
   have c32b0:(t522 != t500)=false:=by simpa using c32
   (try (have c32b1:decide (t522=t500)=true:=by simpa using c32))
   (try (have c32b2:(t522 == t500)=true:=by simpa using c32))
   clear c32;replace H:=Option.bind_eq_some_iff.mp H;obtain ⟨⟨t523,t524,t525,t528,t531,t534,t537,t540⟩,A330,H⟩:=H;replace H:((laws_eqGate.f k t501 t502 t503 t506 t509 t512 t515 t518 t523 t524 t525 t528 t531 t534 t537 t540).bind fun t543=>(if t543=true then (some true) else (some false)))=some r:=H;have A33:=am A330;clear A330;replace H:=Option.bind_eq_some_iff.mp H;obtain ⟨t543,A340,H⟩:=H;replace H:(if t543=true then (some true) else (some false))=some r:=H;have A34:=am A340;clear A340
   by_cases c35:t543=true
   ·subst c35
    have H1:(some true)=some r:=by rw [if_pos rfl] at H;exact H
    clear H;have H:=H1;clear H1;obtain rfl:=Option.some.inj H
    try go_wp2
    replace HO484:=am (Kd.S_drew HO484.out);replace HO487:=am (Kd.R_drew HO487.out);replace HO490:=am (Kd.R_drew HO490.out);replace HO493:=am (Kd.R_drew HO493.out);replace HO496:=am (Kd.R_drew HO496.out);replace HO499:=am (Kd.R_drew HO499.out);replace HO505:=am (Kd.S_drew HO505.out);replace HO508:=am (Kd.R_drew HO508.out);replace HO511:=am (Kd.R_drew HO511.out);replace HO514:=am (Kd.R_drew HO514.out);replace HO517:=am (Kd.R_drew HO517.out);replace HO520:=am (Kd.R_drew HO520.out);replace BK478:=am (blk_drew BK478.out);replace BK521:=am (blk_drew BK521.out);replace HB:=am (below_drew1 HB.out);refine start_ (n:=5) (S:=fun w'=>qk8a w' gb521 (.string t501) (.int .i64 t502) (.slice Ao25 t503.length co25) (.slice Ao26 t506.length co26) (.slice Ao27 t509.length co27) (.slice Ao28 t512.length co28) (.slice Ao29 t515.length co29) (.slice Ao30 t518.length co30) (qk8 w' gb478 (.string a0_0) (.int .i64 a0_1) (.slice A0_2 l0_2.length c0_2) (.slice A0_3 l0_3.length c0_3) (.slice A0_4 l0_4.length c0_4) (.slice A0_5 l0_5.length c0_5) (.slice A0_6 l0_6.length c0_6) (.slice A0_7 l0_7.length c0_7))) (ds:=[]) _ (by kernel_rfl) rfl rfl (qb8a BK521 (qb8 BK478)) (fun hHeld=>?_)
    generalize w31.drew=w36 at HO484 HO487 HO490 HO493 HO496 HO499 HO505 HO508 HO511 HO514 HO517 HO520 BK478 BK521 HB hHeld ⊢
    refine take_ (i:=0) (N:=some 22) (v:=?_) (a':=?_) #[true,false,false,false,false] rfl rfl (by kernel_rfl) (fun _ _ _ h=>h) (Or.inl ⟨by rfl,?_⟩) hHeld ?_ ?_
    rotate_left
    ·rintro w' ⟨s0,s1,s2,s3,s4,s5,s6,s7,s8,s9,s10,s11,s12,s13,s14,s15⟩
     go_simp
     (with_reducible rfl)
    rotate_left
    ·simp only [Act.put,List.setIfInBounds_toArray,List.set_cons_zero,List.set_cons_succ,i64_w,i32_w]
     rfl
    refine take_ (i:=1) (N:=some 23) (v:=?_) (a':=?_) #[true,true,false,false,false] rfl rfl (by kernel_rfl) (fun _ _ _ h=>h) (Or.inl ⟨by rfl,?_⟩) hHeld ?_ ?_
    rotate_left
    ·rintro w' ⟨s0,s1,s2,s3,s4,s5,s6,s7,s8,s9,s10,s11,s12,s13,s14,s15⟩
     go_simp
     (with_reducible rfl)
    rotate_left
    ·simp only [Act.put,List.setIfInBounds_toArray,List.set_cons_zero,List.set_cons_succ,i64_w,i32_w]
     rfl
    refine one_ (i:=2) (N:=some 24) #[true,true,true,false,false] rfl rfl (by kernel_rfl) (by decide) (fun K hK=>?_);refine gA Try.func22 #[.agg #[.string a0_0,.int .i64 a0_1,.slice A0_2 l0_2.length c0_2,.slice A0_3 l0_3.length c0_3,.slice A0_4 l0_4.length c0_4,.slice A0_5 l0_5.length c0_5,.slice A0_6 l0_6.length c0_6,.slice A0_7 l0_7.length c0_7]] ?_;(with_reducible refine (laws_toGate.calls k a0_0 a0_1 _ _ l0_2 _ _ l0_3 _ _ l0_4 _ _ l0_5 _ _ l0_6 _ _ l0_7 t523 t524 t525 t528 t531 t534 t537 t540 _ ?side1 ?side2 ?side3 ?side4 ?side5 ?side6 ?side7 ?side8 ?side9 ?side10 ?side11 ?side12 A33.out).mono ?_)
    (case side1=>repeat (first|exact (Kd.C_below HR0_2.out HB.out)|(with_reducible refine Kd.C_alloc ?_ _)|(with_reducible refine Kd.C_drewN ?_ _)|(with_reducible refine Kd.C_drew ?_)))
    (case side2=>exact HC0_2.out)
    (case side3=>repeat (first|exact (Kd.C_below HR0_3.out HB.out)|(with_reducible refine Kd.C_alloc ?_ _)|(with_reducible refine Kd.C_drewN ?_ _)|(with_reducible refine Kd.C_drew ?_)))
    (case side4=>exact HC0_3.out)
    (case side5=>repeat (first|exact (Kd.C_below HR0_4.out HB.out)|(with_reducible refine Kd.C_alloc ?_ _)|(with_reducible refine Kd.C_drewN ?_ _)|(with_reducible refine Kd.C_drew ?_)))
    (case side6=>exact HC0_4.out)
    (case side7=>repeat (first|exact (Kd.C_below HR0_5.out HB.out)|(with_reducible refine Kd.C_alloc ?_ _)|(with_reducible refine Kd.C_drewN ?_ _)|(with_reducible refine Kd.C_drew ?_)))
    (case side8=>exact HC0_5.out)
    (case side9=>repeat (first|exact (Kd.C_below HR0_6.out HB.out)|(with_reducible refine Kd.C_alloc ?_ _)|(with_reducible refine Kd.C_drewN ?_ _)|(with_reducible refine Kd.C_drew ?_)))
    (case side10=>exact HC0_6.out)
    (case side11=>repeat (first|exact (Kd.C_below HR0_7.out HB.out)|(with_reducible refine Kd.C_alloc ?_ _)|(with_reducible refine Kd.C_drewN ?_ _)|(with_reducible refine Kd.C_drew ?_)))
    (case side12=>exact HC0_7.out)
    rintro e w37 ⟨v526,v529,v532,v535,v538,v541,rfl,ho0,ho1,ho2,ho3,ho4,ho5,hb⟩;refine ⟨_,rfl,?_⟩;have n0_:=am (Kd.S_elder' (by (with_reducible repeat (first|apply Kd.S_alloc|apply Kd.S_drewN|apply Kd.S_drew));exact HO484.out) (Kd.S_base ho0) hb);have n1_:=am (Kd.R_elder' (rs HO487) (Kd.R_base ho1) hb);have n2_:=am (Kd.R_elder' (rs HO490) (Kd.R_base ho2) hb);have n3_:=am (Kd.R_elder' (rs HO493) (Kd.R_base ho3) hb);have n4_:=am (Kd.R_elder' (rs HO496) (Kd.R_base ho4) hb);have n5_:=am (Kd.R_elder' (rs HO499) (Kd.R_base ho5) hb);have n6_:=am (Kd.S_elder' (by (with_reducible repeat (first|apply Kd.S_alloc|apply Kd.S_drewN|apply Kd.S_drew));exact HO505.out) (Kd.S_base ho0) hb);have n7_:=am (Kd.R_elder' (rs HO508) (Kd.R_base ho1) hb);have n8_:=am (Kd.R_elder' (rs HO511) (Kd.R_base ho2) hb);have n9_:=am (Kd.R_elder' (rs HO514) (Kd.R_base ho3) hb);have n10_:=am (Kd.R_elder' (rs HO517) (Kd.R_base ho4) hb);have n11_:=am (Kd.R_elder' (rs HO520) (Kd.R_base ho5) hb);have n12_:=am (Kd.S_lower (Kd.S_new' (Kd.S_new' ho0 (Kd.S_lt (by (with_reducible repeat (first|apply Kd.S_alloc|apply Kd.S_drewN|apply Kd.S_drew));exact HO484.out))) (Kd.S_lt (by (with_reducible repeat (first|apply Kd.S_alloc|apply Kd.S_drewN|apply Kd.S_drew));exact HO505.out))) (below_size (bs HB)));have n13_:=am (Kd.R_lower (Kd.R_new' (Kd.R_new' ho1 (Kd.R_lt (rs HO487))) (Kd.R_lt (rs HO508))) (below_size (bs HB)));have n14_:=am (Kd.R_lower (Kd.R_new' (Kd.R_new' ho2 (Kd.R_lt (rs HO490))) (Kd.R_lt (rs HO511))) (below_size (bs HB)));have n15_:=am (Kd.R_lower (Kd.R_new' (Kd.R_new' ho3 (Kd.R_lt (rs HO493))) (Kd.R_lt (rs HO514))) (below_size (bs HB)));have n16_:=am (Kd.R_lower (Kd.R_new' (Kd.R_new' ho4 (Kd.R_lt (rs HO496))) (Kd.R_lt (rs HO517))) (below_size (bs HB)));have n17_:=am (Kd.R_lower (Kd.R_new' (Kd.R_new' ho5 (Kd.R_lt (rs HO499))) (Kd.R_lt (rs HO520))) (below_size (bs HB)));have n18_:=am (blk_below (ks BK478) hb);have n19_:=am (blk_below (ks BK521) hb);have n20_:=am (below_step (bs HB) hb);clear HO484;clear HO487;clear HO490;clear HO493;clear HO496;clear HO499;clear HO505;clear HO508;clear HO511;clear HO514;clear HO517;clear HO520;clear BK478;clear BK521;clear HB;have HO484:=n0_;have HO487:=n1_;have HO490:=n2_;have HO493:=n3_;have HO496:=n4_;have HO499:=n5_;have HO505:=n6_;have HO508:=n7_;have HO511:=n8_;have HO514:=n9_;have HO517:=n10_;have HO520:=n11_;have HO527:=n12_;have HO530:=n13_;have HO533:=n14_;have HO536:=n15_;have HO539:=n16_;have HO542:=n17_;have BK478:=n18_;have BK521:=n19_;have HB:=n20_;clear n0_ n1_ n2_ n3_ n4_ n5_ n6_ n7_ n8_ n9_ n10_ n11_ n12_ n13_ n14_ n15_ n16_ n17_ n18_ n19_ n20_;(try clear hb);(try clear hb2);(try clear hk);(try clear hi);(try clear ho0);(try clear ho1);(try clear ho2);(try clear ho3);(try clear ho4);(try clear ho5);obtain ⟨Ao38,co38,eo38⟩:=Kd.S_slice HO527.out
    (first|subst eo38|(injection eo38 with f1_ f2_ f3_;have f4_:=f1_.symm;have f5_:=f3_.symm;clear f1_ f2_ f3_;subst f4_;subst f5_))
    obtain ⟨Ao39,co39,eo39⟩:=Kd.R_slice HO530.out
    (first|subst eo39|(injection eo39 with f1_ f2_ f3_;have f4_:=f1_.symm;have f5_:=f3_.symm;clear f1_ f2_ f3_;subst f4_;subst f5_))
    obtain ⟨Ao40,co40,eo40⟩:=Kd.R_slice HO533.out
    (first|subst eo40|(injection eo40 with f1_ f2_ f3_;have f4_:=f1_.symm;have f5_:=f3_.symm;clear f1_ f2_ f3_;subst f4_;subst f5_))
    obtain ⟨Ao41,co41,eo41⟩:=Kd.R_slice HO536.out
    (first|subst eo41|(injection eo41 with f1_ f2_ f3_;have f4_:=f1_.symm;have f5_:=f3_.symm;clear f1_ f2_ f3_;subst f4_;subst f5_))
    obtain ⟨Ao42,co42,eo42⟩:=Kd.R_slice HO539.out
    (first|subst eo42|(injection eo42 with f1_ f2_ f3_;have f4_:=f1_.symm;have f5_:=f3_.symm;clear f1_ f2_ f3_;subst f4_;subst f5_))
    obtain ⟨Ao43,co43,eo43⟩:=Kd.R_slice HO542.out
    (first|subst eo43|(injection eo43 with f1_ f2_ f3_;have f4_:=f1_.symm;have f5_:=f3_.symm;clear f1_ f2_ f3_;subst f4_;subst f5_))
    refine hK.out _ _ (qb8a BK521 (qb8 BK478)) (fun hHeld=>?_);clear hK K;refine nA 24 ?_;refine one_ (i:=3) (N:=some 25) #[true,true,true,true,false] rfl rfl (by kernel_rfl) (by decide) (fun K hK=>?_);refine gA Try.func8 #[.agg #[.string t501,.int .i64 t502,.slice Ao25 t503.length co25,.slice Ao26 t506.length co26,.slice Ao27 t509.length co27,.slice Ao28 t512.length co28,.slice Ao29 t515.length co29,.slice Ao30 t518.length co30],.agg #[.string t523,.int .i64 t524,.slice Ao38 t525.length co38,.slice Ao39 t528.length co39,.slice Ao40 t531.length co40,.slice Ao41 t534.length co41,.slice Ao42 t537.length co42,.slice Ao43 t540.length co43]] ?_;(with_reducible refine (laws_eqGate.calls k t501 t502 _ _ t503 _ _ t506 _ _ t509 _ _ t512 _ _ t515 _ _ t518 t523 t524 _ _ t525 _ _ t528 _ _ t531 _ _ t534 _ _ t537 _ _ t540 true _ ?side1 ?side2 ?side3 ?side4 ?side5 ?side6 ?side7 ?side8 ?side9 ?side10 ?side11 ?side12 ?side13 ?side14 ?side15 ?side16 ?side17 ?side18 ?side19 ?side20 ?side21 ?side22 ?side23 ?side24 A34.out).mono ?_)
    (case side1=>repeat (first|exact (Kd.S_reads' HO505.out).2.2|(with_reducible refine Kd.C_alloc ?_ _)|(with_reducible refine Kd.C_drewN ?_ _)|(with_reducible refine Kd.C_drew ?_)))
    (case side2=>exact (Kd.S_reads' HO505.out).2.1)
    (case side3=>repeat (first|exact (Kd.R_reads' HO508.out).2.2|(with_reducible refine Kd.C_alloc ?_ _)|(with_reducible refine Kd.C_drewN ?_ _)|(with_reducible refine Kd.C_drew ?_)))
    (case side4=>exact (Kd.R_reads' HO508.out).2.1)
    (case side5=>repeat (first|exact (Kd.R_reads' HO511.out).2.2|(with_reducible refine Kd.C_alloc ?_ _)|(with_reducible refine Kd.C_drewN ?_ _)|(with_reducible refine Kd.C_drew ?_)))
    (case side6=>exact (Kd.R_reads' HO511.out).2.1)
    (case side7=>repeat (first|exact (Kd.R_reads' HO514.out).2.2|(with_reducible refine Kd.C_alloc ?_ _)|(with_reducible refine Kd.C_drewN ?_ _)|(with_reducible refine Kd.C_drew ?_)))
    (case side8=>exact (Kd.R_reads' HO514.out).2.1)
    (case side9=>repeat (first|exact (Kd.R_reads' HO517.out).2.2|(with_reducible refine Kd.C_alloc ?_ _)|(with_reducible refine Kd.C_drewN ?_ _)|(with_reducible refine Kd.C_drew ?_)))
    (case side10=>exact (Kd.R_reads' HO517.out).2.1)
    (case side11=>repeat (first|exact (Kd.R_reads' HO520.out).2.2|(with_reducible refine Kd.C_alloc ?_ _)|(with_reducible refine Kd.C_drewN ?_ _)|(with_reducible refine Kd.C_drew ?_)))
    (case side12=>exact (Kd.R_reads' HO520.out).2.1)
    (case side13=>repeat (first|exact (Kd.S_reads' HO527.out).2.2|(with_reducible refine Kd.C_alloc ?_ _)|(with_reducible refine Kd.C_drewN ?_ _)|(with_reducible refine Kd.C_drew ?_)))
    (case side14=>exact (Kd.S_reads' HO527.out).2.1)
    (case side15=>repeat (first|exact (Kd.R_reads' HO530.out).2.2|(with_reducible refine Kd.C_alloc ?_ _)|(with_reducible refine Kd.C_drewN ?_ _)|(with_reducible refine Kd.C_drew ?_)))
    (case side16=>exact (Kd.R_reads' HO530.out).2.1)
    (case side17=>repeat (first|exact (Kd.R_reads' HO533.out).2.2|(with_reducible refine Kd.C_alloc ?_ _)|(with_reducible refine Kd.C_drewN ?_ _)|(with_reducible refine Kd.C_drew ?_)))
    (case side18=>exact (Kd.R_reads' HO533.out).2.1)
    (case side19=>repeat (first|exact (Kd.R_reads' HO536.out).2.2|(with_reducible refine Kd.C_alloc ?_ _)|(with_reducible refine Kd.C_drewN ?_ _)|(with_reducible refine Kd.C_drew ?_)))
    (case side20=>exact (Kd.R_reads' HO536.out).2.1)
    (case side21=>repeat (first|exact (Kd.R_reads' HO539.out).2.2|(with_reducible refine Kd.C_alloc ?_ _)|(with_reducible refine Kd.C_drewN ?_ _)|(with_reducible refine Kd.C_drew ?_)))
    (case side22=>exact (Kd.R_reads' HO539.out).2.1)
    (case side23=>repeat (first|exact (Kd.R_reads' HO542.out).2.2|(with_reducible refine Kd.C_alloc ?_ _)|(with_reducible refine Kd.C_drewN ?_ _)|(with_reducible refine Kd.C_drew ?_)))
    (case side24=>exact (Kd.R_reads' HO542.out).2.1)
    rintro e w44 ⟨rfl,hb⟩;refine ⟨_,rfl,?_⟩;have n0_:=am (Kd.S_below (by (with_reducible repeat (first|apply Kd.S_alloc|apply Kd.S_drewN|apply Kd.S_drew));exact HO484.out) hb);have n1_:=am (Kd.R_below (rs HO487) hb);have n2_:=am (Kd.R_below (rs HO490) hb);have n3_:=am (Kd.R_below (rs HO493) hb);have n4_:=am (Kd.R_below (rs HO496) hb);have n5_:=am (Kd.R_below (rs HO499) hb);have n6_:=am (Kd.S_below (by (with_reducible repeat (first|apply Kd.S_alloc|apply Kd.S_drewN|apply Kd.S_drew));exact HO505.out) hb);have n7_:=am (Kd.R_below (rs HO508) hb);have n8_:=am (Kd.R_below (rs HO511) hb);have n9_:=am (Kd.R_below (rs HO514) hb);have n10_:=am (Kd.R_below (rs HO517) hb);have n11_:=am (Kd.R_below (rs HO520) hb);have n12_:=am (Kd.S_below (by (with_reducible repeat (first|apply Kd.S_alloc|apply Kd.S_drewN|apply Kd.S_drew));exact HO527.out) hb);have n13_:=am (Kd.R_below (rs HO530) hb);have n14_:=am (Kd.R_below (rs HO533) hb);have n15_:=am (Kd.R_below (rs HO536) hb);have n16_:=am (Kd.R_below (rs HO539) hb);have n17_:=am (Kd.R_below (rs HO542) hb);have n18_:=am (blk_below (ks BK478) hb);have n19_:=am (blk_below (ks BK521) hb);have n20_:=am (below_step (bs HB) hb);clear HO484;clear HO487;clear HO490;clear HO493;clear HO496;clear HO499;clear HO505;clear HO508;clear HO511;clear HO514;clear HO517;clear HO520;clear HO527;clear HO530;clear HO533;clear HO536;clear HO539;clear HO542;clear BK478;clear BK521;clear HB;have HO484:=n0_;have HO487:=n1_;have HO490:=n2_;have HO493:=n3_;have HO496:=n4_;have HO499:=n5_;have HO505:=n6_;have HO508:=n7_;have HO511:=n8_;have HO514:=n9_;have HO517:=n10_;have HO520:=n11_;have HO527:=n12_;have HO530:=n13_;have HO533:=n14_;have HO536:=n15_;have HO539:=n16_;have HO542:=n17_;have BK478:=n18_;have BK521:=n19_;have HB:=n20_;clear n0_ n1_ n2_ n3_ n4_ n5_ n6_ n7_ n8_ n9_ n10_ n11_ n12_ n13_ n14_ n15_ n16_ n17_ n18_ n19_ n20_;(try clear hb);(try clear hb2);(try clear hk);(try clear hi);refine hK.out _ _ (qb8a BK521 (qb8 BK478)) (fun hHeld=>?_);clear hK K;refine nA 25 ?_;refine pure_ (i:=4) (N:=some 26) (v:=?_) (a':=?_) #[true,true,true,true,true] rfl rfl (by kernel_rfl) (fun _ _ _ h=>h) (Or.inl ⟨by rfl,?_⟩) ?_ ?_
    rotate_left
    ·intro w'
     go_simp
     (with_reducible rfl)
    rotate_left
    ·simp only [Act.put,List.setIfInBounds_toArray,List.set_cons_zero,List.set_cons_succ,i64_w,i32_w]
     rfl
    refine done_ (by kernel_rfl) ?_
    try go_wp2
    go_ret
    exact ⟨ff,bs HB⟩
   ·replace c35:=Bool.eq_false_iff.mpr c35;subst c35
    have H1:(some false)=some r:=by rw [if_neg (show ¬ (false=true) by decide)] at H;exact H
    clear H;have H:=H1;clear H1;obtain rfl:=Option.some.inj H
    try go_wp2
    replace HO484:=am (Kd.S_drew HO484.out);replace HO487:=am (Kd.R_drew HO487.out);replace HO490:=am (Kd.R_drew HO490.out);replace HO493:=am (Kd.R_drew HO493.out);replace HO496:=am (Kd.R_drew HO496.out);replace HO499:=am (Kd.R_drew HO499.out);replace HO505:=am (Kd.S_drew HO505.out);replace HO508:=am (Kd.R_drew HO508.out);replace HO511:=am (Kd.R_drew HO511.out);replace HO514:=am (Kd.R_drew HO514.out);replace HO517:=am (Kd.R_drew HO517.out);replace HO520:=am (Kd.R_drew HO520.out);replace BK478:=am (blk_drew BK478.out);replace BK521:=am (blk_drew BK521.out);replace HB:=am (below_drew1 HB.out);refine start_ (n:=5) (S:=fun w'=>qk8a w' gb521 (.string t501) (.int .i64 t502) (.slice Ao25 t503.length co25) (.slice Ao26 t506.length co26) (.slice Ao27 t509.length co27) (.slice Ao28 t512.length co28) (.slice Ao29 t515.length co29) (.slice Ao30 t518.length co30) (qk8 w' gb478 (.string a0_0) (.int .i64 a0_1) (.slice A0_2 l0_2.length c0_2) (.slice A0_3 l0_3.length c0_3) (.slice A0_4 l0_4.length c0_4) (.slice A0_5 l0_5.length c0_5) (.slice A0_6 l0_6.length c0_6) (.slice A0_7 l0_7.length c0_7))) (ds:=[]) _ (by kernel_rfl) rfl rfl (qb8a BK521 (qb8 BK478)) (fun hHeld=>?_)
    generalize w31.drew=w45 at HO484 HO487 HO490 HO493 HO496 HO499 HO505 HO508 HO511 HO514 HO517 HO520 BK478 BK521 HB hHeld ⊢
    refine take_ (i:=0) (N:=some 22) (v:=?_) (a':=?_) #[true,false,false,false,false] rfl rfl (by kernel_rfl) (fun _ _ _ h=>h) (Or.inl ⟨by rfl,?_⟩) hHeld ?_ ?_
    rotate_left
    ·rintro w' ⟨s0,s1,s2,s3,s4,s5,s6,s7,s8,s9,s10,s11,s12,s13,s14,s15⟩
     go_simp
     (with_reducible rfl)
    rotate_left
    ·simp only [Act.put,List.setIfInBounds_toArray,List.set_cons_zero,List.set_cons_succ,i64_w,i32_w]
     rfl
    refine take_ (i:=1) (N:=some 23) (v:=?_) (a':=?_) #[true,true,false,false,false] rfl rfl (by kernel_rfl) (fun _ _ _ h=>h) (Or.inl ⟨by rfl,?_⟩) hHeld ?_ ?_
    rotate_left
    ·rintro w' ⟨s0,s1,s2,s3,s4,s5,s6,s7,s8,s9,s10,s11,s12,s13,s14,s15⟩
     go_simp
     (with_reducible rfl)
    rotate_left
    ·simp only [Act.put,List.setIfInBounds_toArray,List.set_cons_zero,List.set_cons_succ,i64_w,i32_w]
     rfl
    refine one_ (i:=2) (N:=some 24) #[true,true,true,false,false] rfl rfl (by kernel_rfl) (by decide) (fun K hK=>?_);refine gA Try.func22 #[.agg #[.string a0_0,.int .i64 a0_1,.slice A0_2 l0_2.length c0_2,.slice A0_3 l0_3.length c0_3,.slice A0_4 l0_4.length c0_4,.slice A0_5 l0_5.length c0_5,.slice A0_6 l0_6.length c0_6,.slice A0_7 l0_7.length c0_7]] ?_;(with_reducible refine (laws_toGate.calls k a0_0 a0_1 _ _ l0_2 _ _ l0_3 _ _ l0_4 _ _ l0_5 _ _ l0_6 _ _ l0_7 t523 t524 t525 t528 t531 t534 t537 t540 _ ?side1 ?side2 ?side3 ?side4 ?side5 ?side6 ?side7 ?side8 ?side9 ?side10 ?side11 ?side12 A33.out).mono ?_)
    (case side1=>repeat (first|exact (Kd.C_below HR0_2.out HB.out)|(with_reducible refine Kd.C_alloc ?_ _)|(with_reducible refine Kd.C_drewN ?_ _)|(with_reducible refine Kd.C_drew ?_)))
    (case side2=>exact HC0_2.out)
    (case side3=>repeat (first|exact (Kd.C_below HR0_3.out HB.out)|(with_reducible refine Kd.C_alloc ?_ _)|(with_reducible refine Kd.C_drewN ?_ _)|(with_reducible refine Kd.C_drew ?_)))
    (case side4=>exact HC0_3.out)
    (case side5=>repeat (first|exact (Kd.C_below HR0_4.out HB.out)|(with_reducible refine Kd.C_alloc ?_ _)|(with_reducible refine Kd.C_drewN ?_ _)|(with_reducible refine Kd.C_drew ?_)))
    (case side6=>exact HC0_4.out)
    (case side7=>repeat (first|exact (Kd.C_below HR0_5.out HB.out)|(with_reducible refine Kd.C_alloc ?_ _)|(with_reducible refine Kd.C_drewN ?_ _)|(with_reducible refine Kd.C_drew ?_)))
    (case side8=>exact HC0_5.out)
    (case side9=>repeat (first|exact (Kd.C_below HR0_6.out HB.out)|(with_reducible refine Kd.C_alloc ?_ _)|(with_reducible refine Kd.C_drewN ?_ _)|(with_reducible refine Kd.C_drew ?_)))
    (case side10=>exact HC0_6.out)
    (case side11=>repeat (first|exact (Kd.C_below HR0_7.out HB.out)|(with_reducible refine Kd.C_alloc ?_ _)|(with_reducible refine Kd.C_drewN ?_ _)|(with_reducible refine Kd.C_drew ?_)))
    (case side12=>exact HC0_7.out)
    rintro e w46 ⟨v526,v529,v532,v535,v538,v541,rfl,ho0,ho1,ho2,ho3,ho4,ho5,hb⟩;refine ⟨_,rfl,?_⟩;have n0_:=am (Kd.S_elder' (by (with_reducible repeat (first|apply Kd.S_alloc|apply Kd.S_drewN|apply Kd.S_drew));exact HO484.out) (Kd.S_base ho0) hb);have n1_:=am (Kd.R_elder' (rs HO487) (Kd.R_base ho1) hb);have n2_:=am (Kd.R_elder' (rs HO490) (Kd.R_base ho2) hb);have n3_:=am (Kd.R_elder' (rs HO493) (Kd.R_base ho3) hb);have n4_:=am (Kd.R_elder' (rs HO496) (Kd.R_base ho4) hb);have n5_:=am (Kd.R_elder' (rs HO499) (Kd.R_base ho5) hb);have n6_:=am (Kd.S_elder' (by (with_reducible repeat (first|apply Kd.S_alloc|apply Kd.S_drewN|apply Kd.S_drew));exact HO505.out) (Kd.S_base ho0) hb);have n7_:=am (Kd.R_elder' (rs HO508) (Kd.R_base ho1) hb);have n8_:=am (Kd.R_elder' (rs HO511) (Kd.R_base ho2) hb);have n9_:=am (Kd.R_elder' (rs HO514) (Kd.R_base ho3) hb);have n10_:=am (Kd.R_elder' (rs HO517) (Kd.R_base ho4) hb);have n11_:=am (Kd.R_elder' (rs HO520) (Kd.R_base ho5) hb);have n12_:=am (Kd.S_lower (Kd.S_new' (Kd.S_new' ho0 (Kd.S_lt (by (with_reducible repeat (first|apply Kd.S_alloc|apply Kd.S_drewN|apply Kd.S_drew));exact HO484.out))) (Kd.S_lt (by (with_reducible repeat (first|apply Kd.S_alloc|apply Kd.S_drewN|apply Kd.S_drew));exact HO505.out))) (below_size (bs HB)));have n13_:=am (Kd.R_lower (Kd.R_new' (Kd.R_new' ho1 (Kd.R_lt (rs HO487))) (Kd.R_lt (rs HO508))) (below_size (bs HB)));have n14_:=am (Kd.R_lower (Kd.R_new' (Kd.R_new' ho2 (Kd.R_lt (rs HO490))) (Kd.R_lt (rs HO511))) (below_size (bs HB)));have n15_:=am (Kd.R_lower (Kd.R_new' (Kd.R_new' ho3 (Kd.R_lt (rs HO493))) (Kd.R_lt (rs HO514))) (below_size (bs HB)));have n16_:=am (Kd.R_lower (Kd.R_new' (Kd.R_new' ho4 (Kd.R_lt (rs HO496))) (Kd.R_lt (rs HO517))) (below_size (bs HB)));have n17_:=am (Kd.R_lower (Kd.R_new' (Kd.R_new' ho5 (Kd.R_lt (rs HO499))) (Kd.R_lt (rs HO520))) (below_size (bs HB)));have n18_:=am (blk_below (ks BK478) hb);have n19_:=am (blk_below (ks BK521) hb);have n20_:=am (below_step (bs HB) hb);clear HO484;clear HO487;clear HO490;clear HO493;clear HO496;clear HO499;clear HO505;clear HO508;clear HO511;clear HO514;clear HO517;clear HO520;clear BK478;clear BK521;clear HB;have HO484:=n0_;have HO487:=n1_;have HO490:=n2_;have HO493:=n3_;have HO496:=n4_;have HO499:=n5_;have HO505:=n6_;have HO508:=n7_;have HO511:=n8_;have HO514:=n9_;have HO517:=n10_;have HO520:=n11_;have HO527:=n12_;have HO530:=n13_;have HO533:=n14_;have HO536:=n15_;have HO539:=n16_;have HO542:=n17_;have BK478:=n18_;have BK521:=n19_;have HB:=n20_;clear n0_ n1_ n2_ n3_ n4_ n5_ n6_ n7_ n8_ n9_ n10_ n11_ n12_ n13_ n14_ n15_ n16_ n17_ n18_ n19_ n20_;(try clear hb);(try clear hb2);(try clear hk);(try clear hi);(try clear ho0);(try clear ho1);(try clear ho2);(try clear ho3);(try clear ho4);(try clear ho5);obtain ⟨Ao47,co47,eo47⟩:=Kd.S_slice HO527.out
    (first|subst eo47|(injection eo47 with f1_ f2_ f3_;have f4_:=f1_.symm;have f5_:=f3_.symm;clear f1_ f2_ f3_;subst f4_;subst f5_))
    obtain ⟨Ao48,co48,eo48⟩:=Kd.R_slice HO530.out
    (first|subst eo48|(injection eo48 with f1_ f2_ f3_;have f4_:=f1_.symm;have f5_:=f3_.symm;clear f1_ f2_ f3_;subst f4_;subst f5_))
    obtain ⟨Ao49,co49,eo49⟩:=Kd.R_slice HO533.out
    (first|subst eo49|(injection eo49 with f1_ f2_ f3_;have f4_:=f1_.symm;have f5_:=f3_.symm;clear f1_ f2_ f3_;subst f4_;subst f5_))
    obtain ⟨Ao50,co50,eo50⟩:=Kd.R_slice HO536.out
    (first|subst eo50|(injection eo50 with f1_ f2_ f3_;have f4_:=f1_.symm;have f5_:=f3_.symm;clear f1_ f2_ f3_;subst f4_;subst f5_))
    obtain ⟨Ao51,co51,eo51⟩:=Kd.R_slice HO539.out
    (first|subst eo51|(injection eo51 with f1_ f2_ f3_;have f4_:=f1_.symm;have f5_:=f3_.symm;clear f1_ f2_ f3_;subst f4_;subst f5_))
    obtain ⟨Ao52,co52,eo52⟩:=Kd.R_slice HO542.out
    (first|subst eo52|(injection eo52 with f1_ f2_ f3_;have f4_:=f1_.symm;have f5_:=f3_.symm;clear f1_ f2_ f3_;subst f4_;subst f5_))
    refine hK.out _ _ (qb8a BK521 (qb8 BK478)) (fun hHeld=>?_);clear hK K;refine nA 24 ?_;refine one_ (i:=3) (N:=some 25) #[true,true,true,true,false] rfl rfl (by kernel_rfl) (by decide) (fun K hK=>?_);refine gA Try.func8 #[.agg #[.string t501,.int .i64 t502,.slice Ao25 t503.length co25,.slice Ao26 t506.length co26,.slice Ao27 t509.length co27,.slice Ao28 t512.length co28,.slice Ao29 t515.length co29,.slice Ao30 t518.length co30],.agg #[.string t523,.int .i64 t524,.slice Ao47 t525.length co47,.slice Ao48 t528.length co48,.slice Ao49 t531.length co49,.slice Ao50 t534.length co50,.slice Ao51 t537.length co51,.slice Ao52 t540.length co52]] ?_;(with_reducible refine (laws_eqGate.calls k t501 t502 _ _ t503 _ _ t506 _ _ t509 _ _ t512 _ _ t515 _ _ t518 t523 t524 _ _ t525 _ _ t528 _ _ t531 _ _ t534 _ _ t537 _ _ t540 false _ ?side1 ?side2 ?side3 ?side4 ?side5 ?side6 ?side7 ?side8 ?side9 ?side10 ?side11 ?side12 ?side13 ?side14 ?side15 ?side16 ?side17 ?side18 ?side19 ?side20 ?side21 ?side22 ?side23 ?side24 A34.out).mono ?_)
    (case side1=>repeat (first|exact (Kd.S_reads' HO505.out).2.2|(with_reducible refine Kd.C_alloc ?_ _)|(with_reducible refine Kd.C_drewN ?_ _)|(with_reducible refine Kd.C_drew ?_)))
    (case side2=>exact (Kd.S_reads' HO505.out).2.1)
    (case side3=>repeat (first|exact (Kd.R_reads' HO508.out).2.2|(with_reducible refine Kd.C_alloc ?_ _)|(with_reducible refine Kd.C_drewN ?_ _)|(with_reducible refine Kd.C_drew ?_)))
    (case side4=>exact (Kd.R_reads' HO508.out).2.1)
    (case side5=>repeat (first|exact (Kd.R_reads' HO511.out).2.2|(with_reducible refine Kd.C_alloc ?_ _)|(with_reducible refine Kd.C_drewN ?_ _)|(with_reducible refine Kd.C_drew ?_)))
    (case side6=>exact (Kd.R_reads' HO511.out).2.1)
    (case side7=>repeat (first|exact (Kd.R_reads' HO514.out).2.2|(with_reducible refine Kd.C_alloc ?_ _)|(with_reducible refine Kd.C_drewN ?_ _)|(with_reducible refine Kd.C_drew ?_)))
    (case side8=>exact (Kd.R_reads' HO514.out).2.1)
    (case side9=>repeat (first|exact (Kd.R_reads' HO517.out).2.2|(with_reducible refine Kd.C_alloc ?_ _)|(with_reducible refine Kd.C_drewN ?_ _)|(with_reducible refine Kd.C_drew ?_)))
    (case side10=>exact (Kd.R_reads' HO517.out).2.1)
    (case side11=>repeat (first|exact (Kd.R_reads' HO520.out).2.2|(with_reducible refine Kd.C_alloc ?_ _)|(with_reducible refine Kd.C_drewN ?_ _)|(with_reducible refine Kd.C_drew ?_)))
    (case side12=>exact (Kd.R_reads' HO520.out).2.1)
    (case side13=>repeat (first|exact (Kd.S_reads' HO527.out).2.2|(with_reducible refine Kd.C_alloc ?_ _)|(with_reducible refine Kd.C_drewN ?_ _)|(with_reducible refine Kd.C_drew ?_)))
    (case side14=>exact (Kd.S_reads' HO527.out).2.1)
    (case side15=>repeat (first|exact (Kd.R_reads' HO530.out).2.2|(with_reducible refine Kd.C_alloc ?_ _)|(with_reducible refine Kd.C_drewN ?_ _)|(with_reducible refine Kd.C_drew ?_)))
    (case side16=>exact (Kd.R_reads' HO530.out).2.1)
    (case side17=>repeat (first|exact (Kd.R_reads' HO533.out).2.2|(with_reducible refine Kd.C_alloc ?_ _)|(with_reducible refine Kd.C_drewN ?_ _)|(with_reducible refine Kd.C_drew ?_)))
    (case side18=>exact (Kd.R_reads' HO533.out).2.1)
    (case side19=>repeat (first|exact (Kd.R_reads' HO536.out).2.2|(with_reducible refine Kd.C_alloc ?_ _)|(with_reducible refine Kd.C_drewN ?_ _)|(with_reducible refine Kd.C_drew ?_)))
    (case side20=>exact (Kd.R_reads' HO536.out).2.1)
    (case side21=>repeat (first|exact (Kd.R_reads' HO539.out).2.2|(with_reducible refine Kd.C_alloc ?_ _)|(with_reducible refine Kd.C_drewN ?_ _)|(with_reducible refine Kd.C_drew ?_)))
    (case side22=>exact (Kd.R_reads' HO539.out).2.1)
    (case side23=>repeat (first|exact (Kd.R_reads' HO542.out).2.2|(with_reducible refine Kd.C_alloc ?_ _)|(with_reducible refine Kd.C_drewN ?_ _)|(with_reducible refine Kd.C_drew ?_)))
    (case side24=>exact (Kd.R_reads' HO542.out).2.1)
    rintro e w53 ⟨rfl,hb⟩;refine ⟨_,rfl,?_⟩;have n0_:=am (Kd.S_below (by (with_reducible repeat (first|apply Kd.S_alloc|apply Kd.S_drewN|apply Kd.S_drew));exact HO484.out) hb);have n1_:=am (Kd.R_below (rs HO487) hb);have n2_:=am (Kd.R_below (rs HO490) hb);have n3_:=am (Kd.R_below (rs HO493) hb);have n4_:=am (Kd.R_below (rs HO496) hb);have n5_:=am (Kd.R_below (rs HO499) hb);have n6_:=am (Kd.S_below (by (with_reducible repeat (first|apply Kd.S_alloc|apply Kd.S_drewN|apply Kd.S_drew));exact HO505.out) hb);have n7_:=am (Kd.R_below (rs HO508) hb);have n8_:=am (Kd.R_below (rs HO511) hb);have n9_:=am (Kd.R_below (rs HO514) hb);have n10_:=am (Kd.R_below (rs HO517) hb);have n11_:=am (Kd.R_below (rs HO520) hb);have n12_:=am (Kd.S_below (by (with_reducible repeat (first|apply Kd.S_alloc|apply Kd.S_drewN|apply Kd.S_drew));exact HO527.out) hb);have n13_:=am (Kd.R_below (rs HO530) hb);have n14_:=am (Kd.R_below (rs HO533) hb);have n15_:=am (Kd.R_below (rs HO536) hb);have n16_:=am (Kd.R_below (rs HO539) hb);have n17_:=am (Kd.R_below (rs HO542) hb);have n18_:=am (blk_below (ks BK478) hb);have n19_:=am (blk_below (ks BK521) hb);have n20_:=am (below_step (bs HB) hb);clear HO484;clear HO487;clear HO490;clear HO493;clear HO496;clear HO499;clear HO505;clear HO508;clear HO511;clear HO514;clear HO517;clear HO520;clear HO527;clear HO530;clear HO533;clear HO536;clear HO539;clear HO542;clear BK478;clear BK521;clear HB;have HO484:=n0_;have HO487:=n1_;have HO490:=n2_;have HO493:=n3_;have HO496:=n4_;have HO499:=n5_;have HO505:=n6_;have HO508:=n7_;have HO511:=n8_;have HO514:=n9_;have HO517:=n10_;have HO520:=n11_;have HO527:=n12_;have HO530:=n13_;have HO533:=n14_;have HO536:=n15_;have HO539:=n16_;have HO542:=n17_;have BK478:=n18_;have BK521:=n19_;have HB:=n20_;clear n0_ n1_ n2_ n3_ n4_ n5_ n6_ n7_ n8_ n9_ n10_ n11_ n12_ n13_ n14_ n15_ n16_ n17_ n18_ n19_ n20_;(try clear hb);(try clear hb2);(try clear hk);(try clear hi);refine hK.out _ _ (qb8a BK521 (qb8 BK478)) (fun hHeld=>?_);clear hK K;refine nA 25 ?_;refine pure_ (i:=4) (N:=some 26) (v:=?_) (a':=?_) #[true,true,true,true,true] rfl rfl (by kernel_rfl) (fun _ _ _ h=>h) (Or.inl ⟨by rfl,?_⟩) ?_ ?_
    rotate_left
    ·intro w'
     go_simp
     (with_reducible rfl)
    rotate_left
    ·simp only [Act.put,List.setIfInBounds_toArray,List.set_cons_zero,List.set_cons_succ,i64_w,i32_w]
     rfl
    refine done_ (by kernel_rfl) ?_
    try go_wp2
    go_ret
    exact ⟨ff,bs HB⟩
end Go.Proofs.Ytjjfjgdhloideaa.QI
namespace Go.Proofs.Ytjjfjgdhloideaa.Rd
open Go.RowKit Go.ChangeShapes Go.WideShapes Go.Proofs.YtjjfjgdhloideaaW.PrintWords
def Rd (P : Program) (t : TypeId) {α : Type} (d : Kd α) (wf : α → Prop) : Prop :=
  ∀ (H : Type) (enc : TypeId × Value → H) (w : World) (base : Nat) (sp : Nat → Bool) (held : Bool) (fuel : Nat) (cs : List Value) (x : DataW H × List MemPlace),
    DataW.trod enc P w base sp held fuel t cs = some x → ∃ a : α, d.K w a cs ∧ wf a
def RdF (P : Program) (fs : List Field) (off : Nat) {α : Type} (d : Kd α) (wf : α → Prop) : Prop :=
  ∀ (H : Type) (enc : TypeId × Value → H) (w : World) (base : Nat) (sp : Nat → Bool) (held : Bool) (n : Nat) (cs : List Value),
    cs.length = off + d.sz → (∀ f ∈ fs, ∃ y, DataW.trod enc P w base sp held n f.type ((cs.drop f.offset).take (P.cellsOf f.type)) = some y) → ∃ a : α, d.K w a (cs.drop off) ∧ wf a
def WfInt (k : IntKind) (n : Int) : Prop := (Lit.int k n).wf = true
def WfStr (s : ByteArray) : Prop := s.size ≤ maxLen
def WfRow {α : Type} (wf : α → Prop) (l : List α) : Prop := l.length ≤ maxLen ∧ ∀ x ∈ l, wf x
theorem rd_int {P : Program} {t : TypeId} {k : IntKind} (hu : P.underlying t = some (.int k)) : Rd P t (Kd.int k) (WfInt k) := by
  intro H enc w base sp held fuel cs x h
  cases fuel with
  | zero => simp [DataW.trod] at h
  | succ n =>
    match cs with
    | [.int k' m] =>
      simp only [DataW.trod, hu] at h
      split at h
      · rename_i hk
        obtain ⟨rfl, hw⟩ := hk
        exact ⟨m, rfl, hw⟩
      · cases h
    | [] => simp [DataW.trod, hu] at h
    | [.bool _] => simp [DataW.trod, hu] at h
    | [.float _ _] => simp [DataW.trod, hu] at h
    | [.complex _ _ _] => simp [DataW.trod, hu] at h
    | [.string _] => simp [DataW.trod, hu] at h
    | [.pointer _] => simp [DataW.trod, hu] at h
    | [.slice _ _ _] => simp [DataW.trod, hu] at h
    | [.map _] => simp [DataW.trod, hu] at h
    | [.chan _] => simp [DataW.trod, hu] at h
    | [.func _ _ _] => simp [DataW.trod, hu] at h
    | [.nilFunc] => simp [DataW.trod, hu] at h
    | [.iface _ _] => simp [DataW.trod, hu] at h
    | [.nilIface] => simp [DataW.trod, hu] at h
    | [.agg _] => simp [DataW.trod, hu] at h
    | [.tuple _] => simp [DataW.trod, hu] at h
    | _ :: _ :: _ => simp [DataW.trod, hu] at h
theorem rd_str {P : Program} {t : TypeId} (hu : P.underlying t = some .string) : Rd P t Kd.string WfStr := by
  intro H enc w base sp held fuel cs x h
  cases fuel with
  | zero => simp [DataW.trod] at h
  | succ n =>
    match cs with
    | [.string s] =>
      simp only [DataW.trod, hu] at h
      split at h
      · rename_i hk
        exact ⟨s, rfl, hk⟩
      · cases h
    | [] => simp [DataW.trod, hu] at h
    | [.int _ _] => simp [DataW.trod, hu] at h
    | [.bool _] => simp [DataW.trod, hu] at h
    | [.float _ _] => simp [DataW.trod, hu] at h
    | [.complex _ _ _] => simp [DataW.trod, hu] at h
    | [.pointer _] => simp [DataW.trod, hu] at h
    | [.slice _ _ _] => simp [DataW.trod, hu] at h
    | [.map _] => simp [DataW.trod, hu] at h
    | [.chan _] => simp [DataW.trod, hu] at h
    | [.func _ _ _] => simp [DataW.trod, hu] at h
    | [.nilFunc] => simp [DataW.trod, hu] at h
    | [.iface _ _] => simp [DataW.trod, hu] at h
    | [.nilIface] => simp [DataW.trod, hu] at h
    | [.agg _] => simp [DataW.trod, hu] at h
    | [.tuple _] => simp [DataW.trod, hu] at h
    | _ :: _ :: _ => simp [DataW.trod, hu] at h
theorem rdF_last {P : Program} {f : Field} {off : Nat} {α : Type} {d : Kd α} {wf : α → Prop} (h : Rd P f.type d wf) (ho : f.offset = off) (hc : P.cellsOf f.type = d.sz) : RdF P [f] off d wf := by
  intro H enc w base sp held n cs hl hy
  obtain ⟨y, hy⟩ := hy f (List.mem_singleton.2 rfl)
  rw [ho, hc, List.take_of_length_le (by rw [List.length_drop]; omega)] at hy
  exact h H enc w base sp held n _ y hy
theorem rdF_cons {P : Program} {f : Field} {fs : List Field} {off off2 : Nat} {α β : Type} {d : Kd α} {e : Kd β} {wf : α → Prop} {wg : β → Prop} (h : Rd P f.type d wf) (ho : f.offset = off) (hc : P.cellsOf f.type = d.sz)
    (h2 : off2 = off + d.sz) (hs : RdF P fs off2 e wg) : RdF P (f :: fs) off (Kd.pair d e) (fun x => wf x.1 ∧ wg x.2) := by
  intro H enc w base sp held n cs hl hy
  obtain ⟨y, hy1⟩ := hy f (List.mem_cons_self ..)
  have hl' : cs.length = off + (d.sz + e.sz) := hl
  obtain ⟨a, ha, hwa⟩ := h H enc w base sp held n _ y hy1
  obtain ⟨b, hb, hwb⟩ := hs H enc w base sp held n cs (by omega) (fun g hg => hy g (List.mem_cons_of_mem _ hg))
  rw [ho, hc] at ha
  refine ⟨(a, b), ⟨_, _, ?_, ha, hb⟩, hwa, hwb⟩
  rw [h2, ← List.drop_drop, List.take_append_drop]
theorem rd_struct {P : Program} {t : TypeId} {fs : Array Field} {α β : Type} {d : Kd α} {wf : α → Prop} {wg : β → Prop} (g : β → α) (gi : α → β) (hg : ∀ a, g (gi a) = a) (hwg : ∀ a, wf a → wg (gi a))
    (hu : P.underlying t = some (.struct fs)) (hc : P.cellsOf t = d.sz) (hF : RdF P fs.toList 0 d wf) : Rd P t (Kd.iso d g) wg := by
  intro H enc w base sp held fuel cs x h
  obtain ⟨xs, n, _, rfl, hl, hlen, hf⟩ := DataW.trod_struct hu h
  obtain ⟨a, ha, hwa⟩ := hF H enc w base sp held n cs (by omega) (fun f hfm => by
    obtain ⟨i, hi, rfl⟩ := List.mem_iff_getElem.1 hfm
    have hi' : i < fs.size := by simpa using hi
    have z := hf i (fs[i]) (by simp [hi'])
    rw [List.getElem?_eq_getElem (by omega)] at z
    exact ⟨_, by simpa using z⟩)
  refine ⟨gi a, ?_, hwg a hwa⟩
  show d.K w (g (gi a)) cs
  rw [hg]
  simpa using ha
theorem rd_slice {P : Program} {t e : TypeId} {α : Type} {d : Kd α} {wf : α → Prop} (hu : P.underlying t = some (.slice e)) (hc : P.cellsOf e = d.sz) (hd : Rd P e d wf) : Rd P t (Kd.slice e d) (WfRow wf) := by
  intro H enc w base sp held fuel cs x h
  rcases Go.Deep.open_slice hu h with ⟨rfl, _⟩ | ⟨a, len, cap, m, n, D, Pl, rfl, hb, hl, hm, hmm, _, hx⟩
  · exact ⟨[], ⟨none, 0, rfl, Nat.le_refl _, rfl, by simp, fun h => absurd h (by simp)⟩, by simp [maxLen], by simp⟩
  · have hlm : len ≤ m := by rw [hmm]; split <;> omega
    have hall : ∀ i, i < len → ∃ cs', w.cells? base (a.add (i * P.cellsOf e)) (P.cellsOf e) = some cs' ∧ DataW.trod enc P w base sp held n e cs' = some (D i, Pl i) := fun i hi => hx i (by omega)
    have key : ∀ (k : Nat), k ≤ len → ∃ l : List α, l.length = k ∧ (∀ x ∈ l, wf x) ∧ ∀ j p, l[j]? = some p → ∃ c, c.length = d.sz ∧ d.K w p c ∧ ∀ i u, c[i]? = some u → w.cell? (a.add (j * d.sz + i)) = some u := by
      intro k
      induction k with
      | zero => intro _; exact ⟨[], rfl, by simp, by simp⟩
      | succ k ih =>
        intro hk
        obtain ⟨l, hl1, hl2, hl3⟩ := ih (by omega)
        obtain ⟨cs', h1, h2⟩ := hall k (by omega)
        obtain ⟨b, hb1, hb2⟩ := hd H enc w base sp held n cs' _ h2
        refine ⟨l ++ [b], by simp [hl1], ?_, ?_⟩
        · intro z hz
          rcases List.mem_append.1 hz with hz | hz
          · exact hl2 z hz
          · rw [List.mem_singleton.1 hz]; exact hb2
        · intro j p hj
          by_cases hjl : j < l.length
          · rw [List.getElem?_append_left hjl] at hj
            exact hl3 j p hj
          · rw [List.getElem?_append_right (by omega)] at hj
            have hj0 : j - l.length = 0 := by
              cases hz : j - l.length with
              | zero => rfl
              | succ q => rw [hz] at hj; simp at hj
            rw [hj0] at hj
            obtain rfl : b = p := by simpa using hj
            have hjk : j = k := by omega
            subst hjk
            refine ⟨cs', d.K_len hb1, hb1, fun i u hu' => ?_⟩
            obtain ⟨_, hlen', hcell⟩ := World.cells?_some h1
            have hi : i < cs'.length := by
              rcases Nat.lt_or_ge i cs'.length with h | h
              · exact h
              · rw [List.getElem?_eq_none h] at hu'; cases hu'
            have z := hcell i (by omega)
            rw [hu', Go.Deep.add_add, hc] at z
            exact z
    obtain ⟨l, hl1, hl2, hl3⟩ := key len (Nat.le_refl _)
    refine ⟨l, ⟨some a, cap, by rw [hl1], by omega, ?_⟩, by rw [hl1]; exact Nat.le_trans hl hm, hl2⟩
    exact ⟨rfl, by rw [hl1]; have : cap ≤ 2 ^ 63 - 1 := hm; omega, fun _ => ⟨a, rfl, hl3⟩⟩
end Go.Proofs.Ytjjfjgdhloideaa.Rd
namespace Go.Proofs.Ytjjfjgdhloideaa.QI
open Go.RowKit Go.Proofs.Ytjjfjgdhloideaa Go.Proofs.YtjjfjgdhloideaaW.PrintWords
def wf172 (x : S172) : Prop := (Rd.WfInt .i64) x.f0 ∧ (Rd.WfInt .i64) x.f1 ∧ (Rd.WfInt .i64) x.f2
def wf126 (x : S126) : Prop := Rd.WfStr x.f0 ∧ (Rd.WfInt .i64) x.f1 ∧ (Rd.WfInt .i64) x.f2 ∧ (Rd.WfRow wf172) x.f3
def wf128 (x : S128) : Prop := Rd.WfStr x.f0 ∧ Rd.WfStr x.f1 ∧ Rd.WfStr x.f2
def wf111 (x : S111) : Prop := Rd.WfStr x.f0 ∧ (Rd.WfInt .i64) x.f1
def wf113 (x : S113) : Prop := Rd.WfStr x.f0 ∧ Rd.WfStr x.f1 ∧ (Rd.WfInt .i64) x.f2 ∧ Rd.WfStr x.f3 ∧ (Rd.WfInt .i64) x.f4 ∧ (Rd.WfInt .i64) x.f5 ∧ (Rd.WfInt .i64) x.f6 ∧ (Rd.WfInt .i64) x.f7
def wf39 (x : S39) : Prop := (Rd.WfRow wf111) x.f0 ∧ (Rd.WfRow wf113) x.f1
def wf130 (x : S130) : Prop := (Rd.WfInt .i64) x.f0 ∧ Rd.WfStr x.f1 ∧ Rd.WfStr x.f2 ∧ (Rd.WfInt .i64) x.f3 ∧ Rd.WfStr x.f4 ∧ (Rd.WfInt .i64) x.f5
def wf132 (x : S132) : Prop := Rd.WfStr x.f0 ∧ (Rd.WfInt .i64) x.f1 ∧ Rd.WfStr x.f2 ∧ (Rd.WfInt .i64) x.f3 ∧ (Rd.WfInt .i64) x.f4
def wf54 (x : S54) : Prop := Rd.WfStr x.f0 ∧ (Rd.WfInt .i64) x.f1 ∧ (Rd.WfRow wf126) x.f2 ∧ (Rd.WfRow wf128) x.f3 ∧ wf39 x.f4 ∧ (Rd.WfRow wf130) x.f5 ∧ (Rd.WfRow wf132) x.f6
set_option maxRecDepth 100000 in
theorem rd172 : Rd.Rd Try.prog 172 k172 wf172 := Rd.rd_struct _ (fun a => ⟨a.1, a.2.1, a.2.2⟩) (fun _ => rfl) (fun _ h => h) Try.underlying172 (by kernel_rfl) (Rd.rdF_cons (Rd.rd_int (Try.underlying2)) rfl (by kernel_rfl) (off2 := 1) rfl (Rd.rdF_cons (Rd.rd_int (Try.underlying2)) rfl (by kernel_rfl) (off2 := 2) rfl (Rd.rdF_last (Rd.rd_int (Try.underlying2)) rfl (by kernel_rfl))))
set_option maxRecDepth 100000 in
theorem rd126 : Rd.Rd Try.prog 126 k126 wf126 := Rd.rd_struct _ (fun a => ⟨a.1, a.2.1, a.2.2.1, a.2.2.2⟩) (fun _ => rfl) (fun _ h => h) Try.underlying126 (by kernel_rfl) (Rd.rdF_cons (Rd.rd_str (Try.underlying9)) rfl (by kernel_rfl) (off2 := 1) rfl (Rd.rdF_cons (Rd.rd_int (Try.underlying2)) rfl (by kernel_rfl) (off2 := 2) rfl (Rd.rdF_cons (Rd.rd_int (Try.underlying2)) rfl (by kernel_rfl) (off2 := 3) rfl (Rd.rdF_last (Rd.rd_slice Try.underlying124 (by kernel_rfl) rd172) rfl (by kernel_rfl)))))
set_option maxRecDepth 100000 in
theorem rd128 : Rd.Rd Try.prog 128 k128 wf128 := Rd.rd_struct _ (fun a => ⟨a.1, a.2.1, a.2.2⟩) (fun _ => rfl) (fun _ h => h) Try.underlying128 (by kernel_rfl) (Rd.rdF_cons (Rd.rd_str (Try.underlying9)) rfl (by kernel_rfl) (off2 := 1) rfl (Rd.rdF_cons (Rd.rd_str (Try.underlying9)) rfl (by kernel_rfl) (off2 := 2) rfl (Rd.rdF_last (Rd.rd_str (Try.underlying9)) rfl (by kernel_rfl))))
set_option maxRecDepth 100000 in
theorem rd111 : Rd.Rd Try.prog 111 k111 wf111 := Rd.rd_struct _ (fun a => ⟨a.1, a.2⟩) (fun _ => rfl) (fun _ h => h) Try.underlying111 (by kernel_rfl) (Rd.rdF_cons (Rd.rd_str (Try.underlying9)) rfl (by kernel_rfl) (off2 := 1) rfl (Rd.rdF_last (Rd.rd_int (Try.underlying2)) rfl (by kernel_rfl)))
set_option maxRecDepth 100000 in
theorem rd113 : Rd.Rd Try.prog 113 k113 wf113 := Rd.rd_struct _ (fun a => ⟨a.1, a.2.1, a.2.2.1, a.2.2.2.1, a.2.2.2.2.1, a.2.2.2.2.2.1, a.2.2.2.2.2.2.1, a.2.2.2.2.2.2.2⟩) (fun _ => rfl) (fun _ h => h) Try.underlying113 (by kernel_rfl) (Rd.rdF_cons (Rd.rd_str (Try.underlying9)) rfl (by kernel_rfl) (off2 := 1) rfl (Rd.rdF_cons (Rd.rd_str (Try.underlying9)) rfl (by kernel_rfl) (off2 := 2) rfl (Rd.rdF_cons (Rd.rd_int (Try.underlying2)) rfl (by kernel_rfl) (off2 := 3) rfl (Rd.rdF_cons (Rd.rd_str (Try.underlying9)) rfl (by kernel_rfl) (off2 := 4) rfl (Rd.rdF_cons (Rd.rd_int (Try.underlying2)) rfl (by kernel_rfl) (off2 := 5) rfl (Rd.rdF_cons (Rd.rd_int (Try.underlying2)) rfl (by kernel_rfl) (off2 := 6) rfl (Rd.rdF_cons (Rd.rd_int (Try.underlying2)) rfl (by kernel_rfl) (off2 := 7) rfl (Rd.rdF_last (Rd.rd_int (Try.underlying2)) rfl (by kernel_rfl)))))))))
set_option maxRecDepth 100000 in
theorem rd39 : Rd.Rd Try.prog 39 k39 wf39 := Rd.rd_struct _ (fun a => ⟨a.1, a.2⟩) (fun _ => rfl) (fun _ h => h) Try.underlying39 (by kernel_rfl) (Rd.rdF_cons (Rd.rd_slice Try.underlying36 (by kernel_rfl) rd111) rfl (by kernel_rfl) (off2 := 1) rfl (Rd.rdF_last (Rd.rd_slice Try.underlying37 (by kernel_rfl) rd113) rfl (by kernel_rfl)))
set_option maxRecDepth 100000 in
theorem rd130 : Rd.Rd Try.prog 130 k130 wf130 := Rd.rd_struct _ (fun a => ⟨a.1, a.2.1, a.2.2.1, a.2.2.2.1, a.2.2.2.2.1, a.2.2.2.2.2⟩) (fun _ => rfl) (fun _ h => h) Try.underlying130 (by kernel_rfl) (Rd.rdF_cons (Rd.rd_int (Try.underlying2)) rfl (by kernel_rfl) (off2 := 1) rfl (Rd.rdF_cons (Rd.rd_str (Try.underlying9)) rfl (by kernel_rfl) (off2 := 2) rfl (Rd.rdF_cons (Rd.rd_str (Try.underlying9)) rfl (by kernel_rfl) (off2 := 3) rfl (Rd.rdF_cons (Rd.rd_int (Try.underlying2)) rfl (by kernel_rfl) (off2 := 4) rfl (Rd.rdF_cons (Rd.rd_str (Try.underlying9)) rfl (by kernel_rfl) (off2 := 5) rfl (Rd.rdF_last (Rd.rd_int (Try.underlying2)) rfl (by kernel_rfl)))))))
set_option maxRecDepth 100000 in
theorem rd132 : Rd.Rd Try.prog 132 k132 wf132 := Rd.rd_struct _ (fun a => ⟨a.1, a.2.1, a.2.2.1, a.2.2.2.1, a.2.2.2.2⟩) (fun _ => rfl) (fun _ h => h) Try.underlying132 (by kernel_rfl) (Rd.rdF_cons (Rd.rd_str (Try.underlying9)) rfl (by kernel_rfl) (off2 := 1) rfl (Rd.rdF_cons (Rd.rd_int (Try.underlying2)) rfl (by kernel_rfl) (off2 := 2) rfl (Rd.rdF_cons (Rd.rd_str (Try.underlying9)) rfl (by kernel_rfl) (off2 := 3) rfl (Rd.rdF_cons (Rd.rd_int (Try.underlying2)) rfl (by kernel_rfl) (off2 := 4) rfl (Rd.rdF_last (Rd.rd_int (Try.underlying2)) rfl (by kernel_rfl))))))
set_option maxRecDepth 100000 in
theorem rd54 : Rd.Rd Try.prog 54 k54 wf54 := Rd.rd_struct _ (fun a => ⟨a.1, a.2.1, a.2.2.1, a.2.2.2.1, a.2.2.2.2.1, a.2.2.2.2.2.1, a.2.2.2.2.2.2⟩) (fun _ => rfl) (fun _ h => h) Try.underlying54 (by kernel_rfl) (Rd.rdF_cons (Rd.rd_str (Try.underlying9)) rfl (by kernel_rfl) (off2 := 1) rfl (Rd.rdF_cons (Rd.rd_int (Try.underlying2)) rfl (by kernel_rfl) (off2 := 2) rfl (Rd.rdF_cons (Rd.rd_slice Try.underlying49 (by kernel_rfl) rd126) rfl (by kernel_rfl) (off2 := 3) rfl (Rd.rdF_cons (Rd.rd_slice Try.underlying50 (by kernel_rfl) rd128) rfl (by kernel_rfl) (off2 := 4) rfl (Rd.rdF_cons rd39 rfl (by kernel_rfl) (off2 := 6) rfl (Rd.rdF_cons (Rd.rd_slice Try.underlying51 (by kernel_rfl) rd130) rfl (by kernel_rfl) (off2 := 7) rfl (Rd.rdF_last (Rd.rd_slice Try.underlying52 (by kernel_rfl) rd132) rfl (by kernel_rfl))))))))
end Go.Proofs.Ytjjfjgdhloideaa.QI
