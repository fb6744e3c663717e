-- Merged by a program of this session (wip/tool/pack.py) out of its own texts for this claim.
import Derived.Deep.Slices
import Derived.ChangeArms
import Derived.WalkKit
import Derived.ProofKit
import Derived.OpenShut
import Derived.ShutString
import Derived.ChangeOld
import Derived.Below
import Derived.SizedLaws
import Derived.Lib.Strings
import Derived.Test.YtpfdfbomlffhcaaKFnExactDiffSum0
import Derived.Test.YtpfdfbomlffhcaaKFnExactDiffSum1
import Derived.Test.YtpfdfbomlffhcaaKFnExactDiffSum2
import Derived.Test.YtpfdfbomlffhcaaKFnExactDiffSum3
import Derived.Test.YtpfdfbomlffhcaaKFnExactDiffSum5
namespace Go.Proofs.Ytpfdfbomlffhcaa.QA
open Go.RowKit Go.Proofs.YtpfdfbomlffhcaaW.PrintWords Go.Proofs.YtpfdfbomlffhcaaW.PrintLast Go.Proofs.YtpfdfbomlffhcaaW.PrintMore
attribute [local go_sem] max2_int min2_int max_two min_two max_three min_three max_four min_four   -- for this text's walks alone
set_option linter.unusedVariables false
set_option linter.unusedSimpArgs false
set_option maxHeartbeats 8000000 in
set_option maxRecDepth 100000 in
theorem laws_FnExactDiffSum.calls (k : Nat) (A0 : Option Addr) (c0 : Nat) (l0 : List (S88)) (a1 : Int) (a2 : ByteArray) (r : Bool) (w : World) (hr0 : Kd.C k88 w A0 l0.length l0) (hc0 : l0.length ≤ c0) (h : laws_FnExactDiffSum.f k l0 a1 a2 = some r) :
    Calls Try.prog 4 #[.slice A0 l0.length c0, .int .i64 a1, .string a2] w fun e w' => e = .returned (.bool r) ∧ Below w.heap.size w w' := by
  have HR0 := Aside0.mk hr0
  have HC0 := Aside0.mk hc0
  clear hr0 hc0
  have HB := Aside0.mk (Below.refl w.heap.size w)
  have H : (if (a2.size : Int) > 1048576 then (some true) else ((laws_szDiffS.f k l0 1048576).bind fun t192 => (if t192 < 0 then (some true) else ((laws_toDiffS.f k l0).bind fun t193 => ((spec_DiffSum.f k t193 a1 a2).bind fun t196 => ((laws_toDiffS.f k l0).bind fun t197 => ((impl_DiffSum.f k t197 a1 a2).bind fun t200 => (if t200 = t196 then ((laws_toDiffS.f k l0).bind fun t201 => ((laws_eqDiffS.f k t197 t201).bind fun t204 => (if t204 = true then (some true) else (some false)))) else (some false))))))))) = some r := h
  clear h
  by_cases c4 : (a2.size : Int) > 1048576
  · rw [if_pos c4] at H
    have c4b0 : decide (1048576 < (a2.size : Int)) = true := decide_eq_true c4
    have c4b1 : decide (1048576 < a2.size) = true := decide_eq_true (by omega)
    clear c4
    obtain rfl := Option.some.inj H
    go_enter Try.func4, Try.ntmps4
    go_wp2
    go_ret
    exact ⟨by first | rfl | (simp [errW_none, errW_some] <;> rfl) | (simp [*, errW_none, errW_some] <;> rfl), by repeat (first | (with_reducible first | exact HB.out | apply below_alloc | apply pw_below_drewN | apply below_drew1) | exact HB.out)⟩
  · rw [if_neg c4] at H
    have c4b0 : decide (1048576 < (a2.size : Int)) = false := decide_eq_false c4
    have c4b1 : decide (1048576 < a2.size) = false := decide_eq_false (by omega)
    clear c4
    replace H := Option.bind_eq_some_iff.mp H
    obtain ⟨t192, A50, H⟩ := H
    replace H : (if t192 < 0 then (some true) else ((laws_toDiffS.f k l0).bind fun t193 => ((spec_DiffSum.f k t193 a1 a2).bind fun t196 => ((laws_toDiffS.f k l0).bind fun t197 => ((impl_DiffSum.f k t197 a1 a2).bind fun t200 => (if t200 = t196 then ((laws_toDiffS.f k l0).bind fun t201 => ((laws_eqDiffS.f k t197 t201).bind fun t204 => (if t204 = true then (some true) else (some false)))) else (some false))))))) = some r := H
    have A5 := Aside0.mk A50
    clear A50
    by_cases c6 : t192 < 0
    · rw [if_pos c6] at H
      have c6b0 : decide (t192 < 0) = true := decide_eq_true c6
      clear c6
      obtain rfl := Option.some.inj H
      go_enter Try.func4, Try.ntmps4
      go_wp2_with (first | ((first | ((with_reducible refine gate_callee (f := 16) rfl ?_); refine goesL_ (some 16) rfl rfl Try.func16 (by kernel_rfl) rfl #[.slice A0 l0.length c0, .int .i64 1048576] rfl (by (try simp only [List.map_toArray, List.map_cons, List.map_nil]); first | done | rfl | (simp only [List.length_drop, List.length_take]; rfl)) ?_; (with_reducible refine (laws_szDiffS.calls k _ _ l0 1048576 t192 _ ?side1 ?side2 A5.out).mono ?_); (case side1 => repeat (first | exact HR0.out | (with_reducible refine Kd.C_alloc ?_ _) | (with_reducible refine Kd.C_drewN ?_ _) | (with_reducible refine Kd.C_drew ?_))); (case side2 => exact HC0.out); rintro e w7 ⟨rfl, hb⟩; refine ⟨_, rfl, ?_⟩) | (go_at_call 16; (with_reducible refine (laws_szDiffS.calls k _ _ l0 1048576 t192 _ ?side1 ?side2 A5.out).mono ?_); (case side1 => repeat (first | exact HR0.out | (with_reducible refine Kd.C_alloc ?_ _) | (with_reducible refine Kd.C_drewN ?_ _) | (with_reducible refine Kd.C_drew ?_))); (case side2 => exact HC0.out); rintro e w7 ⟨rfl, hb⟩)); have n0_ := Aside0.mk (below_step (by repeat (first | (with_reducible first | exact HB.out | apply below_alloc | apply pw_below_drewN | apply below_drew1) | exact HB.out)) hb); clear HB; have HB := n0_; clear n0_; (try clear hb); (try clear hb2); (try clear hk); (try clear hi)))
      go_ret
      exact ⟨by first | rfl | (simp [errW_none, errW_some] <;> rfl) | (simp [*, errW_none, errW_some] <;> rfl), by repeat (first | (with_reducible first | exact HB.out | apply below_alloc | apply pw_below_drewN | apply below_drew1) | exact HB.out)⟩
    · rw [if_neg c6] at H
      have c6b0 : decide (t192 < 0) = false := decide_eq_false c6
      clear c6
      replace H := Option.bind_eq_some_iff.mp H
      obtain ⟨t193, A80, H⟩ := H
      replace H : ((spec_DiffSum.f k t193 a1 a2).bind fun t196 => ((laws_toDiffS.f k l0).bind fun t197 => ((impl_DiffSum.f k t197 a1 a2).bind fun t200 => (if t200 = t196 then ((laws_toDiffS.f k l0).bind fun t201 => ((laws_eqDiffS.f k t197 t201).bind fun t204 => (if t204 = true then (some true) else (some false)))) else (some false))))) = some r := H
      have A8 := Aside0.mk A80
      clear A80
      replace H := Option.bind_eq_some_iff.mp H
      obtain ⟨t196, A90, H⟩ := H
      replace H : ((laws_toDiffS.f k l0).bind fun t197 => ((impl_DiffSum.f k t197 a1 a2).bind fun t200 => (if t200 = t196 then ((laws_toDiffS.f k l0).bind fun t201 => ((laws_eqDiffS.f k t197 t201).bind fun t204 => (if t204 = true then (some true) else (some false)))) else (some false)))) = some r := H
      have A9 := Aside0.mk A90
      clear A90
      replace H := Option.bind_eq_some_iff.mp H
      obtain ⟨t197, A100, H⟩ := H
      replace H : ((impl_DiffSum.f k t197 a1 a2).bind fun t200 => (if t200 = t196 then ((laws_toDiffS.f k l0).bind fun t201 => ((laws_eqDiffS.f k t197 t201).bind fun t204 => (if t204 = true then (some true) else (some false)))) else (some false))) = some r := H
      have A10 := Aside0.mk A100
      clear A100
      replace H := Option.bind_eq_some_iff.mp H
      obtain ⟨t200, A110, H⟩ := H
      replace H : (if t200 = t196 then ((laws_toDiffS.f k l0).bind fun t201 => ((laws_eqDiffS.f k t197 t201).bind fun t204 => (if t204 = true then (some true) else (some false)))) else (some false)) = some r := H
      have A11 := Aside0.mk A110
      clear A110
      by_cases c12 : t200 = t196
      · rw [if_pos c12] at H
        have c12b0 : (t200 == t196) = true := beq_iff_eq.mpr c12
        have c12b1 : (t200 != t196) = false := bne_eq_false_iff_eq.mpr c12
        clear c12
        replace H := Option.bind_eq_some_iff.mp H
        obtain ⟨t201, A130, H⟩ := H
        replace H : ((laws_eqDiffS.f k t197 t201).bind fun t204 => (if t204 = true then (some true) else (some false))) = some r := H
        have A13 := Aside0.mk A130
        clear A130
        replace H := Option.bind_eq_some_iff.mp H
        obtain ⟨t204, A140, H⟩ := H
        replace H : (if t204 = true then (some true) else (some false)) = some r := H
        have A14 := Aside0.mk A140
        clear A140
        by_cases c15 : t204 = true
        · subst c15
          have H1 : (some true) = some r := by rw [if_pos rfl] at H; exact H
          clear H
          have H := H1
          clear H1
          obtain rfl := Option.some.inj H
          go_enter Try.func4, Try.ntmps4
          go_wp2_with (first | ((first | ((with_reducible refine gate_callee (f := 16) rfl ?_); refine goesL_ (some 16) rfl rfl Try.func16 (by kernel_rfl) rfl #[.slice A0 l0.length c0, .int .i64 1048576] rfl (by (try simp only [List.map_toArray, List.map_cons, List.map_nil]); first | done | rfl | (simp only [List.length_drop, List.length_take]; rfl)) ?_; (with_reducible refine (laws_szDiffS.calls k _ _ l0 1048576 t192 _ ?side1 ?side2 A5.out).mono ?_); (case side1 => repeat (first | exact HR0.out | (with_reducible refine Kd.C_alloc ?_ _) | (with_reducible refine Kd.C_drewN ?_ _) | (with_reducible refine Kd.C_drew ?_))); (case side2 => exact HC0.out); rintro e w16 ⟨rfl, hb⟩; refine ⟨_, rfl, ?_⟩) | (go_at_call 16; (with_reducible refine (laws_szDiffS.calls k _ _ l0 1048576 t192 _ ?side1 ?side2 A5.out).mono ?_); (case side1 => repeat (first | exact HR0.out | (with_reducible refine Kd.C_alloc ?_ _) | (with_reducible refine Kd.C_drewN ?_ _) | (with_reducible refine Kd.C_drew ?_))); (case side2 => exact HC0.out); rintro e w16 ⟨rfl, hb⟩)); have n0_ := Aside0.mk (below_step (by repeat (first | (with_reducible first | exact HB.out | apply below_alloc | apply pw_below_drewN | apply below_drew1) | exact HB.out)) hb); clear HB; have HB := n0_; clear n0_; (try clear hb); (try clear hb2); (try clear hk); (try clear hi)) | ((first | ((with_reducible refine gate_callee (f := 18) rfl ?_); refine goesL_ (some 20) rfl rfl Try.func18 (by kernel_rfl) rfl #[.slice A0 l0.length c0] rfl (by (try simp only [List.map_toArray, List.map_cons, List.map_nil]); first | done | rfl | (simp only [List.length_drop, List.length_take]; rfl)) ?_; (with_reducible refine (laws_toDiffS.calls k _ _ l0 t193 _ ?side1 ?side2 A8.out).mono ?_); (case side1 => repeat (first | exact (Kd.C_below HR0.out HB.out) | (with_reducible refine Kd.C_alloc ?_ _) | (with_reducible refine Kd.C_drewN ?_ _) | (with_reducible refine Kd.C_drew ?_))); (case side2 => exact HC0.out); rintro e w17 ⟨v194, rfl, ho0, hb⟩; refine ⟨_, rfl, ?_⟩) | (go_at_call 18; (with_reducible refine (laws_toDiffS.calls k _ _ l0 t193 _ ?side1 ?side2 A8.out).mono ?_); (case side1 => repeat (first | exact (Kd.C_below HR0.out HB.out) | (with_reducible refine Kd.C_alloc ?_ _) | (with_reducible refine Kd.C_drewN ?_ _) | (with_reducible refine Kd.C_drew ?_))); (case side2 => exact HC0.out); rintro e w17 ⟨v194, rfl, ho0, hb⟩)); have n0_ := Aside0.mk (Kd.R_lower ho0 (below_size (by repeat (first | (with_reducible first | exact HB.out | apply below_alloc | apply pw_below_drewN | apply below_drew1) | exact HB.out)))); have n1_ := Aside0.mk (below_step (by repeat (first | (with_reducible first | exact HB.out | apply below_alloc | apply pw_below_drewN | apply below_drew1) | exact HB.out)) hb); clear HB; have HO195 := n0_; have HB := n1_; clear n0_ n1_; (try clear hb); (try clear hb2); (try clear hk); (try clear hi); (try clear ho0); obtain ⟨Ao18, co18, eo18⟩ := Kd.R_slice HO195.out; subst eo18) | ((first | ((with_reducible refine gate_callee (f := 17) rfl ?_); refine goesL_ (some 23) rfl rfl Try.func17 (by kernel_rfl) rfl #[.slice Ao18 t193.length co18, .int .i64 a1, .string a2] rfl (by (try simp only [List.map_toArray, List.map_cons, List.map_nil]); first | done | rfl | (simp only [List.length_drop, List.length_take]; rfl)) ?_; (with_reducible refine (spec_DiffSum.calls k _ _ t193 a1 a2 t196 _ ?side1 ?side2 A9.out).mono ?_); (case side1 => repeat (first | exact (Kd.R_reads' HO195.out).2.2 | (with_reducible refine Kd.C_alloc ?_ _) | (with_reducible refine Kd.C_drewN ?_ _) | (with_reducible refine Kd.C_drew ?_))); (case side2 => exact (Kd.R_reads' HO195.out).2.1); rintro e w' ⟨rfl, ⟨nd, rfl⟩⟩; refine ⟨_, rfl, ?_⟩) | (go_at_call 17; (with_reducible refine (spec_DiffSum.calls k _ _ t193 a1 a2 t196 _ ?side1 ?side2 A9.out).mono ?_); (case side1 => repeat (first | exact (Kd.R_reads' HO195.out).2.2 | (with_reducible refine Kd.C_alloc ?_ _) | (with_reducible refine Kd.C_drewN ?_ _) | (with_reducible refine Kd.C_drew ?_))); (case side2 => exact (Kd.R_reads' HO195.out).2.1); rintro e w' ⟨rfl, ⟨nd, rfl⟩⟩))) | ((first | ((with_reducible refine gate_callee (f := 18) rfl ?_); refine goesL_ (some 25) rfl rfl Try.func18 (by kernel_rfl) rfl #[.slice A0 l0.length c0] rfl (by (try simp only [List.map_toArray, List.map_cons, List.map_nil]); first | done | rfl | (simp only [List.length_drop, List.length_take]; rfl)) ?_; (with_reducible refine (laws_toDiffS.calls k _ _ l0 t197 _ ?side1 ?side2 A10.out).mono ?_); (case side1 => repeat (first | exact (Kd.C_below HR0.out (by repeat (first | (with_reducible first | exact HB.out | apply below_alloc | apply pw_below_drewN | apply below_drew1) | exact HB.out))) | (with_reducible refine Kd.C_alloc ?_ _) | (with_reducible refine Kd.C_drewN ?_ _) | (with_reducible refine Kd.C_drew ?_))); (case side2 => exact HC0.out); rintro e w19 ⟨v198, rfl, ho0, hb⟩; refine ⟨_, rfl, ?_⟩) | (go_at_call 18; (with_reducible refine (laws_toDiffS.calls k _ _ l0 t197 _ ?side1 ?side2 A10.out).mono ?_); (case side1 => repeat (first | exact (Kd.C_below HR0.out (by repeat (first | (with_reducible first | exact HB.out | apply below_alloc | apply pw_below_drewN | apply below_drew1) | exact HB.out))) | (with_reducible refine Kd.C_alloc ?_ _) | (with_reducible refine Kd.C_drewN ?_ _) | (with_reducible refine Kd.C_drew ?_))); (case side2 => exact HC0.out); rintro e w19 ⟨v198, rfl, ho0, hb⟩)); have n0_ := Aside0.mk (Kd.R_elder' (by (with_reducible repeat (first | apply Kd.R_alloc | apply Kd.R_drewN | apply Kd.R_drew)); exact HO195.out) (Kd.R_base ho0) hb); have n1_ := Aside0.mk (Kd.R_lower (Kd.R_new' ho0 (Kd.R_lt (by (with_reducible repeat (first | apply Kd.R_alloc | apply Kd.R_drewN | apply Kd.R_drew)); exact HO195.out))) (below_size (by repeat (first | (with_reducible first | exact HB.out | apply below_alloc | apply pw_below_drewN | apply below_drew1) | exact HB.out)))); have n2_ := Aside0.mk (below_step (by repeat (first | (with_reducible first | exact HB.out | apply below_alloc | apply pw_below_drewN | apply below_drew1) | exact HB.out)) hb); clear HO195; clear HB; have HO195 := n0_; have HO199 := n1_; have HB := n2_; clear n0_ n1_ n2_; (try clear hb); (try clear hb2); (try clear hk); (try clear hi); (try clear ho0); obtain ⟨Ao20, co20, eo20⟩ := Kd.R_slice HO199.out; subst eo20) | ((first | ((with_reducible refine gate_callee (f := 19) rfl ?_); refine goesL_ (some 29) rfl rfl Try.func19 (by kernel_rfl) rfl #[.slice Ao20 t197.length co20, .int .i64 a1, .string a2] rfl (by (try simp only [List.map_toArray, List.map_cons, List.map_nil]); first | done | rfl | (simp only [List.length_drop, List.length_take]; rfl)) ?_; (with_reducible refine (impl_DiffSum.calls k _ _ t197 a1 a2 t200 _ ?side1 ?side2 A11.out).mono ?_); (case side1 => repeat (first | exact (Kd.R_reads' HO199.out).2.2 | (with_reducible refine Kd.C_alloc ?_ _) | (with_reducible refine Kd.C_drewN ?_ _) | (with_reducible refine Kd.C_drew ?_))); (case side2 => exact (Kd.R_reads' HO199.out).2.1); rintro e w21 ⟨rfl, hb⟩; refine ⟨_, rfl, ?_⟩) | (go_at_call 19; (with_reducible refine (impl_DiffSum.calls k _ _ t197 a1 a2 t200 _ ?side1 ?side2 A11.out).mono ?_); (case side1 => repeat (first | exact (Kd.R_reads' HO199.out).2.2 | (with_reducible refine Kd.C_alloc ?_ _) | (with_reducible refine Kd.C_drewN ?_ _) | (with_reducible refine Kd.C_drew ?_))); (case side2 => exact (Kd.R_reads' HO199.out).2.1); rintro e w21 ⟨rfl, hb⟩)); have n0_ := Aside0.mk (Kd.R_below (by (with_reducible repeat (first | apply Kd.R_alloc | apply Kd.R_drewN | apply Kd.R_drew)); exact HO195.out) hb); have n1_ := Aside0.mk (Kd.R_below (by (with_reducible repeat (first | apply Kd.R_alloc | apply Kd.R_drewN | apply Kd.R_drew)); exact HO199.out) hb); have n2_ := Aside0.mk (below_step (by repeat (first | (with_reducible first | exact HB.out | apply below_alloc | apply pw_below_drewN | apply below_drew1) | exact HB.out)) hb); clear HO195; clear HO199; clear HB; have HO195 := n0_; have HO199 := n1_; have HB := n2_; clear n0_ n1_ n2_; (try clear hb); (try clear hb2); (try clear hk); (try clear hi)) | ((first | ((with_reducible refine gate_callee (f := 18) rfl ?_); refine goesL_ (some 35) rfl rfl Try.func18 (by kernel_rfl) rfl #[.slice A0 l0.length c0] rfl (by (try simp only [List.map_toArray, List.map_cons, List.map_nil]); first | done | rfl | (simp only [List.length_drop, List.length_take]; rfl)) ?_; (with_reducible refine (laws_toDiffS.calls k _ _ l0 t201 _ ?side1 ?side2 A13.out).mono ?_); (case side1 => repeat (first | exact (Kd.C_below HR0.out HB.out) | (with_reducible refine Kd.C_alloc ?_ _) | (with_reducible refine Kd.C_drewN ?_ _) | (with_reducible refine Kd.C_drew ?_))); (case side2 => exact HC0.out); rintro e w22 ⟨v202, rfl, ho0, hb⟩; refine ⟨_, rfl, ?_⟩) | (go_at_call 18; (with_reducible refine (laws_toDiffS.calls k _ _ l0 t201 _ ?side1 ?side2 A13.out).mono ?_); (case side1 => repeat (first | exact (Kd.C_below HR0.out HB.out) | (with_reducible refine Kd.C_alloc ?_ _) | (with_reducible refine Kd.C_drewN ?_ _) | (with_reducible refine Kd.C_drew ?_))); (case side2 => exact HC0.out); rintro e w22 ⟨v202, rfl, ho0, hb⟩)); have n0_ := Aside0.mk (Kd.R_elder' (by (with_reducible repeat (first | apply Kd.R_alloc | apply Kd.R_drewN | apply Kd.R_drew)); exact HO195.out) (Kd.R_base ho0) hb); have n1_ := Aside0.mk (Kd.R_elder' (by (with_reducible repeat (first | apply Kd.R_alloc | apply Kd.R_drewN | apply Kd.R_drew)); exact HO199.out) (Kd.R_base ho0) hb); have n2_ := Aside0.mk (Kd.R_lower (Kd.R_new' (Kd.R_new' ho0 (Kd.R_lt (by (with_reducible repeat (first | apply Kd.R_alloc | apply Kd.R_drewN | apply Kd.R_drew)); exact HO195.out))) (Kd.R_lt (by (with_reducible repeat (first | apply Kd.R_alloc | apply Kd.R_drewN | apply Kd.R_drew)); exact HO199.out))) (below_size (by repeat (first | (with_reducible first | exact HB.out | apply below_alloc | apply pw_below_drewN | apply below_drew1) | exact HB.out)))); have n3_ := Aside0.mk (below_step (by repeat (first | (with_reducible first | exact HB.out | apply below_alloc | apply pw_below_drewN | apply below_drew1) | exact HB.out)) hb); clear HO195; clear HO199; clear HB; have HO195 := n0_; have HO199 := n1_; have HO203 := n2_; have HB := n3_; clear n0_ n1_ n2_ n3_; (try clear hb); (try clear hb2); (try clear hk); (try clear hi); (try clear ho0); obtain ⟨Ao23, co23, eo23⟩ := Kd.R_slice HO203.out; subst eo23) | ((first | ((with_reducible refine gate_callee (f := 20) rfl ?_); refine goesL_ (some 36) rfl rfl Try.func20 (by kernel_rfl) rfl #[.slice Ao20 t197.length co20, .slice Ao23 t201.length co23] rfl (by (try simp only [List.map_toArray, List.map_cons, List.map_nil]); first | done | rfl | (simp only [List.length_drop, List.length_take]; rfl)) ?_; (with_reducible refine (laws_eqDiffS.calls k _ _ t197 _ _ t201 true _ ?side1 ?side2 ?side3 ?side4 A14.out).mono ?_); (case side1 => repeat (first | exact (Kd.R_reads' HO199.out).2.2 | (with_reducible refine Kd.C_alloc ?_ _) | (with_reducible refine Kd.C_drewN ?_ _) | (with_reducible refine Kd.C_drew ?_))); (case side2 => exact (Kd.R_reads' HO199.out).2.1); (case side3 => repeat (first | exact (Kd.R_reads' HO203.out).2.2 | (with_reducible refine Kd.C_alloc ?_ _) | (with_reducible refine Kd.C_drewN ?_ _) | (with_reducible refine Kd.C_drew ?_))); (case side4 => exact (Kd.R_reads' HO203.out).2.1); rintro e w24 ⟨rfl, hb⟩; refine ⟨_, rfl, ?_⟩) | (go_at_call 20; (with_reducible refine (laws_eqDiffS.calls k _ _ t197 _ _ t201 true _ ?side1 ?side2 ?side3 ?side4 A14.out).mono ?_); (case side1 => repeat (first | exact (Kd.R_reads' HO199.out).2.2 | (with_reducible refine Kd.C_alloc ?_ _) | (with_reducible refine Kd.C_drewN ?_ _) | (with_reducible refine Kd.C_drew ?_))); (case side2 => exact (Kd.R_reads' HO199.out).2.1); (case side3 => repeat (first | exact (Kd.R_reads' HO203.out).2.2 | (with_reducible refine Kd.C_alloc ?_ _) | (with_reducible refine Kd.C_drewN ?_ _) | (with_reducible refine Kd.C_drew ?_))); (case side4 => exact (Kd.R_reads' HO203.out).2.1); rintro e w24 ⟨rfl, hb⟩)); have n0_ := Aside0.mk (Kd.R_below (by (with_reducible repeat (first | apply Kd.R_alloc | apply Kd.R_drewN | apply Kd.R_drew)); exact HO195.out) hb); have n1_ := Aside0.mk (Kd.R_below (by (with_reducible repeat (first | apply Kd.R_alloc | apply Kd.R_drewN | apply Kd.R_drew)); exact HO199.out) hb); have n2_ := Aside0.mk (Kd.R_below (by (with_reducible repeat (first | apply Kd.R_alloc | apply Kd.R_drewN | apply Kd.R_drew)); exact HO203.out) hb); have n3_ := Aside0.mk (below_step (by repeat (first | (with_reducible first | exact HB.out | apply below_alloc | apply pw_below_drewN | apply below_drew1) | exact HB.out)) hb); clear HO195; clear HO199; clear HO203; clear HB; have HO195 := n0_; have HO199 := n1_; have HO203 := n2_; have HB := n3_; clear n0_ n1_ n2_ n3_; (try clear hb); (try clear hb2); (try clear hk); (try clear hi)))
          go_ret
          exact ⟨by first | rfl | (simp [errW_none, errW_some] <;> rfl) | (simp [*, errW_none, errW_some] <;> rfl), by repeat (first | (with_reducible first | exact HB.out | apply below_alloc | apply pw_below_drewN | apply below_drew1) | exact HB.out)⟩
        · replace c15 := Bool.eq_false_iff.mpr c15
          subst c15
          have H1 : (some false) = some r := by rw [if_neg (show ¬ (false = true) by decide)] at H; exact H
          clear H
          have H := H1
          clear H1
          obtain rfl := Option.some.inj H
          go_enter Try.func4, Try.ntmps4
          go_wp2_with (first | ((first | ((with_reducible refine gate_callee (f := 16) rfl ?_); refine goesL_ (some 16) rfl rfl Try.func16 (by kernel_rfl) rfl #[.slice A0 l0.length c0, .int .i64 1048576] rfl (by (try simp only [List.map_toArray, List.map_cons, List.map_nil]); first | done | rfl | (simp only [List.length_drop, List.length_take]; rfl)) ?_; (with_reducible refine (laws_szDiffS.calls k _ _ l0 1048576 t192 _ ?side1 ?side2 A5.out).mono ?_); (case side1 => repeat (first | exact HR0.out | (with_reducible refine Kd.C_alloc ?_ _) | (with_reducible refine Kd.C_drewN ?_ _) | (with_reducible refine Kd.C_drew ?_))); (case side2 => exact HC0.out); rintro e w25 ⟨rfl, hb⟩; refine ⟨_, rfl, ?_⟩) | (go_at_call 16; (with_reducible refine (laws_szDiffS.calls k _ _ l0 1048576 t192 _ ?side1 ?side2 A5.out).mono ?_); (case side1 => repeat (first | exact HR0.out | (with_reducible refine Kd.C_alloc ?_ _) | (with_reducible refine Kd.C_drewN ?_ _) | (with_reducible refine Kd.C_drew ?_))); (case side2 => exact HC0.out); rintro e w25 ⟨rfl, hb⟩)); have n0_ := Aside0.mk (below_step (by repeat (first | (with_reducible first | exact HB.out | apply below_alloc | apply pw_below_drewN | apply below_drew1) | exact HB.out)) hb); clear HB; have HB := n0_; clear n0_; (try clear hb); (try clear hb2); (try clear hk); (try clear hi)) | ((first | ((with_reducible refine gate_callee (f := 18) rfl ?_); refine goesL_ (some 20) rfl rfl Try.func18 (by kernel_rfl) rfl #[.slice A0 l0.length c0] rfl (by (try simp only [List.map_toArray, List.map_cons, List.map_nil]); first | done | rfl | (simp only [List.length_drop, List.length_take]; rfl)) ?_; (with_reducible refine (laws_toDiffS.calls k _ _ l0 t193 _ ?side1 ?side2 A8.out).mono ?_); (case side1 => repeat (first | exact (Kd.C_below HR0.out HB.out) | (with_reducible refine Kd.C_alloc ?_ _) | (with_reducible refine Kd.C_drewN ?_ _) | (with_reducible refine Kd.C_drew ?_))); (case side2 => exact HC0.out); rintro e w26 ⟨v194, rfl, ho0, hb⟩; refine ⟨_, rfl, ?_⟩) | (go_at_call 18; (with_reducible refine (laws_toDiffS.calls k _ _ l0 t193 _ ?side1 ?side2 A8.out).mono ?_); (case side1 => repeat (first | exact (Kd.C_below HR0.out HB.out) | (with_reducible refine Kd.C_alloc ?_ _) | (with_reducible refine Kd.C_drewN ?_ _) | (with_reducible refine Kd.C_drew ?_))); (case side2 => exact HC0.out); rintro e w26 ⟨v194, rfl, ho0, hb⟩)); have n0_ := Aside0.mk (Kd.R_lower ho0 (below_size (by repeat (first | (with_reducible first | exact HB.out | apply below_alloc | apply pw_below_drewN | apply below_drew1) | exact HB.out)))); have n1_ := Aside0.mk (below_step (by repeat (first | (with_reducible first | exact HB.out | apply below_alloc | apply pw_below_drewN | apply below_drew1) | exact HB.out)) hb); clear HB; have HO195 := n0_; have HB := n1_; clear n0_ n1_; (try clear hb); (try clear hb2); (try clear hk); (try clear hi); (try clear ho0); obtain ⟨Ao27, co27, eo27⟩ := Kd.R_slice HO195.out; subst eo27) | ((first | ((with_reducible refine gate_callee (f := 17) rfl ?_); refine goesL_ (some 23) rfl rfl Try.func17 (by kernel_rfl) rfl #[.slice Ao27 t193.length co27, .int .i64 a1, .string a2] rfl (by (try simp only [List.map_toArray, List.map_cons, List.map_nil]); first | done | rfl | (simp only [List.length_drop, List.length_take]; rfl)) ?_; (with_reducible refine (spec_DiffSum.calls k _ _ t193 a1 a2 t196 _ ?side1 ?side2 A9.out).mono ?_); (case side1 => repeat (first | exact (Kd.R_reads' HO195.out).2.2 | (with_reducible refine Kd.C_alloc ?_ _) | (with_reducible refine Kd.C_drewN ?_ _) | (with_reducible refine Kd.C_drew ?_))); (case side2 => exact (Kd.R_reads' HO195.out).2.1); rintro e w' ⟨rfl, ⟨nd, rfl⟩⟩; refine ⟨_, rfl, ?_⟩) | (go_at_call 17; (with_reducible refine (spec_DiffSum.calls k _ _ t193 a1 a2 t196 _ ?side1 ?side2 A9.out).mono ?_); (case side1 => repeat (first | exact (Kd.R_reads' HO195.out).2.2 | (with_reducible refine Kd.C_alloc ?_ _) | (with_reducible refine Kd.C_drewN ?_ _) | (with_reducible refine Kd.C_drew ?_))); (case side2 => exact (Kd.R_reads' HO195.out).2.1); rintro e w' ⟨rfl, ⟨nd, rfl⟩⟩))) | ((first | ((with_reducible refine gate_callee (f := 18) rfl ?_); refine goesL_ (some 25) rfl rfl Try.func18 (by kernel_rfl) rfl #[.slice A0 l0.length c0] rfl (by (try simp only [List.map_toArray, List.map_cons, List.map_nil]); first | done | rfl | (simp only [List.length_drop, List.length_take]; rfl)) ?_; (with_reducible refine (laws_toDiffS.calls k _ _ l0 t197 _ ?side1 ?side2 A10.out).mono ?_); (case side1 => repeat (first | exact (Kd.C_below HR0.out (by repeat (first | (with_reducible first | exact HB.out | apply below_alloc | apply pw_below_drewN | apply below_drew1) | exact HB.out))) | (with_reducible refine Kd.C_alloc ?_ _) | (with_reducible refine Kd.C_drewN ?_ _) | (with_reducible refine Kd.C_drew ?_))); (case side2 => exact HC0.out); rintro e w28 ⟨v198, rfl, ho0, hb⟩; refine ⟨_, rfl, ?_⟩) | (go_at_call 18; (with_reducible refine (laws_toDiffS.calls k _ _ l0 t197 _ ?side1 ?side2 A10.out).mono ?_); (case side1 => repeat (first | exact (Kd.C_below HR0.out (by repeat (first | (with_reducible first | exact HB.out | apply below_alloc | apply pw_below_drewN | apply below_drew1) | exact HB.out))) | (with_reducible refine Kd.C_alloc ?_ _) | (with_reducible refine Kd.C_drewN ?_ _) | (with_reducible refine Kd.C_drew ?_))); (case side2 => exact HC0.out); rintro e w28 ⟨v198, rfl, ho0, hb⟩)); have n0_ := Aside0.mk (Kd.R_elder' (by (with_reducible repeat (first | apply Kd.R_alloc | apply Kd.R_drewN | apply Kd.R_drew)); exact HO195.out) (Kd.R_base ho0) hb); have n1_ := Aside0.mk (Kd.R_lower (Kd.R_new' ho0 (Kd.R_lt (by (with_reducible repeat (first | apply Kd.R_alloc | apply Kd.R_drewN | apply Kd.R_drew)); exact HO195.out))) (below_size (by repeat (first | (with_reducible first | exact HB.out | apply below_alloc | apply pw_below_drewN | apply below_drew1) | exact HB.out)))); have n2_ := Aside0.mk (below_step (by repeat (first | (with_reducible first | exact HB.out | apply below_alloc | apply pw_below_drewN | apply below_drew1) | exact HB.out)) hb); clear HO195; clear HB; have HO195 := n0_; have HO199 := n1_; have HB := n2_; clear n0_ n1_ n2_; (try clear hb); (try clear hb2); (try clear hk); (try clear hi); (try clear ho0); obtain ⟨Ao29, co29, eo29⟩ := Kd.R_slice HO199.out; subst eo29) | ((first | ((with_reducible refine gate_callee (f := 19) rfl ?_); refine goesL_ (some 29) rfl rfl Try.func19 (by kernel_rfl) rfl #[.slice Ao29 t197.length co29, .int .i64 a1, .string a2] rfl (by (try simp only [List.map_toArray, List.map_cons, List.map_nil]); first | done | rfl | (simp only [List.length_drop, List.length_take]; rfl)) ?_; (with_reducible refine (impl_DiffSum.calls k _ _ t197 a1 a2 t200 _ ?side1 ?side2 A11.out).mono ?_); (case side1 => repeat (first | exact (Kd.R_reads' HO199.out).2.2 | (with_reducible refine Kd.C_alloc ?_ _) | (with_reducible refine Kd.C_drewN ?_ _) | (with_reducible refine Kd.C_drew ?_))); (case side2 => exact (Kd.R_reads' HO199.out).2.1); rintro e w30 ⟨rfl, hb⟩; refine ⟨_, rfl, ?_⟩) | (go_at_call 19; (with_reducible refine (impl_DiffSum.calls k _ _ t197 a1 a2 t200 _ ?side1 ?side2 A11.out).mono ?_); (case side1 => repeat (first | exact (Kd.R_reads' HO199.out).2.2 | (with_reducible refine Kd.C_alloc ?_ _) | (with_reducible refine Kd.C_drewN ?_ _) | (with_reducible refine Kd.C_drew ?_))); (case side2 => exact (Kd.R_reads' HO199.out).2.1); rintro e w30 ⟨rfl, hb⟩)); have n0_ := Aside0.mk (Kd.R_below (by (with_reducible repeat (first | apply Kd.R_alloc | apply Kd.R_drewN | apply Kd.R_drew)); exact HO195.out) hb); have n1_ := Aside0.mk (Kd.R_below (by (with_reducible repeat (first | apply Kd.R_alloc | apply Kd.R_drewN | apply Kd.R_drew)); exact HO199.out) hb); have n2_ := Aside0.mk (below_step (by repeat (first | (with_reducible first | exact HB.out | apply below_alloc | apply pw_below_drewN | apply below_drew1) | exact HB.out)) hb); clear HO195; clear HO199; clear HB; have HO195 := n0_; have HO199 := n1_; have HB := n2_; clear n0_ n1_ n2_; (try clear hb); (try clear hb2); (try clear hk); (try clear hi)) | ((first | ((with_reducible refine gate_callee (f := 18) rfl ?_); refine goesL_ (some 35) rfl rfl Try.func18 (by kernel_rfl) rfl #[.slice A0 l0.length c0] rfl (by (try simp only [List.map_toArray, List.map_cons, List.map_nil]); first | done | rfl | (simp only [List.length_drop, List.length_take]; rfl)) ?_; (with_reducible refine (laws_toDiffS.calls k _ _ l0 t201 _ ?side1 ?side2 A13.out).mono ?_); (case side1 => repeat (first | exact (Kd.C_below HR0.out HB.out) | (with_reducible refine Kd.C_alloc ?_ _) | (with_reducible refine Kd.C_drewN ?_ _) | (with_reducible refine Kd.C_drew ?_))); (case side2 => exact HC0.out); rintro e w31 ⟨v202, rfl, ho0, hb⟩; refine ⟨_, rfl, ?_⟩) | (go_at_call 18; (with_reducible refine (laws_toDiffS.calls k _ _ l0 t201 _ ?side1 ?side2 A13.out).mono ?_); (case side1 => repeat (first | exact (Kd.C_below HR0.out HB.out) | (with_reducible refine Kd.C_alloc ?_ _) | (with_reducible refine Kd.C_drewN ?_ _) | (with_reducible refine Kd.C_drew ?_))); (case side2 => exact HC0.out); rintro e w31 ⟨v202, rfl, ho0, hb⟩)); have n0_ := Aside0.mk (Kd.R_elder' (by (with_reducible repeat (first | apply Kd.R_alloc | apply Kd.R_drewN | apply Kd.R_drew)); exact HO195.out) (Kd.R_base ho0) hb); have n1_ := Aside0.mk (Kd.R_elder' (by (with_reducible repeat (first | apply Kd.R_alloc | apply Kd.R_drewN | apply Kd.R_drew)); exact HO199.out) (Kd.R_base ho0) hb); have n2_ := Aside0.mk (Kd.R_lower (Kd.R_new' (Kd.R_new' ho0 (Kd.R_lt (by (with_reducible repeat (first | apply Kd.R_alloc | apply Kd.R_drewN | apply Kd.R_drew)); exact HO195.out))) (Kd.R_lt (by (with_reducible repeat (first | apply Kd.R_alloc | apply Kd.R_drewN | apply Kd.R_drew)); exact HO199.out))) (below_size (by repeat (first | (with_reducible first | exact HB.out | apply below_alloc | apply pw_below_drewN | apply below_drew1) | exact HB.out)))); have n3_ := Aside0.mk (below_step (by repeat (first | (with_reducible first | exact HB.out | apply below_alloc | apply pw_below_drewN | apply below_drew1) | exact HB.out)) hb); clear HO195; clear HO199; clear HB; have HO195 := n0_; have HO199 := n1_; have HO203 := n2_; have HB := n3_; clear n0_ n1_ n2_ n3_; (try clear hb); (try clear hb2); (try clear hk); (try clear hi); (try clear ho0); obtain ⟨Ao32, co32, eo32⟩ := Kd.R_slice HO203.out; subst eo32) | ((first | ((with_reducible refine gate_callee (f := 20) rfl ?_); refine goesL_ (some 36) rfl rfl Try.func20 (by kernel_rfl) rfl #[.slice Ao29 t197.length co29, .slice Ao32 t201.length co32] rfl (by (try simp only [List.map_toArray, List.map_cons, List.map_nil]); first | done | rfl | (simp only [List.length_drop, List.length_take]; rfl)) ?_; (with_reducible refine (laws_eqDiffS.calls k _ _ t197 _ _ t201 false _ ?side1 ?side2 ?side3 ?side4 A14.out).mono ?_); (case side1 => repeat (first | exact (Kd.R_reads' HO199.out).2.2 | (with_reducible refine Kd.C_alloc ?_ _) | (with_reducible refine Kd.C_drewN ?_ _) | (with_reducible refine Kd.C_drew ?_))); (case side2 => exact (Kd.R_reads' HO199.out).2.1); (case side3 => repeat (first | exact (Kd.R_reads' HO203.out).2.2 | (with_reducible refine Kd.C_alloc ?_ _) | (with_reducible refine Kd.C_drewN ?_ _) | (with_reducible refine Kd.C_drew ?_))); (case side4 => exact (Kd.R_reads' HO203.out).2.1); rintro e w33 ⟨rfl, hb⟩; refine ⟨_, rfl, ?_⟩) | (go_at_call 20; (with_reducible refine (laws_eqDiffS.calls k _ _ t197 _ _ t201 false _ ?side1 ?side2 ?side3 ?side4 A14.out).mono ?_); (case side1 => repeat (first | exact (Kd.R_reads' HO199.out).2.2 | (with_reducible refine Kd.C_alloc ?_ _) | (with_reducible refine Kd.C_drewN ?_ _) | (with_reducible refine Kd.C_drew ?_))); (case side2 => exact (Kd.R_reads' HO199.out).2.1); (case side3 => repeat (first | exact (Kd.R_reads' HO203.out).2.2 | (with_reducible refine Kd.C_alloc ?_ _) | (with_reducible refine Kd.C_drewN ?_ _) | (with_reducible refine Kd.C_drew ?_))); (case side4 => exact (Kd.R_reads' HO203.out).2.1); rintro e w33 ⟨rfl, hb⟩)); have n0_ := Aside0.mk (Kd.R_below (by (with_reducible repeat (first | apply Kd.R_alloc | apply Kd.R_drewN | apply Kd.R_drew)); exact HO195.out) hb); have n1_ := Aside0.mk (Kd.R_below (by (with_reducible repeat (first | apply Kd.R_alloc | apply Kd.R_drewN | apply Kd.R_drew)); exact HO199.out) hb); have n2_ := Aside0.mk (Kd.R_below (by (with_reducible repeat (first | apply Kd.R_alloc | apply Kd.R_drewN | apply Kd.R_drew)); exact HO203.out) hb); have n3_ := Aside0.mk (below_step (by repeat (first | (with_reducible first | exact HB.out | apply below_alloc | apply pw_below_drewN | apply below_drew1) | exact HB.out)) hb); clear HO195; clear HO199; clear HO203; clear HB; have HO195 := n0_; have HO199 := n1_; have HO203 := n2_; have HB := n3_; clear n0_ n1_ n2_ n3_; (try clear hb); (try clear hb2); (try clear hk); (try clear hi)))
          go_ret
          exact ⟨by first | rfl | (simp [errW_none, errW_some] <;> rfl) | (simp [*, errW_none, errW_some] <;> rfl), by repeat (first | (with_reducible first | exact HB.out | apply below_alloc | apply pw_below_drewN | apply below_drew1) | exact HB.out)⟩
      · rw [if_neg c12] at H
        have c12b0 : (t200 == t196) = false := beq_eq_false_iff_ne.mpr c12
        have c12b1 : (t200 != t196) = true := bne_iff_ne.mpr c12
        obtain rfl := Option.some.inj H
        go_enter Try.func4, Try.ntmps4
        go_wp2_with (first | ((first | ((with_reducible refine gate_callee (f := 16) rfl ?_); refine goesL_ (some 16) rfl rfl Try.func16 (by kernel_rfl) rfl #[.slice A0 l0.length c0, .int .i64 1048576] rfl (by (try simp only [List.map_toArray, List.map_cons, List.map_nil]); first | done | rfl | (simp only [List.length_drop, List.length_take]; rfl)) ?_; (with_reducible refine (laws_szDiffS.calls k _ _ l0 1048576 t192 _ ?side1 ?side2 A5.out).mono ?_); (case side1 => repeat (first | exact HR0.out | (with_reducible refine Kd.C_alloc ?_ _) | (with_reducible refine Kd.C_drewN ?_ _) | (with_reducible refine Kd.C_drew ?_))); (case side2 => exact HC0.out); rintro e w34 ⟨rfl, hb⟩; refine ⟨_, rfl, ?_⟩) | (go_at_call 16; (with_reducible refine (laws_szDiffS.calls k _ _ l0 1048576 t192 _ ?side1 ?side2 A5.out).mono ?_); (case side1 => repeat (first | exact HR0.out | (with_reducible refine Kd.C_alloc ?_ _) | (with_reducible refine Kd.C_drewN ?_ _) | (with_reducible refine Kd.C_drew ?_))); (case side2 => exact HC0.out); rintro e w34 ⟨rfl, hb⟩)); have n0_ := Aside0.mk (below_step (by repeat (first | (with_reducible first | exact HB.out | apply below_alloc | apply pw_below_drewN | apply below_drew1) | exact HB.out)) hb); clear HB; have HB := n0_; clear n0_; (try clear hb); (try clear hb2); (try clear hk); (try clear hi)) | ((first | ((with_reducible refine gate_callee (f := 18) rfl ?_); refine goesL_ (some 20) rfl rfl Try.func18 (by kernel_rfl) rfl #[.slice A0 l0.length c0] rfl (by (try simp only [List.map_toArray, List.map_cons, List.map_nil]); first | done | rfl | (simp only [List.length_drop, List.length_take]; rfl)) ?_; (with_reducible refine (laws_toDiffS.calls k _ _ l0 t193 _ ?side1 ?side2 A8.out).mono ?_); (case side1 => repeat (first | exact (Kd.C_below HR0.out HB.out) | (with_reducible refine Kd.C_alloc ?_ _) | (with_reducible refine Kd.C_drewN ?_ _) | (with_reducible refine Kd.C_drew ?_))); (case side2 => exact HC0.out); rintro e w35 ⟨v194, rfl, ho0, hb⟩; refine ⟨_, rfl, ?_⟩) | (go_at_call 18; (with_reducible refine (laws_toDiffS.calls k _ _ l0 t193 _ ?side1 ?side2 A8.out).mono ?_); (case side1 => repeat (first | exact (Kd.C_below HR0.out HB.out) | (with_reducible refine Kd.C_alloc ?_ _) | (with_reducible refine Kd.C_drewN ?_ _) | (with_reducible refine Kd.C_drew ?_))); (case side2 => exact HC0.out); rintro e w35 ⟨v194, rfl, ho0, hb⟩)); have n0_ := Aside0.mk (Kd.R_lower ho0 (below_size (by repeat (first | (with_reducible first | exact HB.out | apply below_alloc | apply pw_below_drewN | apply below_drew1) | exact HB.out)))); have n1_ := Aside0.mk (below_step (by repeat (first | (with_reducible first | exact HB.out | apply below_alloc | apply pw_below_drewN | apply below_drew1) | exact HB.out)) hb); clear HB; have HO195 := n0_; have HB := n1_; clear n0_ n1_; (try clear hb); (try clear hb2); (try clear hk); (try clear hi); (try clear ho0); obtain ⟨Ao36, co36, eo36⟩ := Kd.R_slice HO195.out; subst eo36) | ((first | ((with_reducible refine gate_callee (f := 17) rfl ?_); refine goesL_ (some 23) rfl rfl Try.func17 (by kernel_rfl) rfl #[.slice Ao36 t193.length co36, .int .i64 a1, .string a2] rfl (by (try simp only [List.map_toArray, List.map_cons, List.map_nil]); first | done | rfl | (simp only [List.length_drop, List.length_take]; rfl)) ?_; (with_reducible refine (spec_DiffSum.calls k _ _ t193 a1 a2 t196 _ ?side1 ?side2 A9.out).mono ?_); (case side1 => repeat (first | exact (Kd.R_reads' HO195.out).2.2 | (with_reducible refine Kd.C_alloc ?_ _) | (with_reducible refine Kd.C_drewN ?_ _) | (with_reducible refine Kd.C_drew ?_))); (case side2 => exact (Kd.R_reads' HO195.out).2.1); rintro e w' ⟨rfl, ⟨nd, rfl⟩⟩; refine ⟨_, rfl, ?_⟩) | (go_at_call 17; (with_reducible refine (spec_DiffSum.calls k _ _ t193 a1 a2 t196 _ ?side1 ?side2 A9.out).mono ?_); (case side1 => repeat (first | exact (Kd.R_reads' HO195.out).2.2 | (with_reducible refine Kd.C_alloc ?_ _) | (with_reducible refine Kd.C_drewN ?_ _) | (with_reducible refine Kd.C_drew ?_))); (case side2 => exact (Kd.R_reads' HO195.out).2.1); rintro e w' ⟨rfl, ⟨nd, rfl⟩⟩))) | ((first | ((with_reducible refine gate_callee (f := 18) rfl ?_); refine goesL_ (some 25) rfl rfl Try.func18 (by kernel_rfl) rfl #[.slice A0 l0.length c0] rfl (by (try simp only [List.map_toArray, List.map_cons, List.map_nil]); first | done | rfl | (simp only [List.length_drop, List.length_take]; rfl)) ?_; (with_reducible refine (laws_toDiffS.calls k _ _ l0 t197 _ ?side1 ?side2 A10.out).mono ?_); (case side1 => repeat (first | exact (Kd.C_below HR0.out (by repeat (first | (with_reducible first | exact HB.out | apply below_alloc | apply pw_below_drewN | apply below_drew1) | exact HB.out))) | (with_reducible refine Kd.C_alloc ?_ _) | (with_reducible refine Kd.C_drewN ?_ _) | (with_reducible refine Kd.C_drew ?_))); (case side2 => exact HC0.out); rintro e w37 ⟨v198, rfl, ho0, hb⟩; refine ⟨_, rfl, ?_⟩) | (go_at_call 18; (with_reducible refine (laws_toDiffS.calls k _ _ l0 t197 _ ?side1 ?side2 A10.out).mono ?_); (case side1 => repeat (first | exact (Kd.C_below HR0.out (by repeat (first | (with_reducible first | exact HB.out | apply below_alloc | apply pw_below_drewN | apply below_drew1) | exact HB.out))) | (with_reducible refine Kd.C_alloc ?_ _) | (with_reducible refine Kd.C_drewN ?_ _) | (with_reducible refine Kd.C_drew ?_))); (case side2 => exact HC0.out); rintro e w37 ⟨v198, rfl, ho0, hb⟩)); have n0_ := Aside0.mk (Kd.R_elder' (by (with_reducible repeat (first | apply Kd.R_alloc | apply Kd.R_drewN | apply Kd.R_drew)); exact HO195.out) (Kd.R_base ho0) hb); have n1_ := Aside0.mk (Kd.R_lower (Kd.R_new' ho0 (Kd.R_lt (by (with_reducible repeat (first | apply Kd.R_alloc | apply Kd.R_drewN | apply Kd.R_drew)); exact HO195.out))) (below_size (by repeat (first | (with_reducible first | exact HB.out | apply below_alloc | apply pw_below_drewN | apply below_drew1) | exact HB.out)))); have n2_ := Aside0.mk (below_step (by repeat (first | (with_reducible first | exact HB.out | apply below_alloc | apply pw_below_drewN | apply below_drew1) | exact HB.out)) hb); clear HO195; clear HB; have HO195 := n0_; have HO199 := n1_; have HB := n2_; clear n0_ n1_ n2_; (try clear hb); (try clear hb2); (try clear hk); (try clear hi); (try clear ho0); obtain ⟨Ao38, co38, eo38⟩ := Kd.R_slice HO199.out; subst eo38) | ((first | ((with_reducible refine gate_callee (f := 19) rfl ?_); refine goesL_ (some 29) rfl rfl Try.func19 (by kernel_rfl) rfl #[.slice Ao38 t197.length co38, .int .i64 a1, .string a2] rfl (by (try simp only [List.map_toArray, List.map_cons, List.map_nil]); first | done | rfl | (simp only [List.length_drop, List.length_take]; rfl)) ?_; (with_reducible refine (impl_DiffSum.calls k _ _ t197 a1 a2 t200 _ ?side1 ?side2 A11.out).mono ?_); (case side1 => repeat (first | exact (Kd.R_reads' HO199.out).2.2 | (with_reducible refine Kd.C_alloc ?_ _) | (with_reducible refine Kd.C_drewN ?_ _) | (with_reducible refine Kd.C_drew ?_))); (case side2 => exact (Kd.R_reads' HO199.out).2.1); rintro e w39 ⟨rfl, hb⟩; refine ⟨_, rfl, ?_⟩) | (go_at_call 19; (with_reducible refine (impl_DiffSum.calls k _ _ t197 a1 a2 t200 _ ?side1 ?side2 A11.out).mono ?_); (case side1 => repeat (first | exact (Kd.R_reads' HO199.out).2.2 | (with_reducible refine Kd.C_alloc ?_ _) | (with_reducible refine Kd.C_drewN ?_ _) | (with_reducible refine Kd.C_drew ?_))); (case side2 => exact (Kd.R_reads' HO199.out).2.1); rintro e w39 ⟨rfl, hb⟩)); have n0_ := Aside0.mk (Kd.R_below (by (with_reducible repeat (first | apply Kd.R_alloc | apply Kd.R_drewN | apply Kd.R_drew)); exact HO195.out) hb); have n1_ := Aside0.mk (Kd.R_below (by (with_reducible repeat (first | apply Kd.R_alloc | apply Kd.R_drewN | apply Kd.R_drew)); exact HO199.out) hb); have n2_ := Aside0.mk (below_step (by repeat (first | (with_reducible first | exact HB.out | apply below_alloc | apply pw_below_drewN | apply below_drew1) | exact HB.out)) hb); clear HO195; clear HO199; clear HB; have HO195 := n0_; have HO199 := n1_; have HB := n2_; clear n0_ n1_ n2_; (try clear hb); (try clear hb2); (try clear hk); (try clear hi)))
        go_ret
        exact ⟨by first | rfl | (simp [errW_none, errW_some] <;> rfl) | (simp [*, errW_none, errW_some] <;> rfl), by repeat (first | (with_reducible first | exact HB.out | apply below_alloc | apply pw_below_drewN | apply below_drew1) | exact HB.out)⟩
end Go.Proofs.Ytpfdfbomlffhcaa.QA
namespace Go.Proofs.Ytpfdfbomlffhcaa.Rd
open Go.RowKit Go.ChangeShapes Go.WideShapes Go.Proofs.YtpfdfbomlffhcaaW.PrintWords
def Rd (P : Program) (t : TypeId) {α : Type} (d : Kd α) (wf : α → Prop) : Prop :=
  ∀ (H : Type) (enc : TypeId × Value → H) (w : World) (base : Nat) (sp : Nat → Bool) (held : Bool) (fuel : Nat) (cs : List Value) (x : DataW H × List MemPlace),
    DataW.trod enc P w base sp held fuel t cs = some x → ∃ a : α, d.K w a cs ∧ wf a
def RdF (P : Program) (fs : List Field) (off : Nat) {α : Type} (d : Kd α) (wf : α → Prop) : Prop :=
  ∀ (H : Type) (enc : TypeId × Value → H) (w : World) (base : Nat) (sp : Nat → Bool) (held : Bool) (n : Nat) (cs : List Value),
    cs.length = off + d.sz → (∀ f ∈ fs, ∃ y, DataW.trod enc P w base sp held n f.type ((cs.drop f.offset).take (P.cellsOf f.type)) = some y) → ∃ a : α, d.K w a (cs.drop off) ∧ wf a
def WfInt (k : IntKind) (n : Int) : Prop := (Lit.int k n).wf = true
def WfStr (s : ByteArray) : Prop := s.size ≤ maxLen
def WfRow {α : Type} (wf : α → Prop) (l : List α) : Prop := l.length ≤ maxLen ∧ ∀ x ∈ l, wf x
theorem rd_int {P : Program} {t : TypeId} {k : IntKind} (hu : P.underlying t = some (.int k)) : Rd P t (Kd.int k) (WfInt k) := by
  intro H enc w base sp held fuel cs x h
  cases fuel with
  | zero => simp [DataW.trod] at h
  | succ n =>
    match cs with
    | [.int k' m] =>
      simp only [DataW.trod, hu] at h
      split at h
      · rename_i hk
        obtain ⟨rfl, hw⟩ := hk
        exact ⟨m, rfl, hw⟩
      · cases h
    | [] => simp [DataW.trod, hu] at h
    | [.bool _] => simp [DataW.trod, hu] at h
    | [.float _ _] => simp [DataW.trod, hu] at h
    | [.complex _ _ _] => simp [DataW.trod, hu] at h
    | [.string _] => simp [DataW.trod, hu] at h
    | [.pointer _] => simp [DataW.trod, hu] at h
    | [.slice _ _ _] => simp [DataW.trod, hu] at h
    | [.map _] => simp [DataW.trod, hu] at h
    | [.chan _] => simp [DataW.trod, hu] at h
    | [.func _ _ _] => simp [DataW.trod, hu] at h
    | [.nilFunc] => simp [DataW.trod, hu] at h
    | [.iface _ _] => simp [DataW.trod, hu] at h
    | [.nilIface] => simp [DataW.trod, hu] at h
    | [.agg _] => simp [DataW.trod, hu] at h
    | [.tuple _] => simp [DataW.trod, hu] at h
    | _ :: _ :: _ => simp [DataW.trod, hu] at h
theorem rd_str {P : Program} {t : TypeId} (hu : P.underlying t = some .string) : Rd P t Kd.string WfStr := by
  intro H enc w base sp held fuel cs x h
  cases fuel with
  | zero => simp [DataW.trod] at h
  | succ n =>
    match cs with
    | [.string s] =>
      simp only [DataW.trod, hu] at h
      split at h
      · rename_i hk
        exact ⟨s, rfl, hk⟩
      · cases h
    | [] => simp [DataW.trod, hu] at h
    | [.int _ _] => simp [DataW.trod, hu] at h
    | [.bool _] => simp [DataW.trod, hu] at h
    | [.float _ _] => simp [DataW.trod, hu] at h
    | [.complex _ _ _] => simp [DataW.trod, hu] at h
    | [.pointer _] => simp [DataW.trod, hu] at h
    | [.slice _ _ _] => simp [DataW.trod, hu] at h
    | [.map _] => simp [DataW.trod, hu] at h
    | [.chan _] => simp [DataW.trod, hu] at h
    | [.func _ _ _] => simp [DataW.trod, hu] at h
    | [.nilFunc] => simp [DataW.trod, hu] at h
    | [.iface _ _] => simp [DataW.trod, hu] at h
    | [.nilIface] => simp [DataW.trod, hu] at h
    | [.agg _] => simp [DataW.trod, hu] at h
    | [.tuple _] => simp [DataW.trod, hu] at h
    | _ :: _ :: _ => simp [DataW.trod, hu] at h
theorem rdF_last {P : Program} {f : Field} {off : Nat} {α : Type} {d : Kd α} {wf : α → Prop} (h : Rd P f.type d wf) (ho : f.offset = off) (hc : P.cellsOf f.type = d.sz) : RdF P [f] off d wf := by
  intro H enc w base sp held n cs hl hy
  obtain ⟨y, hy⟩ := hy f (List.mem_singleton.2 rfl)
  rw [ho, hc, List.take_of_length_le (by rw [List.length_drop]; omega)] at hy
  exact h H enc w base sp held n _ y hy
theorem rdF_cons {P : Program} {f : Field} {fs : List Field} {off off2 : Nat} {α β : Type} {d : Kd α} {e : Kd β} {wf : α → Prop} {wg : β → Prop} (h : Rd P f.type d wf) (ho : f.offset = off) (hc : P.cellsOf f.type = d.sz)
    (h2 : off2 = off + d.sz) (hs : RdF P fs off2 e wg) : RdF P (f :: fs) off (Kd.pair d e) (fun x => wf x.1 ∧ wg x.2) := by
  intro H enc w base sp held n cs hl hy
  obtain ⟨y, hy1⟩ := hy f (List.mem_cons_self ..)
  have hl' : cs.length = off + (d.sz + e.sz) := hl
  obtain ⟨a, ha, hwa⟩ := h H enc w base sp held n _ y hy1
  obtain ⟨b, hb, hwb⟩ := hs H enc w base sp held n cs (by omega) (fun g hg => hy g (List.mem_cons_of_mem _ hg))
  rw [ho, hc] at ha
  refine ⟨(a, b), ⟨_, _, ?_, ha, hb⟩, hwa, hwb⟩
  rw [h2, ← List.drop_drop, List.take_append_drop]
theorem rd_struct {P : Program} {t : TypeId} {fs : Array Field} {α β : Type} {d : Kd α} {wf : α → Prop} {wg : β → Prop} (g : β → α) (gi : α → β) (hg : ∀ a, g (gi a) = a) (hwg : ∀ a, wf a → wg (gi a))
    (hu : P.underlying t = some (.struct fs)) (hc : P.cellsOf t = d.sz) (hF : RdF P fs.toList 0 d wf) : Rd P t (Kd.iso d g) wg := by
  intro H enc w base sp held fuel cs x h
  obtain ⟨xs, n, _, rfl, hl, hlen, hf⟩ := DataW.trod_struct hu h
  obtain ⟨a, ha, hwa⟩ := hF H enc w base sp held n cs (by omega) (fun f hfm => by
    obtain ⟨i, hi, rfl⟩ := List.mem_iff_getElem.1 hfm
    have hi' : i < fs.size := by simpa using hi
    have z := hf i (fs[i]) (by simp [hi'])
    rw [List.getElem?_eq_getElem (by omega)] at z
    exact ⟨_, by simpa using z⟩)
  refine ⟨gi a, ?_, hwg a hwa⟩
  show d.K w (g (gi a)) cs
  rw [hg]
  simpa using ha
theorem rd_slice {P : Program} {t e : TypeId} {α : Type} {d : Kd α} {wf : α → Prop} (hu : P.underlying t = some (.slice e)) (hc : P.cellsOf e = d.sz) (hd : Rd P e d wf) : Rd P t (Kd.slice e d) (WfRow wf) := by
  intro H enc w base sp held fuel cs x h
  rcases Go.Deep.open_slice hu h with ⟨rfl, _⟩ | ⟨a, len, cap, m, n, D, Pl, rfl, hb, hl, hm, hmm, _, hx⟩
  · exact ⟨[], ⟨none, 0, rfl, Nat.le_refl _, rfl, by simp, fun h => absurd h (by simp)⟩, by simp [maxLen], by simp⟩
  · have hlm : len ≤ m := by rw [hmm]; split <;> omega
    have hall : ∀ i, i < len → ∃ cs', w.cells? base (a.add (i * P.cellsOf e)) (P.cellsOf e) = some cs' ∧ DataW.trod enc P w base sp held n e cs' = some (D i, Pl i) := fun i hi => hx i (by omega)
    have key : ∀ (k : Nat), k ≤ len → ∃ l : List α, l.length = k ∧ (∀ x ∈ l, wf x) ∧ ∀ j p, l[j]? = some p → ∃ c, c.length = d.sz ∧ d.K w p c ∧ ∀ i u, c[i]? = some u → w.cell? (a.add (j * d.sz + i)) = some u := by
      intro k
      induction k with
      | zero => intro _; exact ⟨[], rfl, by simp, by simp⟩
      | succ k ih =>
        intro hk
        obtain ⟨l, hl1, hl2, hl3⟩ := ih (by omega)
        obtain ⟨cs', h1, h2⟩ := hall k (by omega)
        obtain ⟨b, hb1, hb2⟩ := hd H enc w base sp held n cs' _ h2
        refine ⟨l ++ [b], by simp [hl1], ?_, ?_⟩
        · intro z hz
          rcases List.mem_append.1 hz with hz | hz
          · exact hl2 z hz
          · rw [List.mem_singleton.1 hz]; exact hb2
        · intro j p hj
          by_cases hjl : j < l.length
          · rw [List.getElem?_append_left hjl] at hj
            exact hl3 j p hj
          · rw [List.getElem?_append_right (by omega)] at hj
            have hj0 : j - l.length = 0 := by
              cases hz : j - l.length with
              | zero => rfl
              | succ q => rw [hz] at hj; simp at hj
            rw [hj0] at hj
            obtain rfl : b = p := by simpa using hj
            have hjk : j = k := by omega
            subst hjk
            refine ⟨cs', d.K_len hb1, hb1, fun i u hu' => ?_⟩
            obtain ⟨_, hlen', hcell⟩ := World.cells?_some h1
            have hi : i < cs'.length := by
              rcases Nat.lt_or_ge i cs'.length with h | h
              · exact h
              · rw [List.getElem?_eq_none h] at hu'; cases hu'
            have z := hcell i (by omega)
            rw [hu', Go.Deep.add_add, hc] at z
            exact z
    obtain ⟨l, hl1, hl2, hl3⟩ := key len (Nat.le_refl _)
    refine ⟨l, ⟨some a, cap, by rw [hl1], by omega, ?_⟩, by rw [hl1]; exact Nat.le_trans hl hm, hl2⟩
    exact ⟨rfl, by rw [hl1]; have : cap ≤ 2 ^ 63 - 1 := hm; omega, fun _ => ⟨a, rfl, hl3⟩⟩
end Go.Proofs.Ytpfdfbomlffhcaa.Rd
namespace Go.Proofs.Ytpfdfbomlffhcaa.QA
open Go.RowKit Go.Proofs.Ytpfdfbomlffhcaa Go.Proofs.YtpfdfbomlffhcaaW.PrintWords
def wf88 (x : S88) : Prop := (Rd.WfInt .i64) x.f0 ∧ Rd.WfStr x.f1 ∧ Rd.WfStr x.f2 ∧ (Rd.WfInt .i64) x.f3 ∧ Rd.WfStr x.f4 ∧ (Rd.WfInt .i64) x.f5
set_option maxRecDepth 100000 in
theorem rd88 : Rd.Rd Try.prog 88 k88 wf88 := Rd.rd_struct _ (fun a => ⟨a.1, a.2.1, a.2.2.1, a.2.2.2.1, a.2.2.2.2.1, a.2.2.2.2.2⟩) (fun _ => rfl) (fun _ h => h) Try.underlying88 (by kernel_rfl) (Rd.rdF_cons (Rd.rd_int (Try.underlying2)) rfl (by kernel_rfl) (off2 := 1) rfl (Rd.rdF_cons (Rd.rd_str (Try.underlying9)) rfl (by kernel_rfl) (off2 := 2) rfl (Rd.rdF_cons (Rd.rd_str (Try.underlying9)) rfl (by kernel_rfl) (off2 := 3) rfl (Rd.rdF_cons (Rd.rd_int (Try.underlying2)) rfl (by kernel_rfl) (off2 := 4) rfl (Rd.rdF_cons (Rd.rd_str (Try.underlying9)) rfl (by kernel_rfl) (off2 := 5) rfl (Rd.rdF_last (Rd.rd_int (Try.underlying2)) rfl (by kernel_rfl)))))))
end Go.Proofs.Ytpfdfbomlffhcaa.QA
namespace Go.Proofs.Ytpfdfbomlffhcaa.QA
open Go.Proofs.Ytpfdfbomlffhcaa Go.Proofs.YtpfdfbomlffhcaaW.PrintWords
def laws_FnExactDiffSum.Pure : Prop := ∀ (l0 : List (S88)) (a1 : Int) (a2 : ByteArray), (Rd.WfRow wf88) l0 → (Rd.WfInt .i64) a1 → Rd.WfStr a2 → ∃ k, laws_FnExactDiffSum.f k l0 a1 a2 = some true
end Go.Proofs.Ytpfdfbomlffhcaa.QA
namespace Go.Proofs.Ytpfdfbomlffhcaa.Ev0
open Go.RowKit Go.Proofs.YtpfdfbomlffhcaaW.PrintWords
def Evt {α : Type} (f : Nat → Option α) (r : α) : Prop := ∃ K, ∀ k, K ≤ k → f k = some r
namespace Evt
variable {α β : Type}
theorem pure (r : α) : Evt (fun _ => some r) r := ⟨0, fun _ _ => rfl⟩
theorem bind {f : Nat → Option α} {g : Nat → α → Option β} {a : α} {r : β} (h : Evt f a) (h2 : Evt (fun k => g k a) r) : Evt (fun k => (f k).bind (g k)) r := by
  obtain ⟨K, hK⟩ := h
  obtain ⟨L, hL⟩ := h2
  refine ⟨K + L, fun k hk => ?_⟩
  show (f k).bind (g k) = some r
  rw [hK k (by omega)]
  exact hL k (by omega)
theorem succ {f : Nat → Option α} {r : α} (h : Evt (fun k => f (k + 1)) r) : Evt f r := by
  obtain ⟨K, hK⟩ := h
  refine ⟨K + 1, fun k hk => ?_⟩
  obtain ⟨m, rfl⟩ : ∃ m, k = m + 1 := ⟨k - 1, by omega⟩
  exact hK m (by omega)
theorem pos {c : Prop} [Decidable c] {f g : Nat → Option α} {r : α} (hc : c) (h : Evt f r) : Evt (fun k => if c then f k else g k) r := by
  simpa only [if_pos hc] using h
theorem neg {c : Prop} [Decidable c] {f g : Nat → Option α} {r : α} (hc : ¬ c) (h : Evt g r) : Evt (fun k => if c then f k else g k) r := by
  simpa only [if_neg hc] using h
theorem ite {c : Prop} [Decidable c] {f g : Nat → Option α} {r : α} (h1 : c → Evt f r) (h2 : ¬ c → Evt g r) : Evt (fun k => if c then f k else g k) r := by
  by_cases hc : c
  · exact pos hc (h1 hc)
  · exact neg hc (h2 hc)
theorem ex {f : Nat → Option α} {r : α} (h : Evt f r) : ∃ k, f k = some r := by
  obtain ⟨K, hK⟩ := h
  exact ⟨K, hK K (Nat.le_refl _)⟩
theorem same {f : Nat → Option α} {r r' : α} (h : Evt f r) (e : r = r') : Evt f r' := e ▸ h
end Evt
theorem w64 {x : Int} (h0 : -9223372036854775808 ≤ x) (h1 : x ≤ 9223372036854775807) : wrap64 x = x := by
  unfold wrap64
  omega
noncomputable def B (p : Prop) : Bool := @decide p (Classical.propDecidable p)
theorem B_true {p : Prop} (h : p) : B p = true := by unfold B; exact @decide_eq_true p (Classical.propDecidable p) h
theorem B_false {p : Prop} (h : ¬ p) : B p = false := by unfold B; exact @decide_eq_false p (Classical.propDecidable p) h
theorem B_congr {p q : Prop} (h : p ↔ q) : B p = B q := by rw [propext h]
theorem decide_B (p : Prop) [Decidable p] : decide p = B p := by
  by_cases h : p
  · rw [decide_eq_true h, B_true h]
  · rw [decide_eq_false h, B_false h]
end Go.Proofs.Ytpfdfbomlffhcaa.Ev0
namespace Go.Proofs.Ytpfdfbomlffhcaa.Ev0
open Go.RowKit Go.Proofs.YtpfdfbomlffhcaaW.PrintWords
theorem up_loop {σ ρ : Type} (n : Int) (F : Nat → σ → Int → Option ρ) (st : Int → σ) (r : Int → ρ)
    (step : ∀ i, 0 ≤ i → i < n → Evt (fun k => F k (st (i + 1)) (i + 1)) (r (i + 1)) → Evt (fun k => F (k + 1) (st i) i) (r i))
    (stop : Evt (fun k => F (k + 1) (st n) n) (r n)) (i : Int) (h0 : 0 ≤ i) (hn : i ≤ n) : Evt (fun k => F k (st i) i) (r i) := by
  have key : ∀ (d : Nat) (i : Int), 0 ≤ i → i ≤ n → n - i ≤ d → Evt (fun k => F k (st i) i) (r i) := by
    intro d
    induction d with
    | zero =>
      intro i h0 h1 hd
      obtain rfl : i = n := by omega
      exact stop.succ
    | succ d ih =>
      intro i h0 h1 hd
      by_cases hlt : i < n
      · exact (step i h0 hlt (ih (i + 1) (by omega) (by omega) (by omega))).succ
      · obtain rfl : i = n := by omega
        exact stop.succ
  exact key (n - i).toNat i h0 hn (by omega)
def SzR (f : Nat → Option Int) (left : Int) (p : Prop) : Prop := ∃ t, Evt f t ∧ (t < 0 ∨ (0 ≤ t ∧ t ≤ left ∧ p))
theorem sz_loop (n : Nat) (hn : n ≤ 9223372036854775807) (p : Int → Prop) (f : Nat → Option Int) (F : Nat → Int → Int → Option Int) (left : Int) (hl0 : 0 ≤ left) (hl : left ≤ 1048576)
    (hf : ∀ k, f k = if wrap64 (left - (n : Int)) < 0 then some (-1) else F k (wrap64 (left - (n : Int))) 0)
    (step : ∀ s i, 0 ≤ i → i < (n : Int) → 0 ≤ s → s ≤ 1048576 → (∃ r, r < 0 ∧ Evt (fun k => F (k + 1) s i) r) ∨ (∃ s', 0 ≤ s' ∧ s' ≤ s ∧ p i ∧ ∀ r, Evt (fun k => F k s' (i + 1)) r → Evt (fun k => F (k + 1) s i) r))
    (stop : ∀ s i, (n : Int) ≤ i → Evt (fun k => F (k + 1) s i) s) : SzR f left (n ≤ 1048576 ∧ ∀ i, 0 ≤ i → i < (n : Int) → p i) := by
  have hw : wrap64 (left - (n : Int)) = left - (n : Int) := w64 (by omega) (by omega)
  by_cases h : left - (n : Int) < 0
  · refine ⟨-1, ⟨0, fun k _ => ?_⟩, .inl (by decide)⟩
    rw [hf, hw, if_pos h]
  · have key : ∀ (d : Nat) (s i : Int), 0 ≤ i → (n : Int) - i ≤ d → 0 ≤ s → s ≤ 1048576 → ∃ t, Evt (fun k => F k s i) t ∧ (t < 0 ∨ (0 ≤ t ∧ t ≤ s ∧ ∀ j, i ≤ j → j < (n : Int) → p j)) := by
      intro d
      induction d with
      | zero => intro s i h0 hd hs0 hs1; exact ⟨s, (stop s i (by omega)).succ, .inr ⟨hs0, Int.le_refl _, fun j h1 h2 => absurd h2 (by omega)⟩⟩
      | succ d ih =>
        intro s i h0 hd hs0 hs1
        by_cases hlt : i < (n : Int)
        · rcases step s i h0 hlt hs0 hs1 with ⟨r, hr0, hr⟩ | ⟨s', h1, h2, hp, hs⟩
          · exact ⟨r, hr.succ, .inl hr0⟩
          · obtain ⟨t, ht, h3⟩ := ih s' (i + 1) (by omega) (by omega) h1 (by omega)
            refine ⟨t, (hs t ht).succ, h3.imp id (fun ⟨g0, g1, g2⟩ => ⟨g0, by omega, fun j h1 h2 => ?_⟩)⟩
            by_cases e : j = i
            · rw [e]; exact hp
            · exact g2 j (by omega) h2
        · exact ⟨s, (stop s i (by omega)).succ, .inr ⟨hs0, Int.le_refl _, fun j h1 h2 => absurd h2 (by omega)⟩⟩
    obtain ⟨t, ⟨K, hK⟩, h3⟩ := key n (left - (n : Int)) 0 (Int.le_refl _) (by omega) (by omega) (by omega)
    refine ⟨t, ⟨K, fun k hk => ?_⟩, h3.imp id (fun ⟨g0, g1, g2⟩ => ⟨g0, by omega, by omega, g2⟩)⟩
    rw [hf, hw, if_neg h]
    exact hK k hk
theorem sz_step {s a : Int} {f : Option Int} {p : Prop} (hs0 : 0 ≤ s) (hs1 : s ≤ 1048576) (ha0 : 0 ≤ a) (ha : a ≤ 9223372036854775807)
    (h : 0 ≤ s - a → ∃ t, f = some t ∧ (t < 0 ∨ (0 ≤ t ∧ t ≤ s - a ∧ p))) : ∃ t, (if wrap64 (s - a) < 0 then some (-1) else f) = some t ∧ (t < 0 ∨ (0 ≤ t ∧ t ≤ s ∧ p)) := by
  have hw : wrap64 (s - a) = s - a := w64 (by omega) (by omega)
  rw [hw]
  by_cases hn : s - a < 0
  · exact ⟨-1, by rw [if_pos hn], .inl (by decide)⟩
  · obtain ⟨t, ht, h2⟩ := h (by omega)
    exact ⟨t, by rw [if_neg hn]; exact ht, h2.imp id (fun ⟨g0, g1, g2⟩ => ⟨g0, by omega, g2⟩)⟩
theorem wsub {s a : Int} (hs0 : 0 ≤ s) (hs1 : s ≤ 1048576) (ha0 : 0 ≤ a) (ha : a ≤ 9223372036854775807) : wrap64 (s - a) = s - a := w64 (by omega) (by omega)
theorem getD_at {α : Type} (l : List α) (z : α) (i : Nat) (h : i < l.length) : l.getD i z = l[i] := by
  rw [List.getD_eq_getElem?_getD, List.getElem?_eq_getElem h]
  rfl
theorem fill_loop {α β : Type} (l : List α) (zα : α) (z : β) (g : α → β) (F : Nat → List β → Int → Option (List β))
    (step : ∀ acc i, 0 ≤ i → i < (l.length : Int) → acc.length = l.length → ∀ r, Evt (fun k => F k (acc.set i.toNat (g (l.getD i.toNat zα))) (i + 1)) r → Evt (fun k => F (k + 1) acc i) r)
    (stop : ∀ acc i, (l.length : Int) ≤ i → Evt (fun k => F (k + 1) acc i) acc) : Evt (fun k => F k (List.replicate l.length z) 0) (l.map g) := by
  have h := up_loop (l.length : Int) F (fun i => (l.take i.toNat).map g ++ List.replicate (l.length - i.toNat) z) (fun _ => l.map g) ?_ ?_ 0 (Int.le_refl _) (by omega)
  · simpa using h
  · intro i h0 hlt ih
    refine step _ i h0 hlt (by simp; omega) _ ?_
    have hi : i.toNat < l.length := by omega
    have e : ((l.take i.toNat).map g ++ List.replicate (l.length - i.toNat) z).set i.toNat (g (l.getD i.toNat zα)) = (l.take (i + 1).toNat).map g ++ List.replicate (l.length - (i + 1).toNat) z := by
      have e1 : (i + 1).toNat = i.toNat + 1 := by omega
      rw [e1, List.take_succ_eq_append_getElem hi, List.map_append, getD_at l zα _ hi, List.set_append_right _ _ (by simp; omega)]
      have e2 : l.length - i.toNat = (l.length - (i.toNat + 1)) + 1 := by omega
      have e3 : i.toNat - ((l.take i.toNat).map g).length = 0 := by simp; omega
      rw [e2, e3, List.replicate_succ]
      simp
    rw [e]
    exact ih
  · have h := stop ((l.take ((l.length : Int)).toNat).map g ++ List.replicate (l.length - ((l.length : Int)).toNat) z) (l.length : Int) (Int.le_refl _)
    refine h.same ?_
    simp
theorem all_loop (n : Int) (h0 : 0 ≤ n) (F : Nat → Int → Option Bool) (step : ∀ i, 0 ≤ i → i < n → Evt (fun k => F k (i + 1)) true → Evt (fun k => F (k + 1) i) true)
    (stop : Evt (fun k => F (k + 1) n) true) : Evt (fun k => F k 0) true :=
  up_loop n (fun k (_ : Unit) i => F k i) (fun _ => ()) (fun _ => true) step stop 0 (Int.le_refl _) h0
theorem find_loop (n : Int) (hn : 0 ≤ n) (p : Int → Prop) (F : Nat → Int → Option Int)
    (step : ∀ i, 0 ≤ i → i < n → (p i → Evt (fun k => F (k + 1) i) i) ∧ (¬ p i → ∀ r, Evt (fun k => F k (i + 1)) r → Evt (fun k => F (k + 1) i) r))
    (stop : Evt (fun k => F (k + 1) n) (-1)) :
    ∃ r, Evt (fun k => F k 0) r ∧ ((r = -1 ∧ ∀ j, 0 ≤ j → j < n → ¬ p j) ∨ (0 ≤ r ∧ r < n ∧ p r ∧ ∀ j, 0 ≤ j → j < r → ¬ p j)) := by
  have key : ∀ (d : Nat) (i : Int), 0 ≤ i → i ≤ n → n - i ≤ d → ∃ r, Evt (fun k => F k i) r ∧ ((r = -1 ∧ ∀ j, i ≤ j → j < n → ¬ p j) ∨ (i ≤ r ∧ r < n ∧ p r ∧ ∀ j, i ≤ j → j < r → ¬ p j)) := by
    intro d
    induction d with
    | zero =>
      intro i h0 h1 hd
      obtain rfl : i = n := by omega
      exact ⟨-1, stop.succ, .inl ⟨rfl, fun j h1 h2 => absurd h2 (by omega)⟩⟩
    | succ d ih =>
      intro i h0 h1 hd
      by_cases hlt : i < n
      · by_cases hp : p i
        · exact ⟨i, ((step i h0 hlt).1 hp).succ, .inr ⟨Int.le_refl _, hlt, hp, fun j h1 h2 => absurd h2 (by omega)⟩⟩
        · obtain ⟨r, hr, h⟩ := ih (i + 1) (by omega) (by omega) (by omega)
          refine ⟨r, ((step i h0 hlt).2 hp r hr).succ, ?_⟩
          rcases h with ⟨h1, h2⟩ | ⟨h1, h2, h3, h4⟩
          · refine .inl ⟨h1, fun j g1 g2 => ?_⟩
            by_cases e : j = i
            · rw [e]; exact hp
            · exact h2 j (by omega) g2
          · refine .inr ⟨by omega, h2, h3, fun j g1 g2 => ?_⟩
            by_cases e : j = i
            · rw [e]; exact hp
            · exact h4 j (by omega) g2
      · obtain rfl : i = n := by omega
        exact ⟨-1, stop.succ, .inl ⟨rfl, fun j h1 h2 => absurd h2 (by omega)⟩⟩
  exact key n.toNat 0 (Int.le_refl _) hn (by omega)
end Go.Proofs.Ytpfdfbomlffhcaa.Ev0
namespace Go.Proofs.Ytpfdfbomlffhcaa.QA
open Go.RowKit Go.Proofs.YtpfdfbomlffhcaaW.PrintWords Go.Proofs.Ytpfdfbomlffhcaa.Ev0
theorem longText_ev (l : List ByteArray) (hl : l.length ≤ 1000) : Evt (fun k => impl_longText.f k l) (B (∃ x ∈ l, (x.size : Int) > 20000)) := by
  unfold impl_longText.f slices_ContainsFunc_string_string_impl_longText_1.f slices_IndexFunc_string_string_impl_longText_1.f
  obtain ⟨r, hr, h⟩ := find_loop (l.length : Int) (by omega) (fun i => ((rdOf ByteArray.empty l i).size : Int) > 20000) (fun k i => slices_IndexFunc_string_string_impl_longText_1.l0 k l (l.length : Int) i) (by
      intro i h0 hlt
      have hw : wrap64 (i + 1) = i + 1 := w64 (by omega) (by omega)
      simp only [slices_IndexFunc_string_string_impl_longText_1.l0, impl_longText_1.f, Option.bind_some, hw]
      exact ⟨fun hp => Evt.pos hlt (Evt.pos h0 (Evt.pos hlt (Evt.pos (decide_eq_true hp) (Evt.pure _)))), fun hp r hr => Evt.pos hlt (Evt.pos h0 (Evt.pos hlt (Evt.neg (by simpa using hp) hr)))⟩) (by
      simp only [slices_IndexFunc_string_string_impl_longText_1.l0]
      exact Evt.neg (by omega) (Evt.pure _))
  have at_ : ∀ i : Int, 0 ≤ i → i < (l.length : Int) → rdOf ByteArray.empty l i ∈ l := fun i h0 h1 => by
    unfold rdOf
    rw [getD_at l _ _ (by omega)]
    exact List.getElem_mem _
  refine Evt.bind (Evt.bind hr (Evt.pure _)) ((Evt.pure _).same ?_)
  rw [decide_B]
  refine B_congr ⟨fun hg => ?_, fun ⟨x, hx, hg⟩ => ?_⟩
  · rcases h with ⟨h1, _⟩ | ⟨h1, h2, h3, _⟩
    · omega
    · exact ⟨_, at_ r h1 h2, h3⟩
  · rcases h with ⟨h1, h2⟩ | ⟨h1, _⟩
    · obtain ⟨i, hi, rfl⟩ := List.mem_iff_getElem.1 hx
      refine absurd ?_ (h2 i (by omega) (by omega))
      show ((rdOf ByteArray.empty l (i : Int)).size : Int) > 20000
      unfold rdOf
      rw [Int.toNat_natCast, getD_at l _ _ hi]
      exact hg
    · exact h1
theorem longText1_ev (s : ByteArray) : Evt (fun k => impl_longText.f k [s]) (B ((s.size : Int) > 20000)) :=
  (longText_ev [s] (by simp)).same (B_congr ⟨fun ⟨x, hx, h⟩ => by rw [List.mem_singleton.1 hx] at h; exact h, fun h => ⟨s, by simp, h⟩⟩)
end Go.Proofs.Ytpfdfbomlffhcaa.QA
