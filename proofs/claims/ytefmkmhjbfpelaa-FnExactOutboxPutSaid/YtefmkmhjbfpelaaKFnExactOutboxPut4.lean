-- Merged by a program of this session (wip/tool/pack.py) out of its own texts for this claim.
import Derived.Test.YtefmkmhjbfpelaaKFnExactOutboxPut0
import Derived.Test.YtefmkmhjbfpelaaKFnExactOutboxPut1
import Derived.Test.YtefmkmhjbfpelaaKFnExactOutboxPut2
import Derived.Test.YtefmkmhjbfpelaaKFnExactOutboxPut3
namespace Go.Proofs.Ytefmkmhjbfpelaa.QO
open Go.RowKit Go.Proofs.YtefmkmhjbfpelaaW.PrintWords Go.Proofs.YtefmkmhjbfpelaaW.PrintLast Go.Proofs.YtefmkmhjbfpelaaW.PrintMore
attribute [local go_sem] max2_int min2_int max_two min_two max_three min_three max_four min_four   -- for this text's walks alone
set_option linter.unusedVariables false
set_option linter.unusedSimpArgs false
set_option maxHeartbeats 8000000 in
set_option maxRecDepth 100000 in
theorem cmp_Compare_string.calls (a0 : ByteArray) (a1 : ByteArray) (r : Int) (w : World) (h : cmp_Compare_string.f a0 a1 = some r) :
    Calls Try.prog 131 #[.string a0, .string a1] w fun e w' => e = .returned (.int .i64 r) ∧ Drawn0 w w' := by
  have H : ((cmp_isNaN_string.f a0).bind fun t192 => ((cmp_isNaN_string.f a1).bind fun t193 => (if t192 = true then (if t193 = true then (some 0) else (some (-1))) else (if t193 = true then (some 1) else (if (Op.bytesLess a0.toList a1.toList) = true then (some (-1)) else (if (Op.bytesLess a1.toList a0.toList) = true then (some 1) else (some 0))))))) = some r := h; clear h; replace H := Option.bind_eq_some_iff.mp H; obtain ⟨t192, A30, H⟩ := H; replace H : ((cmp_isNaN_string.f a1).bind fun t193 => (if t192 = true then (if t193 = true then (some 0) else (some (-1))) else (if t193 = true then (some 1) else (if (Op.bytesLess a0.toList a1.toList) = true then (some (-1)) else (if (Op.bytesLess a1.toList a0.toList) = true then (some 1) else (some 0)))))) = some r := H; have A3 := Aside0.mk A30; clear A30
  go_enter Try.func131, Try.ntmps131
  try go_wp2_with (fail)
  go_at_call 158; (with_reducible refine (cmp_isNaN_string.calls a0 t192 _ A3.out).mono ?_); rintro e w' ⟨rfl, ⟨nd, rfl⟩⟩; replace H := Option.bind_eq_some_iff.mp H; obtain ⟨t193, A40, H⟩ := H; replace H : (if t192 = true then (if t193 = true then (some 0) else (some (-1))) else (if t193 = true then (some 1) else (if (Op.bytesLess a0.toList a1.toList) = true then (some (-1)) else (if (Op.bytesLess a1.toList a0.toList) = true then (some 1) else (some 0))))) = some r := H; have A4 := Aside0.mk A40; clear A40
  try go_wp2_with (fail)
  go_at_call 158; (with_reducible refine (cmp_isNaN_string.calls a1 t193 _ A4.out).mono ?_); rintro e w' ⟨rfl, ⟨nd, rfl⟩⟩
  by_cases c5 : t192 = true
  · subst c5
    have H1 : (if t193 = true then (some 0) else (some (-1))) = some r := by rw [if_pos rfl] at H; exact H
    clear H; have H := H1; clear H1
    by_cases c6 : t193 = true
    · subst c6
      have H1 : (some 0) = some r := by rw [if_pos rfl] at H; exact H
      clear H; have H := H1; clear H1; obtain rfl := Option.some.inj H
      go_wp2
      go_ret
      exact ⟨fg, by repeat (first | exact Drawn0.refl _ | apply Drawn0.step)⟩
    · replace c6 := Bool.eq_false_iff.mpr c6; subst c6
      have H1 : (some (-1)) = some r := by rw [if_neg (show ¬ (false = true) by decide)] at H; exact H
      clear H; have H := H1; clear H1; obtain rfl := Option.some.inj H
      go_wp2
      go_ret
      exact ⟨fg, by repeat (first | exact Drawn0.refl _ | apply Drawn0.step)⟩
  · replace c5 := Bool.eq_false_iff.mpr c5; subst c5
    have H1 : (if t193 = true then (some 1) else (if (Op.bytesLess a0.toList a1.toList) = true then (some (-1)) else (if (Op.bytesLess a1.toList a0.toList) = true then (some 1) else (some 0)))) = some r := by rw [if_neg (show ¬ (false = true) by decide)] at H; exact H
    clear H; have H := H1; clear H1
    by_cases c7 : t193 = true
    · subst c7
      have H1 : (some 1) = some r := by rw [if_pos rfl] at H; exact H
      clear H; have H := H1; clear H1; obtain rfl := Option.some.inj H
      go_wp2
      go_ret
      exact ⟨fg, by repeat (first | exact Drawn0.refl _ | apply Drawn0.step)⟩
    · replace c7 := Bool.eq_false_iff.mpr c7; subst c7
      have H1 : (if (Op.bytesLess a0.toList a1.toList) = true then (some (-1)) else (if (Op.bytesLess a1.toList a0.toList) = true then (some 1) else (some 0))) = some r := by rw [if_neg (show ¬ (false = true) by decide)] at H; exact H
      clear H; have H := H1; clear H1
      by_cases c8 : (Op.bytesLess a0.toList a1.toList) = true
      · rw [if_pos c8] at H; have c8b0 : (Op.bytesLess a0.toList a1.toList) = true := c8; clear c8; obtain rfl := Option.some.inj H
        go_wp2
        go_ret
        exact ⟨fg, by repeat (first | exact Drawn0.refl _ | apply Drawn0.step)⟩
      · rw [if_neg c8] at H
        have c8b0 : (Op.bytesLess a0.toList a1.toList) = false := by simpa using c8
        clear c8
        by_cases c9 : (Op.bytesLess a1.toList a0.toList) = true
        · rw [if_pos c9] at H; have c9b0 : (Op.bytesLess a1.toList a0.toList) = true := c9; clear c9; obtain rfl := Option.some.inj H
          go_wp2
          go_ret
          exact ⟨fg, by repeat (first | exact Drawn0.refl _ | apply Drawn0.step)⟩
        · rw [if_neg c9] at H
          have c9b0 : (Op.bytesLess a1.toList a0.toList) = false := by simpa using c9
          clear c9; obtain rfl := Option.some.inj H
          go_wp2
          go_ret
          exact ⟨fg, by repeat (first | exact Drawn0.refl _ | apply Drawn0.step)⟩
set_option maxHeartbeats 8000000 in
set_option maxRecDepth 100000 in
theorem cmp_isNaN_int64.calls (a0 : Int) (r : Bool) (w : World) (h : cmp_isNaN_int64.f a0 = some r) :
    Calls Try.prog 159 #[.int .i64 a0] w fun e w' => e = .returned (.bool r) ∧ Drawn0 w w' := by
  have H : (some (a0 != a0)) = some r := h; clear h; obtain rfl := Option.some.inj H
  go_enter Try.func159, Try.ntmps159
  go_wp2
  go_ret
  exact ⟨fg, by repeat (first | exact Drawn0.refl _ | apply Drawn0.step)⟩
set_option maxHeartbeats 8000000 in
set_option maxRecDepth 100000 in
theorem cmp_Compare_int64.calls (a0 : Int) (a1 : Int) (r : Int) (w : World) (h : cmp_Compare_int64.f a0 a1 = some r) :
    Calls Try.prog 132 #[.int .i64 a0, .int .i64 a1] w fun e w' => e = .returned (.int .i64 r) ∧ Drawn0 w w' := by
  have H : ((cmp_isNaN_int64.f a0).bind fun t194 => ((cmp_isNaN_int64.f a1).bind fun t195 => (if t194 = true then (if t195 = true then (some 0) else (some (-1))) else (if t195 = true then (some 1) else (if a0 < a1 then (some (-1)) else (if a0 > a1 then (some 1) else (some 0))))))) = some r := h; clear h; replace H := Option.bind_eq_some_iff.mp H; obtain ⟨t194, A30, H⟩ := H; replace H : ((cmp_isNaN_int64.f a1).bind fun t195 => (if t194 = true then (if t195 = true then (some 0) else (some (-1))) else (if t195 = true then (some 1) else (if a0 < a1 then (some (-1)) else (if a0 > a1 then (some 1) else (some 0)))))) = some r := H; have A3 := Aside0.mk A30; clear A30
  go_enter Try.func132, Try.ntmps132
  try go_wp2_with (fail)
  go_at_call 159; (with_reducible refine (cmp_isNaN_int64.calls a0 t194 _ A3.out).mono ?_); rintro e w' ⟨rfl, ⟨nd, rfl⟩⟩; replace H := Option.bind_eq_some_iff.mp H; obtain ⟨t195, A40, H⟩ := H; replace H : (if t194 = true then (if t195 = true then (some 0) else (some (-1))) else (if t195 = true then (some 1) else (if a0 < a1 then (some (-1)) else (if a0 > a1 then (some 1) else (some 0))))) = some r := H; have A4 := Aside0.mk A40; clear A40
  try go_wp2_with (fail)
  go_at_call 159; (with_reducible refine (cmp_isNaN_int64.calls a1 t195 _ A4.out).mono ?_); rintro e w' ⟨rfl, ⟨nd, rfl⟩⟩
  by_cases c5 : t194 = true
  · subst c5
    have H1 : (if t195 = true then (some 0) else (some (-1))) = some r := by rw [if_pos rfl] at H; exact H
    clear H; have H := H1; clear H1
    by_cases c6 : t195 = true
    · subst c6
      have H1 : (some 0) = some r := by rw [if_pos rfl] at H; exact H
      clear H; have H := H1; clear H1; obtain rfl := Option.some.inj H
      go_wp2
      go_ret
      exact ⟨fg, by repeat (first | exact Drawn0.refl _ | apply Drawn0.step)⟩
    · replace c6 := Bool.eq_false_iff.mpr c6; subst c6
      have H1 : (some (-1)) = some r := by rw [if_neg (show ¬ (false = true) by decide)] at H; exact H
      clear H; have H := H1; clear H1; obtain rfl := Option.some.inj H
      go_wp2
      go_ret
      exact ⟨fg, by repeat (first | exact Drawn0.refl _ | apply Drawn0.step)⟩
  · replace c5 := Bool.eq_false_iff.mpr c5; subst c5
    have H1 : (if t195 = true then (some 1) else (if a0 < a1 then (some (-1)) else (if a0 > a1 then (some 1) else (some 0)))) = some r := by rw [if_neg (show ¬ (false = true) by decide)] at H; exact H
    clear H; have H := H1; clear H1
    by_cases c7 : t195 = true
    · subst c7
      have H1 : (some 1) = some r := by rw [if_pos rfl] at H; exact H
      clear H; have H := H1; clear H1; obtain rfl := Option.some.inj H
      go_wp2
      go_ret
      exact ⟨fg, by repeat (first | exact Drawn0.refl _ | apply Drawn0.step)⟩
    · replace c7 := Bool.eq_false_iff.mpr c7; subst c7
      have H1 : (if a0 < a1 then (some (-1)) else (if a0 > a1 then (some 1) else (some 0))) = some r := by rw [if_neg (show ¬ (false = true) by decide)] at H; exact H
      clear H; have H := H1; clear H1
      by_cases c8 : a0 < a1
      · rw [if_pos c8] at H; have c8b0 : decide (a0 < a1) = true := decide_eq_true c8; clear c8; obtain rfl := Option.some.inj H
        go_wp2
        go_ret
        exact ⟨fg, by repeat (first | exact Drawn0.refl _ | apply Drawn0.step)⟩
      · rw [if_neg c8] at H; have c8b0 : decide (a0 < a1) = false := decide_eq_false c8; clear c8
        by_cases c9 : a0 > a1
        · rw [if_pos c9] at H; have c9b0 : decide (a1 < a0) = true := decide_eq_true c9; clear c9; obtain rfl := Option.some.inj H
          go_wp2
          go_ret
          exact ⟨fg, by repeat (first | exact Drawn0.refl _ | apply Drawn0.step)⟩
        · rw [if_neg c9] at H; have c9b0 : decide (a1 < a0) = false := decide_eq_false c9; clear c9; obtain rfl := Option.some.inj H
          go_wp2
          go_ret
          exact ⟨fg, by repeat (first | exact Drawn0.refl _ | apply Drawn0.step)⟩
end Go.Proofs.Ytefmkmhjbfpelaa.QO
namespace Go.Proofs.Ytefmkmhjbfpelaa.QO
open Go.RowKit Go.Proofs.YtefmkmhjbfpelaaW.PrintWords Go.Proofs.YtefmkmhjbfpelaaW.PrintLast Go.Proofs.YtefmkmhjbfpelaaW.PrintMore
attribute [local go_sem] max2_int min2_int max_two min_two max_three min_three max_four min_four   -- for this text's walks alone
set_option linter.unusedVariables false
set_option linter.unusedSimpArgs false
set_option maxHeartbeats 8000000 in
set_option maxRecDepth 100000 in
theorem cmp_Or_int.calls (k : Nat) (A0 : Option Addr) (c0 : Nat) (l0 : List Int) (r : Int) (w : World) (hr0 : Kd.C (Kd.int .i64) w A0 l0.length l0) (hc0 : l0.length ≤ c0) (h : cmp_Or_int.f k l0 = some r) :
    Calls Try.prog 130 #[.slice A0 l0.length c0] w fun e w' => e = .returned (.int .i64 r) ∧ Drawn0 w w' := by
  have HR0 := Aside0.mk hr0; have HC0 := Aside0.mk hc0; clear hr0 hc0; have H : (cmp_Or_int.l0 k 0 l0 (l0.length : Int) 0) = some r := h; clear h; have H' := Aside0.mk H; clear H
  go_enter Try.func130, Try.ntmps130
  go_wp2
  go_loopg [8] k (fun kq v8 w' => ∃ (x8_1 : Int), v8 = .int .i64 x8_1 ∧ Aside0 (cmp_Or_int.l0 kq 0 l0 (l0.length : Int) x8_1 = some r) ∧ Aside0 (kq ≤ k) ∧ Drawn0 w w')
  case atStart => exact ⟨(0), fg, H', ⟨Nat.le_refl _⟩, by repeat (first | exact Drawn0.refl _ | apply Drawn0.step)⟩
  case round =>
    clear H'
    try clear c1
    obtain ⟨x8_1, rfl, HA, HK1, ⟨m1, rfl⟩⟩ := hrel
    cases gk with
    | zero => exact absurd HA.out (by simp [cmp_Or_int.l0])
    | succ k1 =>
      have H := HA.out; clear HA; simp only [cmp_Or_int.l0] at H
      by_cases c2 : x8_1 < (l0.length : Int)
      · rw [if_pos c2] at H; have c2b0 : decide (x8_1 < (l0.length : Int)) = true := decide_eq_true c2; clear c2
        by_cases c3 : 0 ≤ x8_1
        · rw [if_pos c3] at H; have c3b0 : decide (0 ≤ x8_1) = true := decide_eq_true c3; clear c3
          by_cases c4 : x8_1 < (l0.length : Int)
          · rw [if_pos c4] at H; have c4b0 : decide (x8_1 < (l0.length : Int)) = true := decide_eq_true c4; clear c4
            by_cases c5 : (rd l0 x8_1) = 0
            · rw [if_pos c5] at H; have c5b0 : ((rd l0 x8_1) == 0) = true := beq_iff_eq.mpr c5; have c5b1 : ((rd l0 x8_1) != 0) = false := bne_eq_false_iff_eq.mpr c5; clear c5; have H' := Aside0.mk H; clear H; have p196 : 0 ≤ (x8_1 : Int) := oa; have q196 : x8_1 < (l0.length : Int) := oa; obtain ⟨ad196, e196, hx196_0⟩ := Kd.at_int HR0.out x8_1 p196 q196
              cases e196
              replace p196 := eq_true p196; replace q196 := eq_true q196
              go_wp2
              go_roundg k1
              case measure => have := HK1.out; omega
              case rel => exact ⟨(wrap64 (x8_1 + 1)), fg, H', ⟨by have := HK1.out; omega⟩, by repeat (first | exact Drawn0.refl _ | apply Drawn0.step)⟩
            · rw [if_neg c5] at H; have c5b0 : ((rd l0 x8_1) == 0) = false := beq_eq_false_iff_ne.mpr c5; have c5b1 : ((rd l0 x8_1) != 0) = true := bne_iff_ne.mpr c5; obtain rfl := Option.some.inj H; have p196 : 0 ≤ (x8_1 : Int) := oa; have q196 : x8_1 < (l0.length : Int) := oa; obtain ⟨ad196, e196, hx196_0⟩ := Kd.at_int HR0.out x8_1 p196 q196
              cases e196
              replace p196 := eq_true p196; replace q196 := eq_true q196
              go_wp2
              go_ret
              exact ⟨fg, by repeat (first | exact Drawn0.refl _ | apply Drawn0.step)⟩
          · rw [if_neg c4] at H
            exact absurd H (by simp)
        · rw [if_neg c3] at H
          exact absurd H (by simp)
      · rw [if_neg c2] at H; have c2b0 : decide (x8_1 < (l0.length : Int)) = false := decide_eq_false c2; clear c2; obtain rfl := Option.some.inj H
        go_wp2
        go_ret
        exact ⟨fg, by repeat (first | exact Drawn0.refl _ | apply Drawn0.step)⟩
end Go.Proofs.Ytefmkmhjbfpelaa.QO
namespace Go.Proofs.Ytefmkmhjbfpelaa.QO
open Go.RowKit Go.Proofs.YtefmkmhjbfpelaaW.PrintWords Go.Proofs.YtefmkmhjbfpelaaW.PrintLast Go.Proofs.YtefmkmhjbfpelaaW.PrintMore
attribute [local go_sem] max2_int min2_int max_two min_two max_three min_three max_four min_four   -- for this text's walks alone
set_option linter.unusedVariables false
set_option linter.unusedSimpArgs false
def impl_outOrder.T1 : Bool × List (List Nat × List Nat) := (true, [([], []), ([0], [0]), ([], []), ([2], [2]), ([1, 3], [1, 3]), ([], []), ([5], [5]), ([], []), ([7], [7]), ([6, 8, 4], [6, 8]), ([4, 9], [4, 9]), ([10, 9], [10]), ([11, 11, 0, 1, 2, 3, 4, 5, 6, 7, 8, 9, 10, 11], [11])])
def impl_outOrder.B1 : List Nat := [0, 1, 0, 4, 15, 0, 32, 0, 128, 511, 1023, 2047, 4095]
theorem impl_outOrder.tab1 : rtab .any (opsOf Try.f81 1) = impl_outOrder.T1 := by kernel_rfl
theorem impl_outOrder.bits1 : waitsOk impl_outOrder.T1.2 impl_outOrder.B1 = true := by kernel_rfl
set_option maxHeartbeats 8000000 in
set_option maxRecDepth 100000 in
theorem impl_outOrder.calls (k : Nat) (a0_0 : ByteArray) (a0_1 : Int) (a0_2 : ByteArray) (a0_3 : Int) (a0_4 : Int) (a1_0 : ByteArray) (a1_1 : Int) (a1_2 : ByteArray) (a1_3 : Int) (a1_4 : Int) (r : Int) (w : World) (h : impl_outOrder.f k a0_0 a0_1 a0_2 a0_3 a0_4 a1_0 a1_1 a1_2 a1_3 a1_4 = some r) :
    Calls Try.prog 81 #[.agg #[.string a0_0, .int .i64 a0_1, .string a0_2, .int .i64 a0_3, .int .i64 a0_4], .agg #[.string a1_0, .int .i64 a1_1, .string a1_2, .int .i64 a1_3, .int .i64 a1_4]] w fun e w' => e = .returned (.int .i64 r) ∧ Below w.heap.size w w' := by
  have hu24 := Try.underlying24; have HB := Aside0.mk (Below.refl w.heap.size w); have H : ((cmp_Compare_string.f a0_0 a1_0).bind fun t199 => ((cmp_Compare_int64.f a0_1 a1_1).bind fun t200 => ((cmp_Or_int.f k (([t199, t200] : List Int))).bind fun t204 => (some t204)))) = some r := h; clear h; replace H := Option.bind_eq_some_iff.mp H; obtain ⟨t199, A30, H⟩ := H; replace H : ((cmp_Compare_int64.f a0_1 a1_1).bind fun t200 => ((cmp_Or_int.f k (([t199, t200] : List Int))).bind fun t204 => (some t204))) = some r := H; have A3 := Aside0.mk A30; clear A30; replace H := Option.bind_eq_some_iff.mp H; obtain ⟨t200, A40, H⟩ := H; replace H : ((cmp_Or_int.f k (([t199, t200] : List Int))).bind fun t204 => (some t204)) = some r := H; have A4 := Aside0.mk A40; clear A40; obtain ⟨y201, hy201⟩ : ∃ y_ : List Int, y_ = (([t199, t200] : List Int)) := ⟨_, rfl⟩
  replace H : ((cmp_Or_int.f k y201).bind fun t204 => (some t204)) = some r := by first | (rw [hy201]; with_reducible exact H) | (have H2_ := (Option.bind_some _ _).symm.trans H; rw [hy201]; with_reducible exact H2_) | (have H2_ := (Option.bind_some _ _).symm.trans H; with_reducible exact H2_) | with_reducible exact H | (rw [hy201]; exact H) | exact H
  have Ny201 := Aside0.mk hy201; clear hy201; replace H := Option.bind_eq_some_iff.mp H; obtain ⟨t204, A50, H⟩ := H; replace H : (some t204) = some r := H; have A5 := Aside0.mk A50; clear A50; obtain rfl := Option.some.inj H
  go_enter Try.func81, Try.ntmps81
  try go_wp2_with (first | ((with_reducible refine gate_dst (N := 2) rfl ?_); refine bx 2 (cs := #[.string a0_0, .int .i64 a0_1, .string a0_2, .int .i64 a0_3, .int .i64 a0_4]) (t := 24) ?_; intro gb197 hg w6 hbox hb; have BK197 := Aside0.mk (hbox); have GW197 := Aside0.mk ((gs hg (bs HB))); have GE197 := Aside0.mk ((gs hg (bs HB))); replace HB := Aside0.mk (below_step (bs HB) hb); clear hb hbox hg) | ((with_reducible refine gate_dst (N := 3) rfl ?_); refine bx 3 (cs := #[.string a1_0, .int .i64 a1_1, .string a1_2, .int .i64 a1_3, .int .i64 a1_4]) (t := 24) ?_; intro gb198 hg w7 hbox hb; have BK198 := Aside0.mk (hbox); have GW198 := Aside0.mk ((gs hg (bs HB))); have GE198 := Aside0.mk ((gs hg (bs HB))); replace HB := Aside0.mk (below_step (bs HB) hb); have NB197_198 := Aside0.mk ((gn hg (ks BK197))); have NB198_197 := Aside0.mk ((gm hg (ks BK197))); replace BK197 := Aside0.mk (blk_below (ks BK197) hb); clear hb hbox hg))
  replace BK197 := Aside0.mk (blk_drew BK197.out); replace BK198 := Aside0.mk (blk_drew BK198.out); replace HB := Aside0.mk (below_drew1 HB.out); refine start_ (n := 13) (S := fun w' => w'.cell? ⟨gb197, 0, none⟩ = some (.string a0_0) ∧ w'.cell? ⟨gb197, 1, none⟩ = some (.int .i64 a0_1) ∧ w'.cell? ⟨gb197, 2, none⟩ = some (.string a0_2) ∧ w'.cell? ⟨gb197, 3, none⟩ = some (.int .i64 a0_3) ∧ w'.cell? ⟨gb197, 4, none⟩ = some (.int .i64 a0_4) ∧ w'.cell? ⟨gb198, 0, none⟩ = some (.string a1_0) ∧ w'.cell? ⟨gb198, 1, none⟩ = some (.int .i64 a1_1) ∧ w'.cell? ⟨gb198, 2, none⟩ = some (.string a1_2) ∧ w'.cell? ⟨gb198, 3, none⟩ = some (.int .i64 a1_3) ∧ w'.cell? ⟨gb198, 4, none⟩ = some (.int .i64 a1_4)) (ds := []) #[false, false, false, false, false, false, false, false, false, false, false, false, false] (by kernel_rfl) rfl rfl ⟨(blk_cell BK197.out 0).trans rfl, (blk_cell BK197.out 1).trans rfl, (blk_cell BK197.out 2).trans rfl, (blk_cell BK197.out 3).trans rfl, (blk_cell BK197.out 4).trans rfl, (blk_cell BK198.out 0).trans rfl, (blk_cell BK198.out 1).trans rfl, (blk_cell BK198.out 2).trans rfl, (blk_cell BK198.out 3).trans rfl, (blk_cell BK198.out 4).trans rfl⟩ (fun hHeld => ?_); refine with_tabW impl_outOrder.tab1 impl_outOrder.bits1 (fun HT_ HW_ => ?_)
  generalize w7.drew = w8 at BK197 BK198 HB hHeld ⊢
  refine pA 0 5 HT_ ?_; refine pA 2 7 HT_ ?_; refine pA 5 10 HT_ ?_; refine pA 7 12 HT_ ?_; refine tA 1 6 HT_ HW_ hHeld ?_; refine tA 3 8 HT_ HW_ hHeld ?_; refine tA 6 11 HT_ HW_ hHeld ?_; refine tA 8 13 HT_ HW_ hHeld ?_; refine oA 4 9 HT_ (fun K hK => ?_); refine gA Try.func131 #[.string a0_0, .string a1_0] ?_; (with_reducible refine (cmp_Compare_string.calls a0_0 a1_0 t199 _ A3.out).mono ?_); rintro e w' ⟨rfl, ⟨nd, rfl⟩⟩; refine ⟨_, rfl, ?_⟩; refine hK.out _ _ ⟨(blk_cell BK197.out 0).trans rfl, (blk_cell BK197.out 1).trans rfl, (blk_cell BK197.out 2).trans rfl, (blk_cell BK197.out 3).trans rfl, (blk_cell BK197.out 4).trans rfl, (blk_cell BK198.out 0).trans rfl, (blk_cell BK198.out 1).trans rfl, (blk_cell BK198.out 2).trans rfl, (blk_cell BK198.out 3).trans rfl, (blk_cell BK198.out 4).trans rfl⟩ (fun hHeld => ?_); clear hK K; refine nA 9 ?_; refine oA 9 14 HT_ (fun K hK => ?_); refine gA Try.func132 #[.int .i64 a0_1, .int .i64 a1_1] ?_; (with_reducible refine (cmp_Compare_int64.calls a0_1 a1_1 t200 _ A4.out).mono ?_); rintro e w' ⟨rfl, ⟨nd, rfl⟩⟩; refine ⟨_, rfl, ?_⟩; refine hK.out _ _ ⟨(blk_cell BK197.out 0).trans rfl, (blk_cell BK197.out 1).trans rfl, (blk_cell BK197.out 2).trans rfl, (blk_cell BK197.out 3).trans rfl, (blk_cell BK197.out 4).trans rfl, (blk_cell BK198.out 0).trans rfl, (blk_cell BK198.out 1).trans rfl, (blk_cell BK198.out 2).trans rfl, (blk_cell BK198.out 3).trans rfl, (blk_cell BK198.out 4).trans rfl⟩ (fun hHeld => ?_); clear hK K; refine nA 14 ?_; refine oA 10 15 HT_ (fun K hK => ?_); refine Kd.R_lit_step (Kd.int .i64) _ 3 ?hg (N := 15) ?hd (xs := ([t199, t200] : List Int)) (inner := [.int .i64 t199, .int .i64 t200]) (ok := fun _ => True) (okp := fun _ => True) ?hr ?hp (fun _ hk => hk) trivial (Below.refl _ _) (Nat.le_refl _) (by simp) ?_; (case hd => rfl); (case hg => rfl); (case hr => first | (go_simp; done) | (go_simp; rfl)); (case hp => exact (Reps.one (show Kd.M (Kd.int .i64) _ _ _ t199 [.int .i64 t199] from rfl) (Reps.one (show Kd.M (Kd.int .i64) _ _ _ t200 [.int .i64 t200] from rfl) (Reps.none _ _)))); intro v202 w9 ho10 hb hg_ hnew_; clear hg_ hnew_
  (first | rw [← Ny201.out] at ho10 | (simp only [Int.reduceToNat] at ho10; rw [← Ny201.out] at ho10))
  have HO203 := Aside0.mk (Kd.R_lower ho10 (below_size (bs HB))); replace BK197 := Aside0.mk (blk_below (ks BK197) hb); replace BK198 := Aside0.mk (blk_below (ks BK198) hb); replace HB := Aside0.mk (below_step (bs HB) hb); clear hb ho10; obtain ⟨Ao11, co11, eo11⟩ := Kd.R_slice HO203.out
  (first | subst eo11 | (injection eo11 with f1_ f2_ f3_; have f4_ := f1_.symm; have f5_ := f3_.symm; clear f1_ f2_ f3_; subst f4_; subst f5_))
  refine hK.out _ _ ⟨(blk_cell BK197.out 0).trans rfl, (blk_cell BK197.out 1).trans rfl, (blk_cell BK197.out 2).trans rfl, (blk_cell BK197.out 3).trans rfl, (blk_cell BK197.out 4).trans rfl, (blk_cell BK198.out 0).trans rfl, (blk_cell BK198.out 1).trans rfl, (blk_cell BK198.out 2).trans rfl, (blk_cell BK198.out 3).trans rfl, (blk_cell BK198.out 4).trans rfl⟩ (fun hHeld => ?_); clear hK K; refine nA 15 ?_; refine oA 11 16 HT_ (fun K hK => ?_); refine gA Try.func130 #[.slice Ao11 y201.length co11] ?_; (with_reducible refine (cmp_Or_int.calls k _ _ y201 t204 _ ?side1 ?side2 A5.out).mono ?_)
  (case side1 => repeat (first | exact (Kd.R_reads' HO203.out).2.2 | (with_reducible refine Kd.C_alloc ?_ _) | (with_reducible refine Kd.C_drewN ?_ _) | (with_reducible refine Kd.C_drew ?_)))
  (case side2 => exact (Kd.R_reads' HO203.out).2.1)
  rintro e w' ⟨rfl, ⟨nd, rfl⟩⟩; refine ⟨_, rfl, ?_⟩; refine hK.out _ _ ⟨(blk_cell BK197.out 0).trans rfl, (blk_cell BK197.out 1).trans rfl, (blk_cell BK197.out 2).trans rfl, (blk_cell BK197.out 3).trans rfl, (blk_cell BK197.out 4).trans rfl, (blk_cell BK198.out 0).trans rfl, (blk_cell BK198.out 1).trans rfl, (blk_cell BK198.out 2).trans rfl, (blk_cell BK198.out 3).trans rfl, (blk_cell BK198.out 4).trans rfl⟩ (fun hHeld => ?_); clear hK K; refine nA 16 ?_; refine pA 12 4 HT_ ?_; refine done_ (done_of HT_.out (by kernel_rfl)) ?_
  try go_wp2
  go_ret
  exact ⟨ff, bs HB⟩
end Go.Proofs.Ytefmkmhjbfpelaa.QO
namespace Go.Proofs.Ytefmkmhjbfpelaa.QO
open Go.RowKit Go.Proofs.YtefmkmhjbfpelaaW.PrintWords Go.Proofs.YtefmkmhjbfpelaaW.PrintLast Go.Proofs.YtefmkmhjbfpelaaW.PrintMore
attribute [local go_sem] max2_int min2_int max_two min_two max_three min_three max_four min_four   -- for this text's walks alone
set_option linter.unusedVariables false
set_option linter.unusedSimpArgs false
def impl_OutboxRight.T6 : Bool × List (List Nat × List Nat) := (true, [([], []), ([0], [0]), ([1], [1]), ([2, 1], [2]), ([3], [3]), ([4, 3], [3, 4]), ([5, 3, 3], [3, 5]), ([6], [6]), ([6], [6]), ([8, 6], [6, 8]), ([7, 9, 6], [6, 7, 9]), ([10, 6], [6, 10]), ([6], [6]), ([11, 12, 6, 6], [6, 11, 12]), ([13, 6], [6, 13]), ([6, 14, 3], [3, 6, 14]), ([3, 15], [3, 15])])
def impl_OutboxRight.B6 : List Nat := [0, 1, 3, 7, 15, 31, 63, 127, 127, 383, 1023, 2047, 127, 8191, 16383, 32767, 65535]
theorem impl_OutboxRight.tab6 : rtab .any (opsOf Try.f21 6) = impl_OutboxRight.T6 := by kernel_rfl
theorem impl_OutboxRight.bits6 : waitsOk impl_OutboxRight.T6.2 impl_OutboxRight.B6 = true := by kernel_rfl
set_option maxHeartbeats 8000000 in
set_option maxRecDepth 100000 in
theorem impl_OutboxRight.calls (k : Nat) (A0 : Option Addr) (c0 : Nat) (l0 : List (S24)) (r : Bool) (w : World) (hr0 : Kd.C k24 w A0 l0.length l0) (hc0 : l0.length ≤ c0) (h : impl_OutboxRight.f k l0 = some r) :
    Calls Try.prog 21 #[.slice A0 l0.length c0] w fun e w' => e = .returned (.bool r) ∧ Below w.heap.size w w' := by
  have hu24 := Try.underlying24; have HR0 := Aside0.mk hr0; have HC0 := Aside0.mk hc0; clear hr0 hc0; have HB := Aside0.mk (Below.refl w.heap.size w); have H : (if (l0.length : Int) > 60 then (some false) else (impl_OutboxRight.l0 k l0 l0 (l0.length : Int) 0)) = some r := h; clear h
  by_cases c2 : (l0.length : Int) > 60
  · rw [if_pos c2] at H; have c2b0 : decide (60 < (l0.length : Int)) = true := decide_eq_true c2; have c2b1 : decide (60 < l0.length) = true := decide_eq_true (by omega); clear c2; obtain rfl := Option.some.inj H
    go_enter Try.func21, Try.ntmps21
    go_wp2
    go_ret
    exact ⟨ff, bs HB⟩
  · rw [if_neg c2] at H; have c2b0 : decide (60 < (l0.length : Int)) = false := decide_eq_false c2; have c2b1 : decide (60 < l0.length) = false := decide_eq_false (by omega); clear c2; have H' := Aside0.mk H; clear H
    go_enter Try.func21, Try.ntmps21
    go_wp2
    go_loopg [10] k (fun kq v10 w' => ∃ (x10_1 : Int), v10 = .int .i64 x10_1 ∧ Aside0 (impl_OutboxRight.l0 kq l0 l0 (l0.length : Int) x10_1 = some r) ∧ Aside0 (kq ≤ k) ∧ Aside0 (Below w.heap.size w w'))
    case atStart => exact ⟨(0), fg, H', ⟨Nat.le_refl _⟩, ⟨bs HB⟩⟩
    case round =>
      clear H'
      try clear c2
      try clear c2b0
      try clear c2b1
      try clear p2
      obtain ⟨x10_1, rfl, HA, HK1, HB⟩ := hrel
      cases gk with
      | zero => exact absurd HA.out (by simp [impl_OutboxRight.l0])
      | succ k1 =>
        have H := HA.out; clear HA; simp only [impl_OutboxRight.l0] at H
        by_cases c3 : x10_1 < (l0.length : Int)
        · rw [if_pos c3] at H; have c3b0 : decide (x10_1 < (l0.length : Int)) = true := decide_eq_true c3; clear c3
          by_cases c4 : 0 ≤ x10_1
          · rw [if_pos c4] at H; have c4b0 : decide (0 ≤ x10_1) = true := decide_eq_true c4; clear c4
            by_cases c5 : x10_1 < (l0.length : Int)
            · rw [if_pos c5] at H; have c5b0 : decide (x10_1 < (l0.length : Int)) = true := decide_eq_true c5; clear c5; replace H := Option.bind_eq_some_iff.mp H; obtain ⟨t207, A60, H⟩ := H; replace H : (if t207 = true then (if x10_1 > 0 then (if 0 ≤ (wrap64 (x10_1 - 1)) then (if (wrap64 (x10_1 - 1)) < (l0.length : Int) then ((impl_outOrder.f k1 ((rd_T24 l0 (wrap64 (x10_1 - 1))).f0) ((rd_T24 l0 (wrap64 (x10_1 - 1))).f1) ((rd_T24 l0 (wrap64 (x10_1 - 1))).f2) ((rd_T24 l0 (wrap64 (x10_1 - 1))).f3) ((rd_T24 l0 (wrap64 (x10_1 - 1))).f4) ((rd_T24 l0 x10_1).f0) ((rd_T24 l0 x10_1).f1) ((rd_T24 l0 x10_1).f2) ((rd_T24 l0 x10_1).f3) ((rd_T24 l0 x10_1).f4)).bind fun t209 => (if t209 ≥ 0 then (some false) else (impl_OutboxRight.l0 k1 l0 l0 (l0.length : Int) (wrap64 (x10_1 + 1))))) else (none)) else (none)) else (impl_OutboxRight.l0 k1 l0 l0 (l0.length : Int) (wrap64 (x10_1 + 1)))) else (some false)) = some r := H; have A6 := Aside0.mk A60; clear A60
              by_cases c7 : t207 = true
              · subst c7
                have H1 : (if x10_1 > 0 then (if 0 ≤ (wrap64 (x10_1 - 1)) then (if (wrap64 (x10_1 - 1)) < (l0.length : Int) then ((impl_outOrder.f k1 ((rd_T24 l0 (wrap64 (x10_1 - 1))).f0) ((rd_T24 l0 (wrap64 (x10_1 - 1))).f1) ((rd_T24 l0 (wrap64 (x10_1 - 1))).f2) ((rd_T24 l0 (wrap64 (x10_1 - 1))).f3) ((rd_T24 l0 (wrap64 (x10_1 - 1))).f4) ((rd_T24 l0 x10_1).f0) ((rd_T24 l0 x10_1).f1) ((rd_T24 l0 x10_1).f2) ((rd_T24 l0 x10_1).f3) ((rd_T24 l0 x10_1).f4)).bind fun t209 => (if t209 ≥ 0 then (some false) else (impl_OutboxRight.l0 k1 l0 l0 (l0.length : Int) (wrap64 (x10_1 + 1))))) else (none)) else (none)) else (impl_OutboxRight.l0 k1 l0 l0 (l0.length : Int) (wrap64 (x10_1 + 1)))) = some r := by rw [if_pos rfl] at H; exact H
                clear H; have H := H1; clear H1
                by_cases c8 : x10_1 > 0
                · rw [if_pos c8] at H; have c8b0 : decide (0 < x10_1) = true := decide_eq_true c8; clear c8; obtain ⟨ji9, hji9⟩ : ∃ j_ : Int, (wrap64 (x10_1 - 1)) = j_ := ⟨_, rfl⟩
                  replace H : (if 0 ≤ (ji9) then (if (ji9) < (l0.length : Int) then ((impl_outOrder.f k1 ((rd_T24 l0 (ji9)).f0) ((rd_T24 l0 (ji9)).f1) ((rd_T24 l0 (ji9)).f2) ((rd_T24 l0 (ji9)).f3) ((rd_T24 l0 (ji9)).f4) ((rd_T24 l0 x10_1).f0) ((rd_T24 l0 x10_1).f1) ((rd_T24 l0 x10_1).f2) ((rd_T24 l0 x10_1).f3) ((rd_T24 l0 x10_1).f4)).bind fun t209 => (if t209 ≥ 0 then (some false) else (impl_OutboxRight.l0 k1 l0 l0 (l0.length : Int) (wrap64 (x10_1 + 1))))) else (none)) else (none)) = some r := by first | (rw [hji9] at H; exact H) | (simp only [hji9] at H ⊢; exact H)
                  (try rw [hji9] at A6)
                  have hji9w : (IntKind.i64.wrap (x10_1 - 1)) = ji9 := (i64_w _).trans hji9
                  by_cases c10 : 0 ≤ (ji9)
                  · rw [if_pos c10] at H; have c10b0 : decide (0 ≤ (ji9)) = true := decide_eq_true c10; clear c10
                    by_cases c11 : (ji9) < (l0.length : Int)
                    · rw [if_pos c11] at H; have c11b0 : decide ((ji9) < (l0.length : Int)) = true := decide_eq_true c11; clear c11; replace H := Option.bind_eq_some_iff.mp H; obtain ⟨t209, A120, H⟩ := H; replace H : (if t209 ≥ 0 then (some false) else (impl_OutboxRight.l0 k1 l0 l0 (l0.length : Int) (wrap64 (x10_1 + 1)))) = some r := H; have A12 := Aside0.mk A120; clear A120
                      by_cases c13 : t209 ≥ 0
                      · rw [if_pos c13] at H; have c13b0 : decide (0 ≤ t209) = true := decide_eq_true c13; clear c13; obtain rfl := Option.some.inj H; have p205 : 0 ≤ (x10_1 : Int) := oa; have q205 : x10_1 < (l0.length : Int) := oa; obtain ⟨ad205, e205, hx205_0, hx205_1, hx205_2, hx205_3, hx205_4⟩ := at_T24 HR0.out x10_1 p205 q205
                        cases e205
                        replace hx205_0 := cb HB hx205_0; replace hx205_1 := cb HB hx205_1; replace hx205_2 := cb HB hx205_2; replace hx205_3 := cb HB hx205_3; replace hx205_4 := cb HB hx205_4; replace p205 := eq_true p205; replace q205 := eq_true q205
                        try go_wp2_with (first | ((with_reducible refine gate_dst (N := 4) rfl ?_); refine bx 4 (cs := #[.string (⟨#[]⟩ : ByteArray), .int .i64 0, .string (⟨#[]⟩ : ByteArray), .int .i64 0, .int .i64 0]) (t := 24) ?_; intro gb206 hg w14 hbox hb; have BK206 := Aside0.mk (hbox); have GW206 := Aside0.mk ((gs hg (bs HB))); have GE206 := Aside0.mk ((gs hg (bs HB))); replace HB := Aside0.mk (below_step (bs HB) hb); clear hb hbox hg; obtain ⟨hcz15_0, hcz15_1, hcz15_2, hcz15_3, hcz15_4, hfz15_0, hfz15_1, hfz15_2, hfz15_3, hfz15_4⟩ := cf5 BK206))
                        have n0_ : Aside0 ((((((w14.setCell ⟨gb206, 0, none⟩ (.string ((rd_T24 l0 x10_1).f0))).setCell ⟨gb206, 1, none⟩ (.int .i64 ((rd_T24 l0 x10_1).f1))).setCell ⟨gb206, 2, none⟩ (.string ((rd_T24 l0 x10_1).f2))).setCell ⟨gb206, 3, none⟩ (.int .i64 ((rd_T24 l0 x10_1).f3))).setCell ⟨gb206, 4, none⟩ (.int .i64 ((rd_T24 l0 x10_1).f4))).heap[gb206]? = some (.cells #[.string ((rd_T24 l0 x10_1).f0), .int .i64 ((rd_T24 l0 x10_1).f1), .string ((rd_T24 l0 x10_1).f2), .int .i64 ((rd_T24 l0 x10_1).f3), .int .i64 ((rd_T24 l0 x10_1).f4)] 24 (0, 0))) := ⟨kp BK206⟩; have n1_ : Aside0 (Below w.heap.size w (((((w14.setCell ⟨gb206, 0, none⟩ (.string ((rd_T24 l0 x10_1).f0))).setCell ⟨gb206, 1, none⟩ (.int .i64 ((rd_T24 l0 x10_1).f1))).setCell ⟨gb206, 2, none⟩ (.string ((rd_T24 l0 x10_1).f2))).setCell ⟨gb206, 3, none⟩ (.int .i64 ((rd_T24 l0 x10_1).f3))).setCell ⟨gb206, 4, none⟩ (.int .i64 ((rd_T24 l0 x10_1).f4)))) := ⟨bs HB⟩; (try clear BK206); (try clear HB)
                        generalize (((((w14.setCell ⟨gb206, 0, none⟩ (.string ((rd_T24 l0 x10_1).f0))).setCell ⟨gb206, 1, none⟩ (.int .i64 ((rd_T24 l0 x10_1).f1))).setCell ⟨gb206, 2, none⟩ (.string ((rd_T24 l0 x10_1).f2))).setCell ⟨gb206, 3, none⟩ (.int .i64 ((rd_T24 l0 x10_1).f3))).setCell ⟨gb206, 4, none⟩ (.int .i64 ((rd_T24 l0 x10_1).f4))) = w16 at n0_ n1_ ⊢
                        have BK206 := n0_; have HB := n1_; clear n0_ n1_; replace BK206 := Aside0.mk (blk_drew BK206.out); replace HB := Aside0.mk (below_drew1 HB.out); have p208 : 0 ≤ ((ji9) : Int) := oa; have q208 : (ji9) < (l0.length : Int) := oa; obtain ⟨ad208, e208, hx208_0, hx208_1, hx208_2, hx208_3, hx208_4⟩ := at_T24 HR0.out (ji9) p208 q208; have hw208_4 := hx208_4; have hw208_3 := hx208_3; have hw208_2 := hx208_2; have hw208_1 := hx208_1; have hw208_0 := hx208_0; obtain rfl : ad205 = ad208 := (by injection e208); replace hx208_0 := cb HB hx208_0; replace hx208_1 := cb HB hx208_1; replace hx208_2 := cb HB hx208_2; replace hx208_3 := cb HB hx208_3; replace hx208_4 := cb HB hx208_4; replace p208 := eq_true p208; replace q208 := eq_true q208; refine start_ (n := 17) (S := fun w' => w'.cell? ⟨gb206, 0, none⟩ = some (.string ((rd_T24 l0 x10_1).f0)) ∧ w'.cell? ⟨gb206, 1, none⟩ = some (.int .i64 ((rd_T24 l0 x10_1).f1)) ∧ w'.cell? ⟨gb206, 2, none⟩ = some (.string ((rd_T24 l0 x10_1).f2)) ∧ w'.cell? ⟨gb206, 3, none⟩ = some (.int .i64 ((rd_T24 l0 x10_1).f3)) ∧ w'.cell? ⟨gb206, 4, none⟩ = some (.int .i64 ((rd_T24 l0 x10_1).f4)) ∧ w'.cell? (ad205.add (((ji9)).toNat * 5)) = some (.string ((rd_T24 l0 (ji9)).f0)) ∧ w'.cell? ⟨(ad205.add (((ji9)).toNat * 5)).block, (ad205.add (((ji9)).toNat * 5)).off + 1, none⟩ = some (.int .i64 ((rd_T24 l0 (ji9)).f1)) ∧ w'.cell? ⟨(ad205.add (((ji9)).toNat * 5)).block, (ad205.add (((ji9)).toNat * 5)).off + 2, none⟩ = some (.string ((rd_T24 l0 (ji9)).f2)) ∧ w'.cell? ⟨(ad205.add (((ji9)).toNat * 5)).block, (ad205.add (((ji9)).toNat * 5)).off + 3, none⟩ = some (.int .i64 ((rd_T24 l0 (ji9)).f3)) ∧ w'.cell? ⟨(ad205.add (((ji9)).toNat * 5)).block, (ad205.add (((ji9)).toNat * 5)).off + 4, none⟩ = some (.int .i64 ((rd_T24 l0 (ji9)).f4))) (ds := []) #[false, false, false, false, false, false, false, false, false, false, false, false, false, false, false, false, false] (by kernel_rfl) rfl rfl ⟨(blk_cell BK206.out 0).trans rfl, (blk_cell BK206.out 1).trans rfl, (blk_cell BK206.out 2).trans rfl, (blk_cell BK206.out 3).trans rfl, (blk_cell BK206.out 4).trans rfl, ((cb HB hw208_0).trans rfl), ((cb HB hw208_1).trans rfl), ((cb HB hw208_2).trans rfl), ((cb HB hw208_3).trans rfl), ((cb HB hw208_4).trans rfl)⟩ (fun hHeld => ?_); refine with_tabW impl_OutboxRight.tab6 impl_OutboxRight.bits6 (fun HT_ HW_ => ?_)
                        generalize w16.drew = w17 at BK206 HB hx208_0 hx208_1 hx208_2 hx208_3 hx208_4 hHeld ⊢
                        refine tA 0 15 HT_ HW_ hHeld ?_; refine oA 1 16 HT_ (fun K hK => ?_); refine gA Try.func72 #[.agg #[.string ((rd_T24 l0 x10_1).f0), .int .i64 ((rd_T24 l0 x10_1).f1), .string ((rd_T24 l0 x10_1).f2), .int .i64 ((rd_T24 l0 x10_1).f3), .int .i64 ((rd_T24 l0 x10_1).f4)]] ?_; (with_reducible refine (impl_isOut.calls k1 ((rd_T24 l0 x10_1).f0) ((rd_T24 l0 x10_1).f1) ((rd_T24 l0 x10_1).f2) ((rd_T24 l0 x10_1).f3) ((rd_T24 l0 x10_1).f4) true _ A6.out).mono ?_); rintro e w18 ⟨rfl, hb⟩; refine ⟨_, rfl, ?_⟩; replace BK206 := Aside0.mk (blk_below (ks BK206) hb); replace HB := Aside0.mk (below_step (bs HB) hb); (try clear hb); (try clear hb2); (try clear hk); (try clear hi); refine hK.out _ _ ⟨(blk_cell BK206.out 0).trans rfl, (blk_cell BK206.out 1).trans rfl, (blk_cell BK206.out 2).trans rfl, (blk_cell BK206.out 3).trans rfl, (blk_cell BK206.out 4).trans rfl, ((cb HB hw208_0).trans rfl), ((cb HB hw208_1).trans rfl), ((cb HB hw208_2).trans rfl), ((cb HB hw208_3).trans rfl), ((cb HB hw208_4).trans rfl)⟩ (fun hHeld => ?_); clear hK K; refine nA 16 ?_; refine pA 2 17 HT_ ?_; refine pA 3 18 HT_ ?_; refine pA 4 19 HT_ ?_; refine pA 5 20 HT_ ?_; refine pA 6 21 HT_ ?_; refine pA 7 22 HT_ ?_; refine pA 8 23 HT_ ?_; refine pA 9 24 HT_ ?_; refine pA 10 25 HT_ ?_; refine tA 11 26 HT_ HW_ hHeld ?_; refine tA 12 27 HT_ HW_ hHeld ?_; refine oA 13 28 HT_ (fun K hK => ?_); refine goes_ Try.func81 (by kernel_rfl) rfl #[.agg #[.string ((rd_T24 l0 (ji9)).f0), .int .i64 ((rd_T24 l0 (ji9)).f1), .string ((rd_T24 l0 (ji9)).f2), .int .i64 ((rd_T24 l0 (ji9)).f3), .int .i64 ((rd_T24 l0 (ji9)).f4)], .agg #[.string ((rd_T24 l0 x10_1).f0), .int .i64 ((rd_T24 l0 x10_1).f1), .string ((rd_T24 l0 x10_1).f2), .int .i64 ((rd_T24 l0 x10_1).f3), .int .i64 ((rd_T24 l0 x10_1).f4)]] (by rfl) rfl rfl (by (try simp only [List.map_toArray, List.map_cons, List.map_nil]); first | done | (simp only [hji9]; rfl) | rfl | (simp only [List.length_drop, List.length_take]; rfl)) ?_; (with_reducible refine (impl_outOrder.calls k1 ((rd_T24 l0 (ji9)).f0) ((rd_T24 l0 (ji9)).f1) ((rd_T24 l0 (ji9)).f2) ((rd_T24 l0 (ji9)).f3) ((rd_T24 l0 (ji9)).f4) ((rd_T24 l0 x10_1).f0) ((rd_T24 l0 x10_1).f1) ((rd_T24 l0 x10_1).f2) ((rd_T24 l0 x10_1).f3) ((rd_T24 l0 x10_1).f4) t209 _ A12.out).mono ?_); rintro e w19 ⟨rfl, hb⟩; refine ⟨_, rfl, ?_⟩; replace BK206 := Aside0.mk (blk_below (ks BK206) hb); replace HB := Aside0.mk (below_step (bs HB) hb); (try clear hb); (try clear hb2); (try clear hk); (try clear hi); refine hK.out _ _ ⟨(blk_cell BK206.out 0).trans rfl, (blk_cell BK206.out 1).trans rfl, (blk_cell BK206.out 2).trans rfl, (blk_cell BK206.out 3).trans rfl, (blk_cell BK206.out 4).trans rfl, ((cb HB hw208_0).trans rfl), ((cb HB hw208_1).trans rfl), ((cb HB hw208_2).trans rfl), ((cb HB hw208_3).trans rfl), ((cb HB hw208_4).trans rfl)⟩ (fun hHeld => ?_); clear hK K; refine nA 28 ?_; refine pA 14 29 HT_ ?_; refine pA 15 30 HT_ ?_; refine pA 16 31 HT_ ?_; refine done_ (done_of HT_.out (by kernel_rfl)) ?_
                        try go_wp2
                        go_ret
                        exact ⟨by first | rfl | (simp [errW_none, errW_some] <;> rfl) | (simp only [← hji9]; first | rfl | (simp [errW_none, errW_some] <;> rfl)) | (simp [*, errW_none, errW_some] <;> rfl), bs HB⟩
                      · rw [if_neg c13] at H; have c13b0 : decide (0 ≤ t209) = false := decide_eq_false c13; clear c13; have H' := Aside0.mk H; clear H; have p205 : 0 ≤ (x10_1 : Int) := oa; have q205 : x10_1 < (l0.length : Int) := oa; obtain ⟨ad205, e205, hx205_0, hx205_1, hx205_2, hx205_3, hx205_4⟩ := at_T24 HR0.out x10_1 p205 q205
                        cases e205
                        replace hx205_0 := cb HB hx205_0; replace hx205_1 := cb HB hx205_1; replace hx205_2 := cb HB hx205_2; replace hx205_3 := cb HB hx205_3; replace hx205_4 := cb HB hx205_4; replace p205 := eq_true p205; replace q205 := eq_true q205
                        try go_wp2_with (first | ((with_reducible refine gate_dst (N := 4) rfl ?_); refine bx 4 (cs := #[.string (⟨#[]⟩ : ByteArray), .int .i64 0, .string (⟨#[]⟩ : ByteArray), .int .i64 0, .int .i64 0]) (t := 24) ?_; intro gb206 hg w20 hbox hb; have BK206 := Aside0.mk (hbox); have GW206 := Aside0.mk ((gs hg (bs HB))); have GE206 := Aside0.mk ((gs hg (bs HB))); replace HB := Aside0.mk (below_step (bs HB) hb); clear hb hbox hg; obtain ⟨hcz21_0, hcz21_1, hcz21_2, hcz21_3, hcz21_4, hfz21_0, hfz21_1, hfz21_2, hfz21_3, hfz21_4⟩ := cf5 BK206))
                        have n0_ : Aside0 ((((((w20.setCell ⟨gb206, 0, none⟩ (.string ((rd_T24 l0 x10_1).f0))).setCell ⟨gb206, 1, none⟩ (.int .i64 ((rd_T24 l0 x10_1).f1))).setCell ⟨gb206, 2, none⟩ (.string ((rd_T24 l0 x10_1).f2))).setCell ⟨gb206, 3, none⟩ (.int .i64 ((rd_T24 l0 x10_1).f3))).setCell ⟨gb206, 4, none⟩ (.int .i64 ((rd_T24 l0 x10_1).f4))).heap[gb206]? = some (.cells #[.string ((rd_T24 l0 x10_1).f0), .int .i64 ((rd_T24 l0 x10_1).f1), .string ((rd_T24 l0 x10_1).f2), .int .i64 ((rd_T24 l0 x10_1).f3), .int .i64 ((rd_T24 l0 x10_1).f4)] 24 (0, 0))) := ⟨kp BK206⟩; have n1_ : Aside0 (Below w.heap.size w (((((w20.setCell ⟨gb206, 0, none⟩ (.string ((rd_T24 l0 x10_1).f0))).setCell ⟨gb206, 1, none⟩ (.int .i64 ((rd_T24 l0 x10_1).f1))).setCell ⟨gb206, 2, none⟩ (.string ((rd_T24 l0 x10_1).f2))).setCell ⟨gb206, 3, none⟩ (.int .i64 ((rd_T24 l0 x10_1).f3))).setCell ⟨gb206, 4, none⟩ (.int .i64 ((rd_T24 l0 x10_1).f4)))) := ⟨bs HB⟩; (try clear BK206); (try clear HB)
                        generalize (((((w20.setCell ⟨gb206, 0, none⟩ (.string ((rd_T24 l0 x10_1).f0))).setCell ⟨gb206, 1, none⟩ (.int .i64 ((rd_T24 l0 x10_1).f1))).setCell ⟨gb206, 2, none⟩ (.string ((rd_T24 l0 x10_1).f2))).setCell ⟨gb206, 3, none⟩ (.int .i64 ((rd_T24 l0 x10_1).f3))).setCell ⟨gb206, 4, none⟩ (.int .i64 ((rd_T24 l0 x10_1).f4))) = w22 at n0_ n1_ ⊢
                        have BK206 := n0_; have HB := n1_; clear n0_ n1_; replace BK206 := Aside0.mk (blk_drew BK206.out); replace HB := Aside0.mk (below_drew1 HB.out); have p208 : 0 ≤ ((ji9) : Int) := oa; have q208 : (ji9) < (l0.length : Int) := oa; obtain ⟨ad208, e208, hx208_0, hx208_1, hx208_2, hx208_3, hx208_4⟩ := at_T24 HR0.out (ji9) p208 q208; have hw208_4 := hx208_4; have hw208_3 := hx208_3; have hw208_2 := hx208_2; have hw208_1 := hx208_1; have hw208_0 := hx208_0; obtain rfl : ad205 = ad208 := (by injection e208); replace hx208_0 := cb HB hx208_0; replace hx208_1 := cb HB hx208_1; replace hx208_2 := cb HB hx208_2; replace hx208_3 := cb HB hx208_3; replace hx208_4 := cb HB hx208_4; replace p208 := eq_true p208; replace q208 := eq_true q208; refine start_ (n := 17) (S := fun w' => w'.cell? ⟨gb206, 0, none⟩ = some (.string ((rd_T24 l0 x10_1).f0)) ∧ w'.cell? ⟨gb206, 1, none⟩ = some (.int .i64 ((rd_T24 l0 x10_1).f1)) ∧ w'.cell? ⟨gb206, 2, none⟩ = some (.string ((rd_T24 l0 x10_1).f2)) ∧ w'.cell? ⟨gb206, 3, none⟩ = some (.int .i64 ((rd_T24 l0 x10_1).f3)) ∧ w'.cell? ⟨gb206, 4, none⟩ = some (.int .i64 ((rd_T24 l0 x10_1).f4)) ∧ w'.cell? (ad205.add (((ji9)).toNat * 5)) = some (.string ((rd_T24 l0 (ji9)).f0)) ∧ w'.cell? ⟨(ad205.add (((ji9)).toNat * 5)).block, (ad205.add (((ji9)).toNat * 5)).off + 1, none⟩ = some (.int .i64 ((rd_T24 l0 (ji9)).f1)) ∧ w'.cell? ⟨(ad205.add (((ji9)).toNat * 5)).block, (ad205.add (((ji9)).toNat * 5)).off + 2, none⟩ = some (.string ((rd_T24 l0 (ji9)).f2)) ∧ w'.cell? ⟨(ad205.add (((ji9)).toNat * 5)).block, (ad205.add (((ji9)).toNat * 5)).off + 3, none⟩ = some (.int .i64 ((rd_T24 l0 (ji9)).f3)) ∧ w'.cell? ⟨(ad205.add (((ji9)).toNat * 5)).block, (ad205.add (((ji9)).toNat * 5)).off + 4, none⟩ = some (.int .i64 ((rd_T24 l0 (ji9)).f4))) (ds := []) #[false, false, false, false, false, false, false, false, false, false, false, false, false, false, false, false, false] (by kernel_rfl) rfl rfl ⟨(blk_cell BK206.out 0).trans rfl, (blk_cell BK206.out 1).trans rfl, (blk_cell BK206.out 2).trans rfl, (blk_cell BK206.out 3).trans rfl, (blk_cell BK206.out 4).trans rfl, ((cb HB hw208_0).trans rfl), ((cb HB hw208_1).trans rfl), ((cb HB hw208_2).trans rfl), ((cb HB hw208_3).trans rfl), ((cb HB hw208_4).trans rfl)⟩ (fun hHeld => ?_); refine with_tabW impl_OutboxRight.tab6 impl_OutboxRight.bits6 (fun HT_ HW_ => ?_)
                        generalize w22.drew = w23 at BK206 HB hx208_0 hx208_1 hx208_2 hx208_3 hx208_4 hHeld ⊢
                        refine tA 0 15 HT_ HW_ hHeld ?_; refine oA 1 16 HT_ (fun K hK => ?_); refine gA Try.func72 #[.agg #[.string ((rd_T24 l0 x10_1).f0), .int .i64 ((rd_T24 l0 x10_1).f1), .string ((rd_T24 l0 x10_1).f2), .int .i64 ((rd_T24 l0 x10_1).f3), .int .i64 ((rd_T24 l0 x10_1).f4)]] ?_; (with_reducible refine (impl_isOut.calls k1 ((rd_T24 l0 x10_1).f0) ((rd_T24 l0 x10_1).f1) ((rd_T24 l0 x10_1).f2) ((rd_T24 l0 x10_1).f3) ((rd_T24 l0 x10_1).f4) true _ A6.out).mono ?_); rintro e w24 ⟨rfl, hb⟩; refine ⟨_, rfl, ?_⟩; replace BK206 := Aside0.mk (blk_below (ks BK206) hb); replace HB := Aside0.mk (below_step (bs HB) hb); (try clear hb); (try clear hb2); (try clear hk); (try clear hi); refine hK.out _ _ ⟨(blk_cell BK206.out 0).trans rfl, (blk_cell BK206.out 1).trans rfl, (blk_cell BK206.out 2).trans rfl, (blk_cell BK206.out 3).trans rfl, (blk_cell BK206.out 4).trans rfl, ((cb HB hw208_0).trans rfl), ((cb HB hw208_1).trans rfl), ((cb HB hw208_2).trans rfl), ((cb HB hw208_3).trans rfl), ((cb HB hw208_4).trans rfl)⟩ (fun hHeld => ?_); clear hK K; refine nA 16 ?_; refine pA 2 17 HT_ ?_; refine pA 3 18 HT_ ?_; refine pA 4 19 HT_ ?_; refine pA 5 20 HT_ ?_; refine pA 6 21 HT_ ?_; refine pA 7 22 HT_ ?_; refine pA 8 23 HT_ ?_; refine pA 9 24 HT_ ?_; refine pA 10 25 HT_ ?_; refine tA 11 26 HT_ HW_ hHeld ?_; refine tA 12 27 HT_ HW_ hHeld ?_; refine oA 13 28 HT_ (fun K hK => ?_); refine goes_ Try.func81 (by kernel_rfl) rfl #[.agg #[.string ((rd_T24 l0 (ji9)).f0), .int .i64 ((rd_T24 l0 (ji9)).f1), .string ((rd_T24 l0 (ji9)).f2), .int .i64 ((rd_T24 l0 (ji9)).f3), .int .i64 ((rd_T24 l0 (ji9)).f4)], .agg #[.string ((rd_T24 l0 x10_1).f0), .int .i64 ((rd_T24 l0 x10_1).f1), .string ((rd_T24 l0 x10_1).f2), .int .i64 ((rd_T24 l0 x10_1).f3), .int .i64 ((rd_T24 l0 x10_1).f4)]] (by rfl) rfl rfl (by (try simp only [List.map_toArray, List.map_cons, List.map_nil]); first | done | (simp only [hji9]; rfl) | rfl | (simp only [List.length_drop, List.length_take]; rfl)) ?_; (with_reducible refine (impl_outOrder.calls k1 ((rd_T24 l0 (ji9)).f0) ((rd_T24 l0 (ji9)).f1) ((rd_T24 l0 (ji9)).f2) ((rd_T24 l0 (ji9)).f3) ((rd_T24 l0 (ji9)).f4) ((rd_T24 l0 x10_1).f0) ((rd_T24 l0 x10_1).f1) ((rd_T24 l0 x10_1).f2) ((rd_T24 l0 x10_1).f3) ((rd_T24 l0 x10_1).f4) t209 _ A12.out).mono ?_); rintro e w25 ⟨rfl, hb⟩; refine ⟨_, rfl, ?_⟩; replace BK206 := Aside0.mk (blk_below (ks BK206) hb); replace HB := Aside0.mk (below_step (bs HB) hb); (try clear hb); (try clear hb2); (try clear hk); (try clear hi); refine hK.out _ _ ⟨(blk_cell BK206.out 0).trans rfl, (blk_cell BK206.out 1).trans rfl, (blk_cell BK206.out 2).trans rfl, (blk_cell BK206.out 3).trans rfl, (blk_cell BK206.out 4).trans rfl, ((cb HB hw208_0).trans rfl), ((cb HB hw208_1).trans rfl), ((cb HB hw208_2).trans rfl), ((cb HB hw208_3).trans rfl), ((cb HB hw208_4).trans rfl)⟩ (fun hHeld => ?_); clear hK K; refine nA 28 ?_; refine pA 14 29 HT_ ?_; refine pA 15 30 HT_ ?_; refine pA 16 31 HT_ ?_; refine done_ (done_of HT_.out (by kernel_rfl)) ?_
                        try go_wp2
                        go_roundg k1
                        case measure => have := HK1.out; omega
                        case rel => exact ⟨(wrap64 (x10_1 + 1)), fg, H', ⟨by have := HK1.out; omega⟩, ⟨bs HB⟩⟩
                    · rw [if_neg c11] at H
                      exact absurd H (by simp)
                  · rw [if_neg c10] at H
                    exact absurd H (by simp)
                · rw [if_neg c8] at H; have c8b0 : decide (0 < x10_1) = false := decide_eq_false c8; clear c8; have H' := Aside0.mk H; clear H; have p205 : 0 ≤ (x10_1 : Int) := oa; have q205 : x10_1 < (l0.length : Int) := oa; obtain ⟨ad205, e205, hx205_0, hx205_1, hx205_2, hx205_3, hx205_4⟩ := at_T24 HR0.out x10_1 p205 q205
                  cases e205
                  replace hx205_0 := cb HB hx205_0; replace hx205_1 := cb HB hx205_1; replace hx205_2 := cb HB hx205_2; replace hx205_3 := cb HB hx205_3; replace hx205_4 := cb HB hx205_4; replace p205 := eq_true p205; replace q205 := eq_true q205
                  try go_wp2_with (first | ((with_reducible refine gate_dst (N := 4) rfl ?_); refine bx 4 (cs := #[.string (⟨#[]⟩ : ByteArray), .int .i64 0, .string (⟨#[]⟩ : ByteArray), .int .i64 0, .int .i64 0]) (t := 24) ?_; intro gb206 hg w26 hbox hb; have BK206 := Aside0.mk (hbox); have GW206 := Aside0.mk ((gs hg (bs HB))); have GE206 := Aside0.mk ((gs hg (bs HB))); replace HB := Aside0.mk (below_step (bs HB) hb); clear hb hbox hg; obtain ⟨hcz27_0, hcz27_1, hcz27_2, hcz27_3, hcz27_4, hfz27_0, hfz27_1, hfz27_2, hfz27_3, hfz27_4⟩ := cf5 BK206))
                  have n0_ : Aside0 ((((((w26.setCell ⟨gb206, 0, none⟩ (.string ((rd_T24 l0 x10_1).f0))).setCell ⟨gb206, 1, none⟩ (.int .i64 ((rd_T24 l0 x10_1).f1))).setCell ⟨gb206, 2, none⟩ (.string ((rd_T24 l0 x10_1).f2))).setCell ⟨gb206, 3, none⟩ (.int .i64 ((rd_T24 l0 x10_1).f3))).setCell ⟨gb206, 4, none⟩ (.int .i64 ((rd_T24 l0 x10_1).f4))).heap[gb206]? = some (.cells #[.string ((rd_T24 l0 x10_1).f0), .int .i64 ((rd_T24 l0 x10_1).f1), .string ((rd_T24 l0 x10_1).f2), .int .i64 ((rd_T24 l0 x10_1).f3), .int .i64 ((rd_T24 l0 x10_1).f4)] 24 (0, 0))) := ⟨kp BK206⟩; have n1_ : Aside0 (Below w.heap.size w (((((w26.setCell ⟨gb206, 0, none⟩ (.string ((rd_T24 l0 x10_1).f0))).setCell ⟨gb206, 1, none⟩ (.int .i64 ((rd_T24 l0 x10_1).f1))).setCell ⟨gb206, 2, none⟩ (.string ((rd_T24 l0 x10_1).f2))).setCell ⟨gb206, 3, none⟩ (.int .i64 ((rd_T24 l0 x10_1).f3))).setCell ⟨gb206, 4, none⟩ (.int .i64 ((rd_T24 l0 x10_1).f4)))) := ⟨bs HB⟩; (try clear BK206); (try clear HB)
                  generalize (((((w26.setCell ⟨gb206, 0, none⟩ (.string ((rd_T24 l0 x10_1).f0))).setCell ⟨gb206, 1, none⟩ (.int .i64 ((rd_T24 l0 x10_1).f1))).setCell ⟨gb206, 2, none⟩ (.string ((rd_T24 l0 x10_1).f2))).setCell ⟨gb206, 3, none⟩ (.int .i64 ((rd_T24 l0 x10_1).f3))).setCell ⟨gb206, 4, none⟩ (.int .i64 ((rd_T24 l0 x10_1).f4))) = w28 at n0_ n1_ ⊢
                  have BK206 := n0_; have HB := n1_; clear n0_ n1_; replace BK206 := Aside0.mk (blk_drew BK206.out); replace HB := Aside0.mk (below_drew1 HB.out); refine start_ (n := 17) (S := fun w' => w'.cell? ⟨gb206, 0, none⟩ = some (.string ((rd_T24 l0 x10_1).f0)) ∧ w'.cell? ⟨gb206, 1, none⟩ = some (.int .i64 ((rd_T24 l0 x10_1).f1)) ∧ w'.cell? ⟨gb206, 2, none⟩ = some (.string ((rd_T24 l0 x10_1).f2)) ∧ w'.cell? ⟨gb206, 3, none⟩ = some (.int .i64 ((rd_T24 l0 x10_1).f3)) ∧ w'.cell? ⟨gb206, 4, none⟩ = some (.int .i64 ((rd_T24 l0 x10_1).f4))) (ds := []) #[false, false, false, false, false, false, false, false, false, false, false, false, false, false, false, false, false] (by kernel_rfl) rfl rfl ⟨(blk_cell BK206.out 0).trans rfl, (blk_cell BK206.out 1).trans rfl, (blk_cell BK206.out 2).trans rfl, (blk_cell BK206.out 3).trans rfl, (blk_cell BK206.out 4).trans rfl⟩ (fun hHeld => ?_); refine with_tabW impl_OutboxRight.tab6 impl_OutboxRight.bits6 (fun HT_ HW_ => ?_)
                  generalize w28.drew = w29 at BK206 HB hHeld ⊢
                  refine tA 0 15 HT_ HW_ hHeld ?_; refine oA 1 16 HT_ (fun K hK => ?_); refine gA Try.func72 #[.agg #[.string ((rd_T24 l0 x10_1).f0), .int .i64 ((rd_T24 l0 x10_1).f1), .string ((rd_T24 l0 x10_1).f2), .int .i64 ((rd_T24 l0 x10_1).f3), .int .i64 ((rd_T24 l0 x10_1).f4)]] ?_; (with_reducible refine (impl_isOut.calls k1 ((rd_T24 l0 x10_1).f0) ((rd_T24 l0 x10_1).f1) ((rd_T24 l0 x10_1).f2) ((rd_T24 l0 x10_1).f3) ((rd_T24 l0 x10_1).f4) true _ A6.out).mono ?_); rintro e w30 ⟨rfl, hb⟩; refine ⟨_, rfl, ?_⟩; replace BK206 := Aside0.mk (blk_below (ks BK206) hb); replace HB := Aside0.mk (below_step (bs HB) hb); (try clear hb); (try clear hb2); (try clear hk); (try clear hi); refine hK.out _ _ ⟨(blk_cell BK206.out 0).trans rfl, (blk_cell BK206.out 1).trans rfl, (blk_cell BK206.out 2).trans rfl, (blk_cell BK206.out 3).trans rfl, (blk_cell BK206.out 4).trans rfl⟩ (fun hHeld => ?_); clear hK K; refine nA 16 ?_; refine pA 2 17 HT_ ?_; refine pA 3 18 HT_ ?_; refine pA 4 19 HT_ ?_; refine pA 5 20 HT_ ?_; refine pA 6 21 HT_ ?_; refine pB 7 22 HT_ ?_; refine pB 8 23 HT_ ?_; refine pB 9 24 HT_ ?_; refine pB 10 25 HT_ ?_; refine pB 11 26 HT_ ?_; refine pB 12 27 HT_ ?_; refine pB 13 28 HT_ ?_; refine pB 14 29 HT_ ?_; refine pA 15 30 HT_ ?_; refine pA 16 31 HT_ ?_; refine done_ (done_of HT_.out (by kernel_rfl)) ?_
                  try go_wp2
                  go_roundg k1
                  case measure => have := HK1.out; omega
                  case rel => exact ⟨(wrap64 (x10_1 + 1)), fg, H', ⟨by have := HK1.out; omega⟩, ⟨bs HB⟩⟩
              · replace c7 := Bool.eq_false_iff.mpr c7; subst c7
                have H1 : (some false) = some r := by rw [if_neg (show ¬ (false = true) by decide)] at H; exact H
                clear H; have H := H1; clear H1; obtain rfl := Option.some.inj H; have p205 : 0 ≤ (x10_1 : Int) := oa; have q205 : x10_1 < (l0.length : Int) := oa; obtain ⟨ad205, e205, hx205_0, hx205_1, hx205_2, hx205_3, hx205_4⟩ := at_T24 HR0.out x10_1 p205 q205
                cases e205
                replace hx205_0 := cb HB hx205_0; replace hx205_1 := cb HB hx205_1; replace hx205_2 := cb HB hx205_2; replace hx205_3 := cb HB hx205_3; replace hx205_4 := cb HB hx205_4; replace p205 := eq_true p205; replace q205 := eq_true q205
                try go_wp2_with (first | ((with_reducible refine gate_dst (N := 4) rfl ?_); refine bx 4 (cs := #[.string (⟨#[]⟩ : ByteArray), .int .i64 0, .string (⟨#[]⟩ : ByteArray), .int .i64 0, .int .i64 0]) (t := 24) ?_; intro gb206 hg w31 hbox hb; have BK206 := Aside0.mk (hbox); have GW206 := Aside0.mk ((gs hg (bs HB))); have GE206 := Aside0.mk ((gs hg (bs HB))); replace HB := Aside0.mk (below_step (bs HB) hb); clear hb hbox hg; obtain ⟨hcz32_0, hcz32_1, hcz32_2, hcz32_3, hcz32_4, hfz32_0, hfz32_1, hfz32_2, hfz32_3, hfz32_4⟩ := cf5 BK206))
                have n0_ : Aside0 ((((((w31.setCell ⟨gb206, 0, none⟩ (.string ((rd_T24 l0 x10_1).f0))).setCell ⟨gb206, 1, none⟩ (.int .i64 ((rd_T24 l0 x10_1).f1))).setCell ⟨gb206, 2, none⟩ (.string ((rd_T24 l0 x10_1).f2))).setCell ⟨gb206, 3, none⟩ (.int .i64 ((rd_T24 l0 x10_1).f3))).setCell ⟨gb206, 4, none⟩ (.int .i64 ((rd_T24 l0 x10_1).f4))).heap[gb206]? = some (.cells #[.string ((rd_T24 l0 x10_1).f0), .int .i64 ((rd_T24 l0 x10_1).f1), .string ((rd_T24 l0 x10_1).f2), .int .i64 ((rd_T24 l0 x10_1).f3), .int .i64 ((rd_T24 l0 x10_1).f4)] 24 (0, 0))) := ⟨kp BK206⟩; have n1_ : Aside0 (Below w.heap.size w (((((w31.setCell ⟨gb206, 0, none⟩ (.string ((rd_T24 l0 x10_1).f0))).setCell ⟨gb206, 1, none⟩ (.int .i64 ((rd_T24 l0 x10_1).f1))).setCell ⟨gb206, 2, none⟩ (.string ((rd_T24 l0 x10_1).f2))).setCell ⟨gb206, 3, none⟩ (.int .i64 ((rd_T24 l0 x10_1).f3))).setCell ⟨gb206, 4, none⟩ (.int .i64 ((rd_T24 l0 x10_1).f4)))) := ⟨bs HB⟩; (try clear BK206); (try clear HB)
                generalize (((((w31.setCell ⟨gb206, 0, none⟩ (.string ((rd_T24 l0 x10_1).f0))).setCell ⟨gb206, 1, none⟩ (.int .i64 ((rd_T24 l0 x10_1).f1))).setCell ⟨gb206, 2, none⟩ (.string ((rd_T24 l0 x10_1).f2))).setCell ⟨gb206, 3, none⟩ (.int .i64 ((rd_T24 l0 x10_1).f3))).setCell ⟨gb206, 4, none⟩ (.int .i64 ((rd_T24 l0 x10_1).f4))) = w33 at n0_ n1_ ⊢
                have BK206 := n0_; have HB := n1_; clear n0_ n1_; replace BK206 := Aside0.mk (blk_drew BK206.out); replace HB := Aside0.mk (below_drew1 HB.out); refine start_ (n := 17) (S := fun w' => w'.cell? ⟨gb206, 0, none⟩ = some (.string ((rd_T24 l0 x10_1).f0)) ∧ w'.cell? ⟨gb206, 1, none⟩ = some (.int .i64 ((rd_T24 l0 x10_1).f1)) ∧ w'.cell? ⟨gb206, 2, none⟩ = some (.string ((rd_T24 l0 x10_1).f2)) ∧ w'.cell? ⟨gb206, 3, none⟩ = some (.int .i64 ((rd_T24 l0 x10_1).f3)) ∧ w'.cell? ⟨gb206, 4, none⟩ = some (.int .i64 ((rd_T24 l0 x10_1).f4))) (ds := []) #[false, false, false, false, false, false, false, false, false, false, false, false, false, false, false, false, false] (by kernel_rfl) rfl rfl ⟨(blk_cell BK206.out 0).trans rfl, (blk_cell BK206.out 1).trans rfl, (blk_cell BK206.out 2).trans rfl, (blk_cell BK206.out 3).trans rfl, (blk_cell BK206.out 4).trans rfl⟩ (fun hHeld => ?_); refine with_tabW impl_OutboxRight.tab6 impl_OutboxRight.bits6 (fun HT_ HW_ => ?_)
                generalize w33.drew = w34 at BK206 HB hHeld ⊢
                refine tA 0 15 HT_ HW_ hHeld ?_; refine oA 1 16 HT_ (fun K hK => ?_); refine gA Try.func72 #[.agg #[.string ((rd_T24 l0 x10_1).f0), .int .i64 ((rd_T24 l0 x10_1).f1), .string ((rd_T24 l0 x10_1).f2), .int .i64 ((rd_T24 l0 x10_1).f3), .int .i64 ((rd_T24 l0 x10_1).f4)]] ?_; (with_reducible refine (impl_isOut.calls k1 ((rd_T24 l0 x10_1).f0) ((rd_T24 l0 x10_1).f1) ((rd_T24 l0 x10_1).f2) ((rd_T24 l0 x10_1).f3) ((rd_T24 l0 x10_1).f4) false _ A6.out).mono ?_); rintro e w35 ⟨rfl, hb⟩; refine ⟨_, rfl, ?_⟩; replace BK206 := Aside0.mk (blk_below (ks BK206) hb); replace HB := Aside0.mk (below_step (bs HB) hb); (try clear hb); (try clear hb2); (try clear hk); (try clear hi); refine hK.out _ _ ⟨(blk_cell BK206.out 0).trans rfl, (blk_cell BK206.out 1).trans rfl, (blk_cell BK206.out 2).trans rfl, (blk_cell BK206.out 3).trans rfl, (blk_cell BK206.out 4).trans rfl⟩ (fun hHeld => ?_); clear hK K; refine nA 16 ?_; refine pA 2 17 HT_ ?_; refine pA 3 18 HT_ ?_; refine pB 4 19 HT_ ?_; refine pB 5 20 HT_ ?_; refine pB 6 21 HT_ ?_; refine pB 7 22 HT_ ?_; refine pB 8 23 HT_ ?_; refine pB 9 24 HT_ ?_; refine pB 10 25 HT_ ?_; refine pB 11 26 HT_ ?_; refine pB 12 27 HT_ ?_; refine pB 13 28 HT_ ?_; refine pB 14 29 HT_ ?_; refine pB 15 30 HT_ ?_; refine pA 16 31 HT_ ?_; refine done_ (done_of HT_.out (by kernel_rfl)) ?_
                try go_wp2
                go_ret
                exact ⟨ff, bs HB⟩
            · rw [if_neg c5] at H
              exact absurd H (by simp)
          · rw [if_neg c4] at H
            exact absurd H (by simp)
        · rw [if_neg c3] at H; have c3b0 : decide (x10_1 < (l0.length : Int)) = false := decide_eq_false c3; clear c3; obtain rfl := Option.some.inj H
          go_wp2
          go_ret
          exact ⟨ff, bs HB⟩
end Go.Proofs.Ytefmkmhjbfpelaa.QO
namespace Go.Proofs.Ytefmkmhjbfpelaa.QO
open Go.RowKit Go.Proofs.YtefmkmhjbfpelaaW.PrintWords Go.Proofs.YtefmkmhjbfpelaaW.PrintLast Go.Proofs.YtefmkmhjbfpelaaW.PrintMore
attribute [local go_sem] max2_int min2_int max_two min_two max_three min_three max_four min_four   -- for this text's walks alone
set_option linter.unusedVariables false
set_option linter.unusedSimpArgs false
set_option maxHeartbeats 8000000 in
set_option maxRecDepth 100000 in
theorem impl_outboxCode.calls (k : Nat) (A0 : Option Addr) (c0 : Nat) (l0 : List (S24)) (r : Int) (w : World) (hr0 : Kd.C k24 w A0 l0.length l0) (hc0 : l0.length ≤ c0) (h : impl_outboxCode.f k l0 = some r) :
    Calls Try.prog 80 #[.slice A0 l0.length c0] w fun e w' => e = .returned (.int .i64 r) ∧ Below w.heap.size w w' := by
  have HR0 := Aside0.mk hr0; have HC0 := Aside0.mk hc0; clear hr0 hc0; have HB := Aside0.mk (Below.refl w.heap.size w); have H : ((impl_Out_129.f l0).bind fun t210 => (if t210 = true then (some 2) else ((impl_OutboxRight.f k l0).bind fun t211 => (if t211 = true then (some 0) else (some 1))))) = some r := h; clear h; replace H := Option.bind_eq_some_iff.mp H; obtain ⟨t210, A20, H⟩ := H; replace H : (if t210 = true then (some 2) else ((impl_OutboxRight.f k l0).bind fun t211 => (if t211 = true then (some 0) else (some 1)))) = some r := H; have A2 := Aside0.mk A20; clear A20
  go_enter Try.func80, Try.ntmps80
  try go_wp2_with (fail)
  go_at_call 129; (with_reducible refine (impl_Out_129.calls _ _ l0 t210 _ ?side1 HC0.out A2.out).mono ?_); (case side1 => repeat (first | exact HR0.out | (with_reducible refine Kd.C_alloc ?_ _) | (with_reducible refine Kd.C_drewN ?_ _) | (with_reducible refine Kd.C_drew ?_))); rintro e w' ⟨rfl, ⟨nd, rfl⟩⟩
  by_cases c3 : t210 = true
  · subst c3
    have H1 : (some 2) = some r := by rw [if_pos rfl] at H; exact H
    clear H; have H := H1; clear H1; obtain rfl := Option.some.inj H
    go_wp2
    go_ret
    exact ⟨ff, bs HB⟩
  · replace c3 := Bool.eq_false_iff.mpr c3; subst c3
    have H1 : ((impl_OutboxRight.f k l0).bind fun t211 => (if t211 = true then (some 0) else (some 1))) = some r := by rw [if_neg (show ¬ (false = true) by decide)] at H; exact H
    clear H; have H := H1; clear H1; replace H := Option.bind_eq_some_iff.mp H; obtain ⟨t211, A40, H⟩ := H; replace H : (if t211 = true then (some 0) else (some 1)) = some r := H; have A4 := Aside0.mk A40; clear A40
    try go_wp2_with (fail)
    go_at_call 21; (with_reducible refine (impl_OutboxRight.calls k _ _ l0 t211 _ (Kd.C_below HR0.out (bs HB)) HC0.out A4.out).mono ?_); rintro e w5 ⟨rfl, hb⟩; replace HB := Aside0.mk (below_step (bs HB) hb); (try clear hb); (try clear hb2); (try clear hk); (try clear hi)
    by_cases c6 : t211 = true
    · subst c6
      have H1 : (some 0) = some r := by rw [if_pos rfl] at H; exact H
      clear H; have H := H1; clear H1; obtain rfl := Option.some.inj H
      go_wp2
      go_ret
      exact ⟨ff, bs HB⟩
    · replace c6 := Bool.eq_false_iff.mpr c6; subst c6
      have H1 : (some 1) = some r := by rw [if_neg (show ¬ (false = true) by decide)] at H; exact H
      clear H; have H := H1; clear H1; obtain rfl := Option.some.inj H
      go_wp2
      go_ret
      exact ⟨ff, bs HB⟩
end Go.Proofs.Ytefmkmhjbfpelaa.QO
