-- Merged by a program of this session (wip/tool/pack.py) out of its own texts for this claim.
import Derived.Test.YtefmkmhjbfpelaaKFnOutbox0
import Derived.Test.YtefmkmhjbfpelaaKFnOutbox1
import Derived.Test.YtefmkmhjbfpelaaKFnOutbox2
namespace Go.Proofs.Ytefmkmhjbfpelaa.QR
open Go.RowKit Go.Proofs.YtefmkmhjbfpelaaW.PrintWords Go.Proofs.YtefmkmhjbfpelaaW.PrintLast Go.Proofs.YtefmkmhjbfpelaaW.PrintMore
attribute [local go_sem] max2_int min2_int max_two min_two max_three min_three max_four min_four   -- for this text's walks alone
set_option linter.unusedVariables false
set_option linter.unusedSimpArgs false
set_option maxHeartbeats 8000000 in
set_option maxRecDepth 100000 in
theorem spec_l01Name.calls (k : Nat) (a0 : ByteArray) (r : Bool) (w : World) (h : spec_l01Name.f k a0 = some r) :
    Calls Try.prog 118 #[.string a0] w fun e w' => e = .returned (.bool r) ∧ Drawn0 w w' := by
  have H : (if (a0.size : Int) < 1 then (spec_l01Name.j0 k a0 true) else (if (a0.size : Int) > 12 then (spec_l01Name.j0 k a0 true) else (if 0 < (a0.size : Int) then (if (bt a0 0) < 65 then (spec_l01Name.j0 k a0 true) else (spec_l01Name.j0 k a0 (decide ((bt a0 0) > 90)))) else (none)))) = some r := h; clear h; have HC2 := Aside0.mk H; clear H
  go_enter Try.func118, Try.ntmps118
  go_upto_region 1 with (fail)
  go_cut [22] (fun v22 wc => ∃ (kq : Nat) (x22_1 : Bool), v22 = .bool x22_1 ∧ Aside0 (spec_l01Name.j0 kq a0 x22_1 = some r) ∧ Aside0 (kq ≤ k) ∧ Drawn0 w wc)
  case first =>
    have H := HC2.out; clear HC2
    by_cases c3 : (a0.size : Int) < 1
    · rw [if_pos c3] at H; have c3b0 : decide ((a0.size : Int) < 1) = true := decide_eq_true c3; have c3b1 : decide (a0.size < 1) = true := decide_eq_true (by omega); clear c3
      (first | rw [c3b0] | (simp only [i64_w, i32_w]; rw [c3b0]) | skip)
      have H' := Aside0.mk H; clear H
      go_wp2
      go_meet
      case rel => exact ⟨_, (true), fg, H', ⟨fl⟩, by repeat (first | exact Drawn0.refl _ | apply Drawn0.step)⟩
    · rw [if_neg c3] at H; have c3b0 : decide ((a0.size : Int) < 1) = false := decide_eq_false c3; have c3b1 : decide (a0.size < 1) = false := decide_eq_false (by omega); clear c3
      (first | rw [c3b0] | (simp only [i64_w, i32_w]; rw [c3b0]) | skip)
      by_cases c4 : (a0.size : Int) > 12
      · rw [if_pos c4] at H; have c4b0 : decide (12 < (a0.size : Int)) = true := decide_eq_true c4; have c4b1 : decide (12 < a0.size) = true := decide_eq_true (by omega); clear c4; have H' := Aside0.mk H; clear H
        go_wp2
        go_meet
        case rel => exact ⟨_, (true), fg, H', ⟨fl⟩, by repeat (first | exact Drawn0.refl _ | apply Drawn0.step)⟩
      · rw [if_neg c4] at H; have c4b0 : decide (12 < (a0.size : Int)) = false := decide_eq_false c4; have c4b1 : decide (12 < a0.size) = false := decide_eq_false (by omega); clear c4
        by_cases c5 : 0 < (a0.size : Int)
        · rw [if_pos c5] at H; have c5b0 : decide (0 < (a0.size : Int)) = true := decide_eq_true c5; have c5b1 : decide (0 < a0.size) = true := decide_eq_true (by omega); clear c5
          by_cases c7 : (bt a0 0) < 65
          · rw [if_pos c7] at H; have c7b0 : decide ((bt a0 0) < 65) = true := decide_eq_true c7; clear c7; have H' := Aside0.mk H; clear H; have p6 : 0 ≤ (0 : Int) := (by omega); have q6 : 0 < a0.size := (by have : (0 : Int) < (a0.size : Int) := oa; omega); have hx6 : ∀ h : 0 < a0.size, ((a0[0]'h).toNat : Int) = bt a0 0 := bt_at a0 0; clear p6; have qi6 : (0 < (a0.size : Int)) = True := eq_true (oa); replace q6 := eq_true q6
            go_wp2
            go_meet
            case rel => exact ⟨_, (true), fg, H', ⟨fl⟩, by repeat (first | exact Drawn0.refl _ | apply Drawn0.step)⟩
          · rw [if_neg c7] at H; have c7b0 : decide ((bt a0 0) < 65) = false := decide_eq_false c7; clear c7; have H' := Aside0.mk H; clear H; have p6 : 0 ≤ (0 : Int) := (by omega); have q6 : 0 < a0.size := (by have : (0 : Int) < (a0.size : Int) := oa; omega); have hx6 : ∀ h : 0 < a0.size, ((a0[0]'h).toNat : Int) = bt a0 0 := bt_at a0 0; clear p6; have qi6 : (0 < (a0.size : Int)) = True := eq_true (oa); replace q6 := eq_true q6; have p8 : 0 ≤ (0 : Int) := (by omega); have q8 : 0 < a0.size := (by have : (0 : Int) < (a0.size : Int) := oa; omega); have hx8 : ∀ h : 0 < a0.size, ((a0[0]'h).toNat : Int) = bt a0 0 := bt_at a0 0; clear p8; have qi8 : (0 < (a0.size : Int)) = True := eq_true (oa); replace q8 := eq_true q8
            go_wp2
            go_meet
            case rel => exact ⟨_, (decide ((bt a0 0) > 90)), fg, H', ⟨fl⟩, by repeat (first | exact Drawn0.refl _ | apply Drawn0.step)⟩
        · rw [if_neg c5] at H
          exact absurd H (by simp)
  case rest =>
    clear HC2
    try clear c1
    try clear p2
    try clear c3
    try clear c3b0
    try clear c3b1
    try clear c4
    try clear c4b0
    try clear c4b1
    try clear c5
    try clear c5b0
    try clear c5b1
    try clear p6
    try clear q6
    try clear hx6
    try clear qi6
    try clear c7
    try clear c7b0
    try clear p8
    try clear q8
    try clear hx8
    try clear qi8
    try clear p6
    try clear p8
    try clear q6
    try clear q8
    obtain ⟨kq, x22_1, rfl, HA, HJ1, ⟨mc1, rfl⟩⟩ := hcut
    cases kq with
    | zero => exact absurd HA.out (by simp [spec_l01Name.j0])
    | succ kj1 =>
      have H := HA.out; clear HA; simp only [spec_l01Name.j0] at H
      by_cases c9 : x22_1 = true
      · subst c9
        have H1 : (some false) = some r := by rw [if_pos rfl] at H; exact H
        clear H; have H := H1; clear H1; obtain rfl := Option.some.inj H
        go_wp2
        go_ret
        exact ⟨fg, by repeat (first | exact Drawn0.refl _ | apply Drawn0.step)⟩
      · replace c9 := Bool.eq_false_iff.mpr c9; subst c9
        have H1 : (spec_l01Name.l0 kj1 a0 0) = some r := by rw [if_neg (show ¬ (false = true) by decide)] at H; exact H
        clear H; have H := H1; clear H1; have H' := Aside0.mk H; clear H
        go_wp2
        go_loopg [3] kj1 (fun kq v3 w' => ∃ (x3_2 : Int), v3 = .int .i64 x3_2 ∧ Aside0 (spec_l01Name.l0 kq a0 x3_2 = some r) ∧ Aside0 (kq ≤ kj1) ∧ Drawn0 w w')
        case atStart => exact ⟨(0), fg, H', ⟨Nat.le_refl _⟩, by repeat (first | exact Drawn0.refl _ | apply Drawn0.step)⟩
        case round =>
          clear H'
          try clear c1
          try clear p2
          try clear c3
          try clear c3b0
          try clear c3b1
          try clear c4
          try clear c4b0
          try clear c4b1
          try clear c5
          try clear c5b0
          try clear c5b1
          try clear p6
          try clear q6
          try clear hx6
          try clear qi6
          try clear c7
          try clear c7b0
          try clear p8
          try clear q8
          try clear hx8
          try clear qi8
          try clear c9
          try clear p2
          try clear p6
          try clear p8
          try clear q6
          try clear q8
          obtain ⟨x3_2, rfl, HA, HK2, ⟨m2, rfl⟩⟩ := hrel
          cases gk with
          | zero => exact absurd HA.out (by simp [spec_l01Name.l0])
          | succ k2 =>
            have H := HA.out; clear HA; simp only [spec_l01Name.l0] at H
            by_cases c10 : x3_2 < (a0.size : Int)
            · rw [if_pos c10] at H; have c10b0 : decide (x3_2 < (a0.size : Int)) = true := decide_eq_true c10; clear c10
              by_cases c11 : 0 ≤ x3_2
              · rw [if_pos c11] at H; have c11b0 : decide (0 ≤ x3_2) = true := decide_eq_true c11; clear c11
                by_cases c13 : (bt a0 x3_2) ≥ 65
                · rw [if_pos c13] at H; have c13b0 : decide (65 ≤ (bt a0 x3_2)) = true := decide_eq_true c13; clear c13
                  by_cases c14 : (bt a0 x3_2) ≤ 90
                  · rw [if_pos c14] at H; have c14b0 : decide ((bt a0 x3_2) ≤ 90) = true := decide_eq_true c14; clear c14; have H' := Aside0.mk H; clear H; have p12 : 0 ≤ (x3_2 : Int) := oa; have q12 : x3_2 < (a0.size : Int) := oa; have hx12 := bt_at a0 x3_2; replace p12 := eq_true p12; replace q12 := eq_true q12
                    go_wp2
                    go_roundg k2
                    case measure => have := HJ1.out; have := HK2.out; omega
                    case rel => exact ⟨(wrap64 (x3_2 + 1)), fg, H', ⟨by have := HJ1.out; have := HK2.out; omega⟩, by repeat (first | exact Drawn0.refl _ | apply Drawn0.step)⟩
                  · rw [if_neg c14] at H; have c14b0 : decide ((bt a0 x3_2) ≤ 90) = false := decide_eq_false c14; clear c14
                    by_cases c15 : (bt a0 x3_2) ≥ 48
                    · rw [if_pos c15] at H; have c15b0 : decide (48 ≤ (bt a0 x3_2)) = true := decide_eq_true c15; clear c15
                      by_cases c16 : (bt a0 x3_2) ≤ 57
                      · rw [if_pos c16] at H; have c16b0 : decide ((bt a0 x3_2) ≤ 57) = true := decide_eq_true c16; clear c16; have H' := Aside0.mk H; clear H; have p12 : 0 ≤ (x3_2 : Int) := oa; have q12 : x3_2 < (a0.size : Int) := oa; have hx12 := bt_at a0 x3_2; replace p12 := eq_true p12; replace q12 := eq_true q12
                        go_wp2
                        go_roundg k2
                        case measure => have := HJ1.out; have := HK2.out; omega
                        case rel => exact ⟨(wrap64 (x3_2 + 1)), fg, H', ⟨by have := HJ1.out; have := HK2.out; omega⟩, by repeat (first | exact Drawn0.refl _ | apply Drawn0.step)⟩
                      · rw [if_neg c16] at H; have c16b0 : decide ((bt a0 x3_2) ≤ 57) = false := decide_eq_false c16; clear c16
                        by_cases c17 : ((bt a0 x3_2) = 45)
                        · rw [if_pos c17] at H; have c17b0 : ((bt a0 x3_2) == 45) = true := beq_iff_eq.mpr c17; have c17b1 : ((bt a0 x3_2) != 45) = false := bne_eq_false_iff_eq.mpr c17; clear c17; have H' := Aside0.mk H; clear H; have p12 : 0 ≤ (x3_2 : Int) := oa; have q12 : x3_2 < (a0.size : Int) := oa; have hx12 := bt_at a0 x3_2; replace p12 := eq_true p12; replace q12 := eq_true q12
                          go_wp2
                          go_roundg k2
                          case measure => have := HJ1.out; have := HK2.out; omega
                          case rel => exact ⟨(wrap64 (x3_2 + 1)), fg, H', ⟨by have := HJ1.out; have := HK2.out; omega⟩, by repeat (first | exact Drawn0.refl _ | apply Drawn0.step)⟩
                        · rw [if_neg c17] at H; have c17b0 : ((bt a0 x3_2) == 45) = false := beq_eq_false_iff_ne.mpr c17; have c17b1 : ((bt a0 x3_2) != 45) = true := bne_iff_ne.mpr c17; obtain rfl := Option.some.inj H; have p12 : 0 ≤ (x3_2 : Int) := oa; have q12 : x3_2 < (a0.size : Int) := oa; have hx12 := bt_at a0 x3_2; replace p12 := eq_true p12; replace q12 := eq_true q12
                          go_wp2
                          go_ret
                          exact ⟨fg, by repeat (first | exact Drawn0.refl _ | apply Drawn0.step)⟩
                    · rw [if_neg c15] at H; have c15b0 : decide (48 ≤ (bt a0 x3_2)) = false := decide_eq_false c15; clear c15
                      by_cases c18 : ((bt a0 x3_2) = 45)
                      · rw [if_pos c18] at H; have c18b0 : ((bt a0 x3_2) == 45) = true := beq_iff_eq.mpr c18; have c18b1 : ((bt a0 x3_2) != 45) = false := bne_eq_false_iff_eq.mpr c18; clear c18; have H' := Aside0.mk H; clear H; have p12 : 0 ≤ (x3_2 : Int) := oa; have q12 : x3_2 < (a0.size : Int) := oa; have hx12 := bt_at a0 x3_2; replace p12 := eq_true p12; replace q12 := eq_true q12
                        go_wp2
                        go_roundg k2
                        case measure => have := HJ1.out; have := HK2.out; omega
                        case rel => exact ⟨(wrap64 (x3_2 + 1)), fg, H', ⟨by have := HJ1.out; have := HK2.out; omega⟩, by repeat (first | exact Drawn0.refl _ | apply Drawn0.step)⟩
                      · rw [if_neg c18] at H; have c18b0 : ((bt a0 x3_2) == 45) = false := beq_eq_false_iff_ne.mpr c18; have c18b1 : ((bt a0 x3_2) != 45) = true := bne_iff_ne.mpr c18; obtain rfl := Option.some.inj H; have p12 : 0 ≤ (x3_2 : Int) := oa; have q12 : x3_2 < (a0.size : Int) := oa; have hx12 := bt_at a0 x3_2; replace p12 := eq_true p12; replace q12 := eq_true q12
                        go_wp2
                        go_ret
                        exact ⟨fg, by repeat (first | exact Drawn0.refl _ | apply Drawn0.step)⟩
                · rw [if_neg c13] at H; have c13b0 : decide (65 ≤ (bt a0 x3_2)) = false := decide_eq_false c13; clear c13
                  by_cases c19 : (bt a0 x3_2) ≥ 48
                  · rw [if_pos c19] at H; have c19b0 : decide (48 ≤ (bt a0 x3_2)) = true := decide_eq_true c19; clear c19
                    by_cases c20 : (bt a0 x3_2) ≤ 57
                    · rw [if_pos c20] at H; have c20b0 : decide ((bt a0 x3_2) ≤ 57) = true := decide_eq_true c20; clear c20; have H' := Aside0.mk H; clear H; have p12 : 0 ≤ (x3_2 : Int) := oa; have q12 : x3_2 < (a0.size : Int) := oa; have hx12 := bt_at a0 x3_2; replace p12 := eq_true p12; replace q12 := eq_true q12
                      go_wp2
                      go_roundg k2
                      case measure => have := HJ1.out; have := HK2.out; omega
                      case rel => exact ⟨(wrap64 (x3_2 + 1)), fg, H', ⟨by have := HJ1.out; have := HK2.out; omega⟩, by repeat (first | exact Drawn0.refl _ | apply Drawn0.step)⟩
                    · rw [if_neg c20] at H; have c20b0 : decide ((bt a0 x3_2) ≤ 57) = false := decide_eq_false c20; clear c20
                      by_cases c21 : ((bt a0 x3_2) = 45)
                      · rw [if_pos c21] at H; have c21b0 : ((bt a0 x3_2) == 45) = true := beq_iff_eq.mpr c21; have c21b1 : ((bt a0 x3_2) != 45) = false := bne_eq_false_iff_eq.mpr c21; clear c21; have H' := Aside0.mk H; clear H; have p12 : 0 ≤ (x3_2 : Int) := oa; have q12 : x3_2 < (a0.size : Int) := oa; have hx12 := bt_at a0 x3_2; replace p12 := eq_true p12; replace q12 := eq_true q12
                        go_wp2
                        go_roundg k2
                        case measure => have := HJ1.out; have := HK2.out; omega
                        case rel => exact ⟨(wrap64 (x3_2 + 1)), fg, H', ⟨by have := HJ1.out; have := HK2.out; omega⟩, by repeat (first | exact Drawn0.refl _ | apply Drawn0.step)⟩
                      · rw [if_neg c21] at H; have c21b0 : ((bt a0 x3_2) == 45) = false := beq_eq_false_iff_ne.mpr c21; have c21b1 : ((bt a0 x3_2) != 45) = true := bne_iff_ne.mpr c21; obtain rfl := Option.some.inj H; have p12 : 0 ≤ (x3_2 : Int) := oa; have q12 : x3_2 < (a0.size : Int) := oa; have hx12 := bt_at a0 x3_2; replace p12 := eq_true p12; replace q12 := eq_true q12
                        go_wp2
                        go_ret
                        exact ⟨fg, by repeat (first | exact Drawn0.refl _ | apply Drawn0.step)⟩
                  · rw [if_neg c19] at H; have c19b0 : decide (48 ≤ (bt a0 x3_2)) = false := decide_eq_false c19; clear c19
                    by_cases c22 : ((bt a0 x3_2) = 45)
                    · rw [if_pos c22] at H; have c22b0 : ((bt a0 x3_2) == 45) = true := beq_iff_eq.mpr c22; have c22b1 : ((bt a0 x3_2) != 45) = false := bne_eq_false_iff_eq.mpr c22; clear c22; have H' := Aside0.mk H; clear H; have p12 : 0 ≤ (x3_2 : Int) := oa; have q12 : x3_2 < (a0.size : Int) := oa; have hx12 := bt_at a0 x3_2; replace p12 := eq_true p12; replace q12 := eq_true q12
                      go_wp2
                      go_roundg k2
                      case measure => have := HJ1.out; have := HK2.out; omega
                      case rel => exact ⟨(wrap64 (x3_2 + 1)), fg, H', ⟨by have := HJ1.out; have := HK2.out; omega⟩, by repeat (first | exact Drawn0.refl _ | apply Drawn0.step)⟩
                    · rw [if_neg c22] at H; have c22b0 : ((bt a0 x3_2) == 45) = false := beq_eq_false_iff_ne.mpr c22; have c22b1 : ((bt a0 x3_2) != 45) = true := bne_iff_ne.mpr c22; obtain rfl := Option.some.inj H; have p12 : 0 ≤ (x3_2 : Int) := oa; have q12 : x3_2 < (a0.size : Int) := oa; have hx12 := bt_at a0 x3_2; replace p12 := eq_true p12; replace q12 := eq_true q12
                      go_wp2
                      go_ret
                      exact ⟨fg, by repeat (first | exact Drawn0.refl _ | apply Drawn0.step)⟩
              · rw [if_neg c11] at H
                exact absurd H (by simp)
            · rw [if_neg c10] at H; have c10b0 : decide (x3_2 < (a0.size : Int)) = false := decide_eq_false c10; clear c10; obtain rfl := Option.some.inj H
              go_wp2
              go_ret
              exact ⟨fg, by repeat (first | exact Drawn0.refl _ | apply Drawn0.step)⟩
end Go.Proofs.Ytefmkmhjbfpelaa.QR
namespace Go.Proofs.Ytefmkmhjbfpelaa.QR
open Go.RowKit Go.Proofs.YtefmkmhjbfpelaaW.PrintWords Go.Proofs.YtefmkmhjbfpelaaW.PrintLast Go.Proofs.YtefmkmhjbfpelaaW.PrintMore
attribute [local go_sem] max2_int min2_int max_two min_two max_three min_three max_four min_four   -- for this text's walks alone
set_option linter.unusedVariables false
set_option linter.unusedSimpArgs false
set_option maxHeartbeats 8000000 in
set_option maxRecDepth 100000 in
theorem spec_l01Control.calls (a0 : Int) (r : Bool) (w : World) (h : spec_l01Control.f a0 = some r) :
    Calls Try.prog 128 #[.int .i64 a0] w fun e w' => e = .returned (.bool r) ∧ Drawn0 w w' := by
  have H : (if a0 ≥ 1 then (some (decide (a0 ≤ 999999))) else (some false)) = some r := h; clear h
  by_cases c2 : a0 ≥ 1
  · rw [if_pos c2] at H; have c2b0 : decide (1 ≤ a0) = true := decide_eq_true c2; clear c2; obtain rfl := Option.some.inj H
    go_enter Try.func128, Try.ntmps128
    go_wp2
    go_ret
    exact ⟨fg, by repeat (first | exact Drawn0.refl _ | apply Drawn0.step)⟩
  · rw [if_neg c2] at H; have c2b0 : decide (1 ≤ a0) = false := decide_eq_false c2; clear c2; obtain rfl := Option.some.inj H
    go_enter Try.func128, Try.ntmps128
    go_wp2
    go_ret
    exact ⟨fg, by repeat (first | exact Drawn0.refl _ | apply Drawn0.step)⟩
set_option maxHeartbeats 8000000 in
set_option maxRecDepth 100000 in
theorem spec_l01Day.calls (a0 : Int) (r : Bool) (w : World) (h : spec_l01Day.f a0 = some r) :
    Calls Try.prog 75 #[.int .i64 a0] w fun e w' => e = .returned (.bool r) ∧ Drawn0 w w' := by
  have H : (if a0 ≥ 0 then (some (decide (a0 ≤ 100000))) else (some false)) = some r := h; clear h
  by_cases c2 : a0 ≥ 0
  · rw [if_pos c2] at H; have c2b0 : decide (0 ≤ a0) = true := decide_eq_true c2; clear c2; obtain rfl := Option.some.inj H
    go_enter Try.func75, Try.ntmps75
    go_wp2
    go_ret
    exact ⟨fg, by repeat (first | exact Drawn0.refl _ | apply Drawn0.step)⟩
  · rw [if_neg c2] at H; have c2b0 : decide (0 ≤ a0) = false := decide_eq_false c2; clear c2; obtain rfl := Option.some.inj H
    go_enter Try.func75, Try.ntmps75
    go_wp2
    go_ret
    exact ⟨fg, by repeat (first | exact Drawn0.refl _ | apply Drawn0.step)⟩
set_option maxHeartbeats 8000000 in
set_option maxRecDepth 100000 in
theorem spec_l12Out.calls (k : Nat) (a0_0 : ByteArray) (a0_1 : Int) (a0_2 : ByteArray) (a0_3 : Int) (a0_4 : Int) (r : Bool) (w : World) (h : spec_l12Out.f k a0_0 a0_1 a0_2 a0_3 a0_4 = some r) :
    Calls Try.prog 74 #[.agg #[.string a0_0, .int .i64 a0_1, .string a0_2, .int .i64 a0_3, .int .i64 a0_4]] w fun e w' => e = .returned (.bool r) ∧ Below w.heap.size w w' := by
  have hu24 := Try.underlying24; have HB := Aside0.mk (Below.refl w.heap.size w); have H : ((spec_l01Name.f k a0_0).bind fun t154 => (if t154 = true then ((spec_l01Control.f a0_1).bind fun t155 => (if t155 = true then (if (a0_2.size : Int) ≥ 1 then (if (a0_2.size : Int) ≤ 20000 then (if a0_3 ≥ 0 then (if a0_3 ≤ 5 then ((spec_l01Day.f a0_4).bind fun t156 => (some t156)) else (some false)) else (some false)) else (some false)) else (some false)) else (some false))) else (some false))) = some r := h; clear h; replace H := Option.bind_eq_some_iff.mp H; obtain ⟨t154, A20, H⟩ := H; replace H : (if t154 = true then ((spec_l01Control.f a0_1).bind fun t155 => (if t155 = true then (if (a0_2.size : Int) ≥ 1 then (if (a0_2.size : Int) ≤ 20000 then (if a0_3 ≥ 0 then (if a0_3 ≤ 5 then ((spec_l01Day.f a0_4).bind fun t156 => (some t156)) else (some false)) else (some false)) else (some false)) else (some false)) else (some false))) else (some false)) = some r := H; have A2 := Aside0.mk A20; clear A20
  go_enter Try.func74, Try.ntmps74
  try go_wp2_with (first | ((with_reducible refine gate_dst (N := 1) rfl ?_); (try (refine gate_guard (by rfl) ?_; dsimp only)); refine bx 1 (cs := #[.string a0_0, .int .i64 a0_1, .string a0_2, .int .i64 a0_3, .int .i64 a0_4]) (t := 24) ?_; intro gb153 hg w3 hbox hb; have BK153 := Aside0.mk (hbox); have GW153 := Aside0.mk ((gs hg (bs HB))); have GE153 := Aside0.mk ((gs hg (bs HB))); replace HB := Aside0.mk (below_step (bs HB) hb); clear hb hbox hg; obtain ⟨hcz4_0, hcz4_1, hcz4_2, hcz4_3, hcz4_4, hfz4_0, hfz4_1, hfz4_2, hfz4_3, hfz4_4⟩ := cf5 BK153))
  go_at_call 118; (with_reducible refine (spec_l01Name.calls k a0_0 t154 _ A2.out).mono ?_); rintro e w' ⟨rfl, ⟨nd, rfl⟩⟩
  by_cases c5 : t154 = true
  · subst c5
    have H1 : ((spec_l01Control.f a0_1).bind fun t155 => (if t155 = true then (if (a0_2.size : Int) ≥ 1 then (if (a0_2.size : Int) ≤ 20000 then (if a0_3 ≥ 0 then (if a0_3 ≤ 5 then ((spec_l01Day.f a0_4).bind fun t156 => (some t156)) else (some false)) else (some false)) else (some false)) else (some false)) else (some false))) = some r := by rw [if_pos rfl] at H; exact H
    clear H; have H := H1; clear H1; replace H := Option.bind_eq_some_iff.mp H; obtain ⟨t155, A60, H⟩ := H; replace H : (if t155 = true then (if (a0_2.size : Int) ≥ 1 then (if (a0_2.size : Int) ≤ 20000 then (if a0_3 ≥ 0 then (if a0_3 ≤ 5 then ((spec_l01Day.f a0_4).bind fun t156 => (some t156)) else (some false)) else (some false)) else (some false)) else (some false)) else (some false)) = some r := H; have A6 := Aside0.mk A60; clear A60; obtain ⟨hcz7_0, hcz7_1, hcz7_2, hcz7_3, hcz7_4, hfz7_0, hfz7_1, hfz7_2, hfz7_3, hfz7_4⟩ := cf5 BK153
    try go_wp2_with (fail)
    go_at_call 128; (with_reducible refine (spec_l01Control.calls a0_1 t155 _ A6.out).mono ?_); rintro e w' ⟨rfl, ⟨nd, rfl⟩⟩
    by_cases c8 : t155 = true
    · subst c8
      have H1 : (if (a0_2.size : Int) ≥ 1 then (if (a0_2.size : Int) ≤ 20000 then (if a0_3 ≥ 0 then (if a0_3 ≤ 5 then ((spec_l01Day.f a0_4).bind fun t156 => (some t156)) else (some false)) else (some false)) else (some false)) else (some false)) = some r := by rw [if_pos rfl] at H; exact H
      clear H; have H := H1; clear H1
      by_cases c9 : (a0_2.size : Int) ≥ 1
      · rw [if_pos c9] at H; have c9b0 : decide (1 ≤ (a0_2.size : Int)) = true := decide_eq_true c9; have c9b1 : decide (1 ≤ a0_2.size) = true := decide_eq_true (by omega); clear c9
        by_cases c10 : (a0_2.size : Int) ≤ 20000
        · rw [if_pos c10] at H; have c10b0 : decide ((a0_2.size : Int) ≤ 20000) = true := decide_eq_true c10; have c10b1 : decide (a0_2.size ≤ 20000) = true := decide_eq_true (by omega); clear c10
          by_cases c11 : a0_3 ≥ 0
          · rw [if_pos c11] at H; have c11b0 : decide (0 ≤ a0_3) = true := decide_eq_true c11; clear c11
            by_cases c12 : a0_3 ≤ 5
            · rw [if_pos c12] at H; have c12b0 : decide (a0_3 ≤ 5) = true := decide_eq_true c12; clear c12; replace H := Option.bind_eq_some_iff.mp H; obtain ⟨t156, A130, H⟩ := H; replace H : (some t156) = some r := H; have A13 := Aside0.mk A130; clear A130; obtain rfl := Option.some.inj H; obtain ⟨hcz14_0, hcz14_1, hcz14_2, hcz14_3, hcz14_4, hfz14_0, hfz14_1, hfz14_2, hfz14_3, hfz14_4⟩ := cf5 BK153
              go_wp2_with (first | (go_at_call 75; (with_reducible refine (spec_l01Day.calls a0_4 t156 _ A13.out).mono ?_); rintro e w' ⟨rfl, ⟨nd, rfl⟩⟩))
              go_ret
              exact ⟨ff, bs HB⟩
            · rw [if_neg c12] at H; have c12b0 : decide (a0_3 ≤ 5) = false := decide_eq_false c12; clear c12; obtain rfl := Option.some.inj H; obtain ⟨hcz15_0, hcz15_1, hcz15_2, hcz15_3, hcz15_4, hfz15_0, hfz15_1, hfz15_2, hfz15_3, hfz15_4⟩ := cf5 BK153
              go_wp2
              go_ret
              exact ⟨ff, bs HB⟩
          · rw [if_neg c11] at H; have c11b0 : decide (0 ≤ a0_3) = false := decide_eq_false c11; clear c11; obtain rfl := Option.some.inj H; obtain ⟨hcz16_0, hcz16_1, hcz16_2, hcz16_3, hcz16_4, hfz16_0, hfz16_1, hfz16_2, hfz16_3, hfz16_4⟩ := cf5 BK153
            go_wp2
            go_ret
            exact ⟨ff, bs HB⟩
        · rw [if_neg c10] at H; have c10b0 : decide ((a0_2.size : Int) ≤ 20000) = false := decide_eq_false c10; have c10b1 : decide (a0_2.size ≤ 20000) = false := decide_eq_false (by omega); clear c10; obtain rfl := Option.some.inj H; obtain ⟨hcz17_0, hcz17_1, hcz17_2, hcz17_3, hcz17_4, hfz17_0, hfz17_1, hfz17_2, hfz17_3, hfz17_4⟩ := cf5 BK153
          go_wp2
          go_ret
          exact ⟨ff, bs HB⟩
      · rw [if_neg c9] at H; have c9b0 : decide (1 ≤ (a0_2.size : Int)) = false := decide_eq_false c9; have c9b1 : decide (1 ≤ a0_2.size) = false := decide_eq_false (by omega); clear c9; obtain rfl := Option.some.inj H; obtain ⟨hcz18_0, hcz18_1, hcz18_2, hcz18_3, hcz18_4, hfz18_0, hfz18_1, hfz18_2, hfz18_3, hfz18_4⟩ := cf5 BK153
        go_wp2
        go_ret
        exact ⟨ff, bs HB⟩
    · replace c8 := Bool.eq_false_iff.mpr c8; subst c8
      have H1 : (some false) = some r := by rw [if_neg (show ¬ (false = true) by decide)] at H; exact H
      clear H; have H := H1; clear H1; obtain rfl := Option.some.inj H
      go_wp2
      go_ret
      exact ⟨ff, bs HB⟩
  · replace c5 := Bool.eq_false_iff.mpr c5; subst c5
    have H1 : (some false) = some r := by rw [if_neg (show ¬ (false = true) by decide)] at H; exact H
    clear H; have H := H1; clear H1; obtain rfl := Option.some.inj H
    go_wp2
    go_ret
    exact ⟨ff, bs HB⟩
end Go.Proofs.Ytefmkmhjbfpelaa.QR
namespace Go.Proofs.Ytefmkmhjbfpelaa.QR
open Go.RowKit Go.Proofs.YtefmkmhjbfpelaaW.PrintWords Go.Proofs.YtefmkmhjbfpelaaW.PrintLast Go.Proofs.YtefmkmhjbfpelaaW.PrintMore
attribute [local go_sem] max2_int min2_int max_two min_two max_three min_three max_four min_four   -- for this text's walks alone
set_option linter.unusedVariables false
set_option linter.unusedSimpArgs false
set_option maxHeartbeats 8000000 in
set_option maxRecDepth 100000 in
theorem spec_l12Before.calls (a0_0 : ByteArray) (a0_1 : Int) (a0_2 : ByteArray) (a0_3 : Int) (a0_4 : Int) (a1_0 : ByteArray) (a1_1 : Int) (a1_2 : ByteArray) (a1_3 : Int) (a1_4 : Int) (r : Bool) (w : World) (h : spec_l12Before.f a0_0 a0_1 a0_2 a0_3 a0_4 a1_0 a1_1 a1_2 a1_3 a1_4 = some r) :
    Calls Try.prog 112 #[.agg #[.string a0_0, .int .i64 a0_1, .string a0_2, .int .i64 a0_3, .int .i64 a0_4], .agg #[.string a1_0, .int .i64 a1_1, .string a1_2, .int .i64 a1_3, .int .i64 a1_4]] w fun e w' => e = .returned (.bool r) ∧ Below w.heap.size w w' := by
  have hu24 := Try.underlying24; have HB := Aside0.mk (Below.refl w.heap.size w); have H : (if (Op.bytesLess a0_0.toList a1_0.toList) = true then (some true) else (if a0_0.toList = a1_0.toList then (some (decide (a0_1 < a1_1))) else (some false))) = some r := h; clear h
  by_cases c3 : (Op.bytesLess a0_0.toList a1_0.toList) = true
  · rw [if_pos c3] at H; have c3b0 : (Op.bytesLess a0_0.toList a1_0.toList) = true := c3; clear c3; obtain rfl := Option.some.inj H
    go_enter Try.func112, Try.ntmps112
    go_wp2_with (first | ((with_reducible refine gate_dst (N := 2) rfl ?_); refine bx 2 (cs := #[.string a0_0, .int .i64 a0_1, .string a0_2, .int .i64 a0_3, .int .i64 a0_4]) (t := 24) ?_; intro gb157 hg w4 hbox hb; have BK157 := Aside0.mk (hbox); have GW157 := Aside0.mk ((gs hg (bs HB))); have GE157 := Aside0.mk ((gs hg (bs HB))); replace HB := Aside0.mk (below_step (bs HB) hb); clear hb hbox hg) | ((with_reducible refine gate_dst (N := 3) rfl ?_); refine bx 3 (cs := #[.string a1_0, .int .i64 a1_1, .string a1_2, .int .i64 a1_3, .int .i64 a1_4]) (t := 24) ?_; intro gb158 hg w5 hbox hb; have BK158 := Aside0.mk (hbox); have GW158 := Aside0.mk ((gs hg (bs HB))); have GE158 := Aside0.mk ((gs hg (bs HB))); replace HB := Aside0.mk (below_step (bs HB) hb); have NB157_158 := Aside0.mk ((gn hg (ks BK157))); have NB158_157 := Aside0.mk ((gm hg (ks BK157))); replace BK157 := Aside0.mk (blk_below (ks BK157) hb); clear hb hbox hg; have hnb6 := NB157_158.out; have hnc6 := NB158_157.out; obtain ⟨hcz7_0, hcz7_1, hcz7_2, hcz7_3, hcz7_4, hfz7_0, hfz7_1, hfz7_2, hfz7_3, hfz7_4⟩ := cf5 BK157; obtain ⟨hcz8_0, hcz8_1, hcz8_2, hcz8_3, hcz8_4, hfz8_0, hfz8_1, hfz8_2, hfz8_3, hfz8_4⟩ := cf5 BK158))
    go_ret
    exact ⟨ff, bs HB⟩
  · rw [if_neg c3] at H
    have c3b0 : (Op.bytesLess a0_0.toList a1_0.toList) = false := by simpa using c3
    clear c3
    by_cases c9 : a0_0.toList = a1_0.toList
    · rw [if_pos c9] at H; have c9b0 : (a0_0.toList == a1_0.toList) = true := beq_iff_eq.mpr c9; have c9b1 : (a0_0.toList != a1_0.toList) = false := bne_eq_false_iff_eq.mpr c9; clear c9; obtain rfl := Option.some.inj H
      go_enter Try.func112, Try.ntmps112
      go_wp2_with (first | ((with_reducible refine gate_dst (N := 2) rfl ?_); refine bx 2 (cs := #[.string a0_0, .int .i64 a0_1, .string a0_2, .int .i64 a0_3, .int .i64 a0_4]) (t := 24) ?_; intro gb157 hg w10 hbox hb; have BK157 := Aside0.mk (hbox); have GW157 := Aside0.mk ((gs hg (bs HB))); have GE157 := Aside0.mk ((gs hg (bs HB))); replace HB := Aside0.mk (below_step (bs HB) hb); clear hb hbox hg) | ((with_reducible refine gate_dst (N := 3) rfl ?_); refine bx 3 (cs := #[.string a1_0, .int .i64 a1_1, .string a1_2, .int .i64 a1_3, .int .i64 a1_4]) (t := 24) ?_; intro gb158 hg w11 hbox hb; have BK158 := Aside0.mk (hbox); have GW158 := Aside0.mk ((gs hg (bs HB))); have GE158 := Aside0.mk ((gs hg (bs HB))); replace HB := Aside0.mk (below_step (bs HB) hb); have NB157_158 := Aside0.mk ((gn hg (ks BK157))); have NB158_157 := Aside0.mk ((gm hg (ks BK157))); replace BK157 := Aside0.mk (blk_below (ks BK157) hb); clear hb hbox hg; have hnb12 := NB157_158.out; have hnc12 := NB158_157.out; obtain ⟨hcz13_0, hcz13_1, hcz13_2, hcz13_3, hcz13_4, hfz13_0, hfz13_1, hfz13_2, hfz13_3, hfz13_4⟩ := cf5 BK157; obtain ⟨hcz14_0, hcz14_1, hcz14_2, hcz14_3, hcz14_4, hfz14_0, hfz14_1, hfz14_2, hfz14_3, hfz14_4⟩ := cf5 BK158))
      go_ret
      exact ⟨ff, bs HB⟩
    · rw [if_neg c9] at H; have c9b0 : (a0_0.toList == a1_0.toList) = false := beq_eq_false_iff_ne.mpr c9; have c9b1 : (a0_0.toList != a1_0.toList) = true := bne_iff_ne.mpr c9; obtain rfl := Option.some.inj H
      go_enter Try.func112, Try.ntmps112
      go_wp2_with (first | ((with_reducible refine gate_dst (N := 2) rfl ?_); refine bx 2 (cs := #[.string a0_0, .int .i64 a0_1, .string a0_2, .int .i64 a0_3, .int .i64 a0_4]) (t := 24) ?_; intro gb157 hg w15 hbox hb; have BK157 := Aside0.mk (hbox); have GW157 := Aside0.mk ((gs hg (bs HB))); have GE157 := Aside0.mk ((gs hg (bs HB))); replace HB := Aside0.mk (below_step (bs HB) hb); clear hb hbox hg) | ((with_reducible refine gate_dst (N := 3) rfl ?_); refine bx 3 (cs := #[.string a1_0, .int .i64 a1_1, .string a1_2, .int .i64 a1_3, .int .i64 a1_4]) (t := 24) ?_; intro gb158 hg w16 hbox hb; have BK158 := Aside0.mk (hbox); have GW158 := Aside0.mk ((gs hg (bs HB))); have GE158 := Aside0.mk ((gs hg (bs HB))); replace HB := Aside0.mk (below_step (bs HB) hb); have NB157_158 := Aside0.mk ((gn hg (ks BK157))); have NB158_157 := Aside0.mk ((gm hg (ks BK157))); replace BK157 := Aside0.mk (blk_below (ks BK157) hb); clear hb hbox hg; have hnb17 := NB157_158.out; have hnc17 := NB158_157.out; obtain ⟨hcz18_0, hcz18_1, hcz18_2, hcz18_3, hcz18_4, hfz18_0, hfz18_1, hfz18_2, hfz18_3, hfz18_4⟩ := cf5 BK157; obtain ⟨hcz19_0, hcz19_1, hcz19_2, hcz19_3, hcz19_4, hfz19_0, hfz19_1, hfz19_2, hfz19_3, hfz19_4⟩ := cf5 BK158))
      go_ret
      exact ⟨ff, bs HB⟩
end Go.Proofs.Ytefmkmhjbfpelaa.QR
namespace Go.Proofs.Ytefmkmhjbfpelaa.QR
open Go.RowKit Go.Proofs.YtefmkmhjbfpelaaW.PrintWords Go.Proofs.YtefmkmhjbfpelaaW.PrintLast Go.Proofs.YtefmkmhjbfpelaaW.PrintMore
attribute [local go_sem] max2_int min2_int max_two min_two max_three min_three max_four min_four   -- for this text's walks alone
set_option linter.unusedVariables false
set_option linter.unusedSimpArgs false
def spec_OutboxRight.T6 : Bool × List (List Nat × List Nat) := (true, [([], []), ([], []), ([0, 1], [0, 1]), ([2], [2]), ([3], [3]), ([4], [4]), ([5, 4], [5]), ([6], [6]), ([7, 6], [6, 7]), ([8, 6, 6], [6, 8]), ([9], [9]), ([9], [9]), ([11, 9], [9, 11]), ([10, 12, 9], [9, 10, 12]), ([13, 9], [9, 13]), ([9], [9]), ([9], [9]), ([15, 16, 9], [9, 15, 16]), ([17, 9], [9, 17]), ([14, 18, 9, 9], [9, 14, 18]), ([19, 9], [9, 19]), ([9, 20, 6], [6, 9, 20]), ([6, 21], [6, 21])])
def spec_OutboxRight.B6 : List Nat := [0, 0, 3, 7, 15, 31, 63, 127, 255, 511, 1023, 1023, 3071, 8191, 16383, 1023, 1023, 99327, 230399, 524287, 1048575, 2097151, 4194303]
theorem spec_OutboxRight.tab6 : rtab .any (opsOf Try.f78 6) = spec_OutboxRight.T6 := by kernel_rfl
theorem spec_OutboxRight.bits6 : waitsOk spec_OutboxRight.T6.2 spec_OutboxRight.B6 = true := by kernel_rfl
set_option maxHeartbeats 8000000 in
set_option maxRecDepth 100000 in
theorem spec_OutboxRight.calls (k : Nat) (A0 : Option Addr) (c0 : Nat) (l0 : List (S24)) (r : Bool) (w : World) (hr0 : Kd.C k24 w A0 l0.length l0) (hc0 : l0.length ≤ c0) (h : spec_OutboxRight.f k l0 = some r) :
    Calls Try.prog 78 #[.slice A0 l0.length c0] w fun e w' => e = .returned (.bool r) ∧ Below w.heap.size w w' := by
  have hu24 := Try.underlying24; have HR0 := Aside0.mk hr0; have HC0 := Aside0.mk hc0; clear hr0 hc0; have HB := Aside0.mk (Below.refl w.heap.size w); have H : (if (l0.length : Int) > 60 then (some false) else (spec_OutboxRight.l0 k l0 0)) = some r := h; clear h
  by_cases c2 : (l0.length : Int) > 60
  · rw [if_pos c2] at H; have c2b0 : decide (60 < (l0.length : Int)) = true := decide_eq_true c2; have c2b1 : decide (60 < l0.length) = true := decide_eq_true (by omega); clear c2; obtain rfl := Option.some.inj H
    go_enter Try.func78, Try.ntmps78
    go_wp2
    go_ret
    exact ⟨ff, bs HB⟩
  · rw [if_neg c2] at H; have c2b0 : decide (60 < (l0.length : Int)) = false := decide_eq_false c2; have c2b1 : decide (60 < l0.length) = false := decide_eq_false (by omega); clear c2; have H' := Aside0.mk H; clear H
    go_enter Try.func78, Try.ntmps78
    go_wp2
    go_loopg [3] k (fun kq v3 w' => ∃ (x3_1 : Int), v3 = .int .i64 x3_1 ∧ Aside0 (spec_OutboxRight.l0 kq l0 x3_1 = some r) ∧ Aside0 (kq ≤ k) ∧ Aside0 (Below w.heap.size w w'))
    case atStart => exact ⟨(0), fg, H', ⟨Nat.le_refl _⟩, ⟨bs HB⟩⟩
    case round =>
      clear H'
      try clear c2
      try clear c2b0
      try clear c2b1
      try clear p2
      obtain ⟨x3_1, rfl, HA, HK1, HB⟩ := hrel
      cases gk with
      | zero => exact absurd HA.out (by simp [spec_OutboxRight.l0])
      | succ k1 =>
        have H := HA.out; clear HA; simp only [spec_OutboxRight.l0] at H
        by_cases c3 : x3_1 < (l0.length : Int)
        · rw [if_pos c3] at H; have c3b0 : decide (x3_1 < (l0.length : Int)) = true := decide_eq_true c3; clear c3
          by_cases c4 : 0 ≤ x3_1
          · rw [if_pos c4] at H; have c4b0 : decide (0 ≤ x3_1) = true := decide_eq_true c4; clear c4; replace H := Option.bind_eq_some_iff.mp H; obtain ⟨t160, A50, H⟩ := H; replace H : (if t160 = true then (if x3_1 > 0 then (if 0 ≤ (wrap64 (x3_1 - 1)) then (if (wrap64 (x3_1 - 1)) < (l0.length : Int) then ((spec_l12Before.f ((rd_T24 l0 (wrap64 (x3_1 - 1))).f0) ((rd_T24 l0 (wrap64 (x3_1 - 1))).f1) ((rd_T24 l0 (wrap64 (x3_1 - 1))).f2) ((rd_T24 l0 (wrap64 (x3_1 - 1))).f3) ((rd_T24 l0 (wrap64 (x3_1 - 1))).f4) ((rd_T24 l0 x3_1).f0) ((rd_T24 l0 x3_1).f1) ((rd_T24 l0 x3_1).f2) ((rd_T24 l0 x3_1).f3) ((rd_T24 l0 x3_1).f4)).bind fun t163 => (if t163 = true then (spec_OutboxRight.l0 k1 l0 (wrap64 (x3_1 + 1))) else (some false))) else (none)) else (none)) else (spec_OutboxRight.l0 k1 l0 (wrap64 (x3_1 + 1)))) else (some false)) = some r := H; have A5 := Aside0.mk A50; clear A50
            by_cases c6 : t160 = true
            · subst c6
              have H1 : (if x3_1 > 0 then (if 0 ≤ (wrap64 (x3_1 - 1)) then (if (wrap64 (x3_1 - 1)) < (l0.length : Int) then ((spec_l12Before.f ((rd_T24 l0 (wrap64 (x3_1 - 1))).f0) ((rd_T24 l0 (wrap64 (x3_1 - 1))).f1) ((rd_T24 l0 (wrap64 (x3_1 - 1))).f2) ((rd_T24 l0 (wrap64 (x3_1 - 1))).f3) ((rd_T24 l0 (wrap64 (x3_1 - 1))).f4) ((rd_T24 l0 x3_1).f0) ((rd_T24 l0 x3_1).f1) ((rd_T24 l0 x3_1).f2) ((rd_T24 l0 x3_1).f3) ((rd_T24 l0 x3_1).f4)).bind fun t163 => (if t163 = true then (spec_OutboxRight.l0 k1 l0 (wrap64 (x3_1 + 1))) else (some false))) else (none)) else (none)) else (spec_OutboxRight.l0 k1 l0 (wrap64 (x3_1 + 1)))) = some r := by rw [if_pos rfl] at H; exact H
              clear H; have H := H1; clear H1
              by_cases c7 : x3_1 > 0
              · rw [if_pos c7] at H; have c7b0 : decide (0 < x3_1) = true := decide_eq_true c7; clear c7; obtain ⟨ji8, hji8⟩ : ∃ j_ : Int, (wrap64 (x3_1 - 1)) = j_ := ⟨_, rfl⟩
                replace H : (if 0 ≤ (ji8) then (if (ji8) < (l0.length : Int) then ((spec_l12Before.f ((rd_T24 l0 (ji8)).f0) ((rd_T24 l0 (ji8)).f1) ((rd_T24 l0 (ji8)).f2) ((rd_T24 l0 (ji8)).f3) ((rd_T24 l0 (ji8)).f4) ((rd_T24 l0 x3_1).f0) ((rd_T24 l0 x3_1).f1) ((rd_T24 l0 x3_1).f2) ((rd_T24 l0 x3_1).f3) ((rd_T24 l0 x3_1).f4)).bind fun t163 => (if t163 = true then (spec_OutboxRight.l0 k1 l0 (wrap64 (x3_1 + 1))) else (some false))) else (none)) else (none)) = some r := by first | (rw [hji8] at H; exact H) | (simp only [hji8] at H ⊢; exact H)
                (try rw [hji8] at A5)
                have hji8w : (IntKind.i64.wrap (x3_1 - 1)) = ji8 := (i64_w _).trans hji8
                by_cases c9 : 0 ≤ (ji8)
                · rw [if_pos c9] at H; have c9b0 : decide (0 ≤ (ji8)) = true := decide_eq_true c9; clear c9
                  by_cases c10 : (ji8) < (l0.length : Int)
                  · rw [if_pos c10] at H; have c10b0 : decide ((ji8) < (l0.length : Int)) = true := decide_eq_true c10; clear c10; replace H := Option.bind_eq_some_iff.mp H; obtain ⟨t163, A110, H⟩ := H; replace H : (if t163 = true then (spec_OutboxRight.l0 k1 l0 (wrap64 (x3_1 + 1))) else (some false)) = some r := H; have A11 := Aside0.mk A110; clear A110
                    by_cases c12 : t163 = true
                    · subst c12
                      have H1 : (spec_OutboxRight.l0 k1 l0 (wrap64 (x3_1 + 1))) = some r := by rw [if_pos rfl] at H; exact H
                      clear H; have H := H1; clear H1; have H' := Aside0.mk H; clear H
                      try go_wp2
                      replace HB := Aside0.mk (below_drew1 HB.out); have p159 : 0 ≤ (x3_1 : Int) := oa; have q159 : x3_1 < (l0.length : Int) := oa; obtain ⟨ad159, e159, hx159_0, hx159_1, hx159_2, hx159_3, hx159_4⟩ := at_T24 HR0.out x3_1 p159 q159; have hw159_4 := hx159_4; have hw159_3 := hx159_3; have hw159_2 := hx159_2; have hw159_1 := hx159_1; have hw159_0 := hx159_0
                      cases e159
                      replace hx159_0 := cb HB hx159_0; replace hx159_1 := cb HB hx159_1; replace hx159_2 := cb HB hx159_2; replace hx159_3 := cb HB hx159_3; replace hx159_4 := cb HB hx159_4; replace p159 := eq_true p159; replace q159 := eq_true q159; have p161 : 0 ≤ ((ji8) : Int) := oa; have q161 : (ji8) < (l0.length : Int) := oa; obtain ⟨ad161, e161, hx161_0, hx161_1, hx161_2, hx161_3, hx161_4⟩ := at_T24 HR0.out (ji8) p161 q161; have hw161_4 := hx161_4; have hw161_3 := hx161_3; have hw161_2 := hx161_2; have hw161_1 := hx161_1; have hw161_0 := hx161_0; obtain rfl : ad159 = ad161 := (by injection e161); replace hx161_0 := cb HB hx161_0; replace hx161_1 := cb HB hx161_1; replace hx161_2 := cb HB hx161_2; replace hx161_3 := cb HB hx161_3; replace hx161_4 := cb HB hx161_4; replace p161 := eq_true p161; replace q161 := eq_true q161; have p162 : 0 ≤ (x3_1 : Int) := oa; have q162 : x3_1 < (l0.length : Int) := oa; obtain ⟨ad162, e162, hx162_0, hx162_1, hx162_2, hx162_3, hx162_4⟩ := at_T24 HR0.out x3_1 p162 q162; have hw162_4 := hx162_4; have hw162_3 := hx162_3; have hw162_2 := hx162_2; have hw162_1 := hx162_1; have hw162_0 := hx162_0; obtain rfl : ad159 = ad162 := (by injection e162); replace hx162_0 := cb HB hx162_0; replace hx162_1 := cb HB hx162_1; replace hx162_2 := cb HB hx162_2; replace hx162_3 := cb HB hx162_3; replace hx162_4 := cb HB hx162_4; replace p162 := eq_true p162; replace q162 := eq_true q162; refine start_ (n := 23) (S := fun w' => w'.cell? (ad159.add ((x3_1).toNat * 5)) = some (.string ((rd_T24 l0 x3_1).f0)) ∧ w'.cell? ⟨(ad159.add ((x3_1).toNat * 5)).block, (ad159.add ((x3_1).toNat * 5)).off + 1, none⟩ = some (.int .i64 ((rd_T24 l0 x3_1).f1)) ∧ w'.cell? ⟨(ad159.add ((x3_1).toNat * 5)).block, (ad159.add ((x3_1).toNat * 5)).off + 2, none⟩ = some (.string ((rd_T24 l0 x3_1).f2)) ∧ w'.cell? ⟨(ad159.add ((x3_1).toNat * 5)).block, (ad159.add ((x3_1).toNat * 5)).off + 3, none⟩ = some (.int .i64 ((rd_T24 l0 x3_1).f3)) ∧ w'.cell? ⟨(ad159.add ((x3_1).toNat * 5)).block, (ad159.add ((x3_1).toNat * 5)).off + 4, none⟩ = some (.int .i64 ((rd_T24 l0 x3_1).f4)) ∧ w'.cell? (ad159.add (((ji8)).toNat * 5)) = some (.string ((rd_T24 l0 (ji8)).f0)) ∧ w'.cell? ⟨(ad159.add (((ji8)).toNat * 5)).block, (ad159.add (((ji8)).toNat * 5)).off + 1, none⟩ = some (.int .i64 ((rd_T24 l0 (ji8)).f1)) ∧ w'.cell? ⟨(ad159.add (((ji8)).toNat * 5)).block, (ad159.add (((ji8)).toNat * 5)).off + 2, none⟩ = some (.string ((rd_T24 l0 (ji8)).f2)) ∧ w'.cell? ⟨(ad159.add (((ji8)).toNat * 5)).block, (ad159.add (((ji8)).toNat * 5)).off + 3, none⟩ = some (.int .i64 ((rd_T24 l0 (ji8)).f3)) ∧ w'.cell? ⟨(ad159.add (((ji8)).toNat * 5)).block, (ad159.add (((ji8)).toNat * 5)).off + 4, none⟩ = some (.int .i64 ((rd_T24 l0 (ji8)).f4)) ∧ w'.cell? (ad159.add ((x3_1).toNat * 5)) = some (.string ((rd_T24 l0 x3_1).f0)) ∧ w'.cell? ⟨(ad159.add ((x3_1).toNat * 5)).block, (ad159.add ((x3_1).toNat * 5)).off + 1, none⟩ = some (.int .i64 ((rd_T24 l0 x3_1).f1)) ∧ w'.cell? ⟨(ad159.add ((x3_1).toNat * 5)).block, (ad159.add ((x3_1).toNat * 5)).off + 2, none⟩ = some (.string ((rd_T24 l0 x3_1).f2)) ∧ w'.cell? ⟨(ad159.add ((x3_1).toNat * 5)).block, (ad159.add ((x3_1).toNat * 5)).off + 3, none⟩ = some (.int .i64 ((rd_T24 l0 x3_1).f3)) ∧ w'.cell? ⟨(ad159.add ((x3_1).toNat * 5)).block, (ad159.add ((x3_1).toNat * 5)).off + 4, none⟩ = some (.int .i64 ((rd_T24 l0 x3_1).f4))) (ds := []) #[false, false, false, false, false, false, false, false, false, false, false, false, false, false, false, false, false, false, false, false, false, false, false] (by kernel_rfl) rfl rfl ⟨((cb HB hw159_0).trans rfl), ((cb HB hw159_1).trans rfl), ((cb HB hw159_2).trans rfl), ((cb HB hw159_3).trans rfl), ((cb HB hw159_4).trans rfl), ((cb HB hw161_0).trans rfl), ((cb HB hw161_1).trans rfl), ((cb HB hw161_2).trans rfl), ((cb HB hw161_3).trans rfl), ((cb HB hw161_4).trans rfl), ((cb HB hw162_0).trans rfl), ((cb HB hw162_1).trans rfl), ((cb HB hw162_2).trans rfl), ((cb HB hw162_3).trans rfl), ((cb HB hw162_4).trans rfl)⟩ (fun hHeld => ?_); refine with_tabW spec_OutboxRight.tab6 spec_OutboxRight.bits6 (fun HT_ HW_ => ?_)
                      generalize wr.drew = w13 at HB hx159_0 hx159_1 hx159_2 hx159_3 hx159_4 hx161_0 hx161_1 hx161_2 hx161_3 hx161_4 hx162_0 hx162_1 hx162_2 hx162_3 hx162_4 hHeld ⊢
                      refine pA 0 13 HT_ ?_; refine pA 1 14 HT_ ?_; refine pA 2 15 HT_ ?_; refine tA 3 16 HT_ HW_ hHeld ?_; refine oA 4 17 HT_ (fun K hK => ?_); refine gA Try.func74 #[.agg #[.string ((rd_T24 l0 x3_1).f0), .int .i64 ((rd_T24 l0 x3_1).f1), .string ((rd_T24 l0 x3_1).f2), .int .i64 ((rd_T24 l0 x3_1).f3), .int .i64 ((rd_T24 l0 x3_1).f4)]] ?_; (with_reducible refine (spec_l12Out.calls k1 ((rd_T24 l0 x3_1).f0) ((rd_T24 l0 x3_1).f1) ((rd_T24 l0 x3_1).f2) ((rd_T24 l0 x3_1).f3) ((rd_T24 l0 x3_1).f4) true _ A5.out).mono ?_); rintro e w14 ⟨rfl, hb⟩; refine ⟨_, rfl, ?_⟩; replace HB := Aside0.mk (below_step (bs HB) hb); (try clear hb); (try clear hb2); (try clear hk); (try clear hi); refine hK.out _ _ ⟨((cb HB hw159_0).trans rfl), ((cb HB hw159_1).trans rfl), ((cb HB hw159_2).trans rfl), ((cb HB hw159_3).trans rfl), ((cb HB hw159_4).trans rfl), ((cb HB hw161_0).trans rfl), ((cb HB hw161_1).trans rfl), ((cb HB hw161_2).trans rfl), ((cb HB hw161_3).trans rfl), ((cb HB hw161_4).trans rfl), ((cb HB hw162_0).trans rfl), ((cb HB hw162_1).trans rfl), ((cb HB hw162_2).trans rfl), ((cb HB hw162_3).trans rfl), ((cb HB hw162_4).trans rfl)⟩ (fun hHeld => ?_); clear hK K; refine nA 17 ?_; refine pA 5 18 HT_ ?_; refine pA 6 19 HT_ ?_; refine pA 7 20 HT_ ?_; refine pA 8 21 HT_ ?_; refine pA 9 22 HT_ ?_; refine pA 10 23 HT_ ?_; refine pA 11 24 HT_ ?_; refine pA 12 25 HT_ ?_; refine pA 13 26 HT_ ?_; refine pA 15 28 HT_ ?_; refine pA 16 29 HT_ ?_; refine pA 17 30 HT_ ?_; refine tA 14 27 HT_ HW_ hHeld ?_; refine tA 18 31 HT_ HW_ hHeld ?_; refine oA 19 32 HT_ (fun K hK => ?_); refine goes_ Try.func112 (by kernel_rfl) rfl #[.agg #[.string ((rd_T24 l0 (ji8)).f0), .int .i64 ((rd_T24 l0 (ji8)).f1), .string ((rd_T24 l0 (ji8)).f2), .int .i64 ((rd_T24 l0 (ji8)).f3), .int .i64 ((rd_T24 l0 (ji8)).f4)], .agg #[.string ((rd_T24 l0 x3_1).f0), .int .i64 ((rd_T24 l0 x3_1).f1), .string ((rd_T24 l0 x3_1).f2), .int .i64 ((rd_T24 l0 x3_1).f3), .int .i64 ((rd_T24 l0 x3_1).f4)]] (by rfl) rfl rfl (by (try simp only [List.map_toArray, List.map_cons, List.map_nil]); first | done | (simp only [hji8]; rfl) | rfl | (simp only [List.length_drop, List.length_take]; rfl)) ?_; (with_reducible refine (spec_l12Before.calls ((rd_T24 l0 (ji8)).f0) ((rd_T24 l0 (ji8)).f1) ((rd_T24 l0 (ji8)).f2) ((rd_T24 l0 (ji8)).f3) ((rd_T24 l0 (ji8)).f4) ((rd_T24 l0 x3_1).f0) ((rd_T24 l0 x3_1).f1) ((rd_T24 l0 x3_1).f2) ((rd_T24 l0 x3_1).f3) ((rd_T24 l0 x3_1).f4) true _ A11.out).mono ?_); rintro e w15 ⟨rfl, hb⟩; refine ⟨_, rfl, ?_⟩; replace HB := Aside0.mk (below_step (bs HB) hb); (try clear hb); (try clear hb2); (try clear hk); (try clear hi); refine hK.out _ _ ⟨((cb HB hw159_0).trans rfl), ((cb HB hw159_1).trans rfl), ((cb HB hw159_2).trans rfl), ((cb HB hw159_3).trans rfl), ((cb HB hw159_4).trans rfl), ((cb HB hw161_0).trans rfl), ((cb HB hw161_1).trans rfl), ((cb HB hw161_2).trans rfl), ((cb HB hw161_3).trans rfl), ((cb HB hw161_4).trans rfl), ((cb HB hw162_0).trans rfl), ((cb HB hw162_1).trans rfl), ((cb HB hw162_2).trans rfl), ((cb HB hw162_3).trans rfl), ((cb HB hw162_4).trans rfl)⟩ (fun hHeld => ?_); clear hK K; refine nA 32 ?_; refine pA 20 33 HT_ ?_; refine pA 21 34 HT_ ?_; refine pA 22 35 HT_ ?_; refine done_ (done_of HT_.out (by kernel_rfl)) ?_
                      try go_wp2
                      go_roundg k1
                      case measure => have := HK1.out; omega
                      case rel => exact ⟨(wrap64 (x3_1 + 1)), fg, H', ⟨by have := HK1.out; omega⟩, ⟨bs HB⟩⟩
                    · replace c12 := Bool.eq_false_iff.mpr c12; subst c12
                      have H1 : (some false) = some r := by rw [if_neg (show ¬ (false = true) by decide)] at H; exact H
                      clear H; have H := H1; clear H1; obtain rfl := Option.some.inj H
                      try go_wp2
                      replace HB := Aside0.mk (below_drew1 HB.out); have p159 : 0 ≤ (x3_1 : Int) := oa; have q159 : x3_1 < (l0.length : Int) := oa; obtain ⟨ad159, e159, hx159_0, hx159_1, hx159_2, hx159_3, hx159_4⟩ := at_T24 HR0.out x3_1 p159 q159; have hw159_4 := hx159_4; have hw159_3 := hx159_3; have hw159_2 := hx159_2; have hw159_1 := hx159_1; have hw159_0 := hx159_0
                      cases e159
                      replace hx159_0 := cb HB hx159_0; replace hx159_1 := cb HB hx159_1; replace hx159_2 := cb HB hx159_2; replace hx159_3 := cb HB hx159_3; replace hx159_4 := cb HB hx159_4; replace p159 := eq_true p159; replace q159 := eq_true q159; have p161 : 0 ≤ ((ji8) : Int) := oa; have q161 : (ji8) < (l0.length : Int) := oa; obtain ⟨ad161, e161, hx161_0, hx161_1, hx161_2, hx161_3, hx161_4⟩ := at_T24 HR0.out (ji8) p161 q161; have hw161_4 := hx161_4; have hw161_3 := hx161_3; have hw161_2 := hx161_2; have hw161_1 := hx161_1; have hw161_0 := hx161_0; obtain rfl : ad159 = ad161 := (by injection e161); replace hx161_0 := cb HB hx161_0; replace hx161_1 := cb HB hx161_1; replace hx161_2 := cb HB hx161_2; replace hx161_3 := cb HB hx161_3; replace hx161_4 := cb HB hx161_4; replace p161 := eq_true p161; replace q161 := eq_true q161; have p162 : 0 ≤ (x3_1 : Int) := oa; have q162 : x3_1 < (l0.length : Int) := oa; obtain ⟨ad162, e162, hx162_0, hx162_1, hx162_2, hx162_3, hx162_4⟩ := at_T24 HR0.out x3_1 p162 q162; have hw162_4 := hx162_4; have hw162_3 := hx162_3; have hw162_2 := hx162_2; have hw162_1 := hx162_1; have hw162_0 := hx162_0; obtain rfl : ad159 = ad162 := (by injection e162); replace hx162_0 := cb HB hx162_0; replace hx162_1 := cb HB hx162_1; replace hx162_2 := cb HB hx162_2; replace hx162_3 := cb HB hx162_3; replace hx162_4 := cb HB hx162_4; replace p162 := eq_true p162; replace q162 := eq_true q162; refine start_ (n := 23) (S := fun w' => w'.cell? (ad159.add ((x3_1).toNat * 5)) = some (.string ((rd_T24 l0 x3_1).f0)) ∧ w'.cell? ⟨(ad159.add ((x3_1).toNat * 5)).block, (ad159.add ((x3_1).toNat * 5)).off + 1, none⟩ = some (.int .i64 ((rd_T24 l0 x3_1).f1)) ∧ w'.cell? ⟨(ad159.add ((x3_1).toNat * 5)).block, (ad159.add ((x3_1).toNat * 5)).off + 2, none⟩ = some (.string ((rd_T24 l0 x3_1).f2)) ∧ w'.cell? ⟨(ad159.add ((x3_1).toNat * 5)).block, (ad159.add ((x3_1).toNat * 5)).off + 3, none⟩ = some (.int .i64 ((rd_T24 l0 x3_1).f3)) ∧ w'.cell? ⟨(ad159.add ((x3_1).toNat * 5)).block, (ad159.add ((x3_1).toNat * 5)).off + 4, none⟩ = some (.int .i64 ((rd_T24 l0 x3_1).f4)) ∧ w'.cell? (ad159.add (((ji8)).toNat * 5)) = some (.string ((rd_T24 l0 (ji8)).f0)) ∧ w'.cell? ⟨(ad159.add (((ji8)).toNat * 5)).block, (ad159.add (((ji8)).toNat * 5)).off + 1, none⟩ = some (.int .i64 ((rd_T24 l0 (ji8)).f1)) ∧ w'.cell? ⟨(ad159.add (((ji8)).toNat * 5)).block, (ad159.add (((ji8)).toNat * 5)).off + 2, none⟩ = some (.string ((rd_T24 l0 (ji8)).f2)) ∧ w'.cell? ⟨(ad159.add (((ji8)).toNat * 5)).block, (ad159.add (((ji8)).toNat * 5)).off + 3, none⟩ = some (.int .i64 ((rd_T24 l0 (ji8)).f3)) ∧ w'.cell? ⟨(ad159.add (((ji8)).toNat * 5)).block, (ad159.add (((ji8)).toNat * 5)).off + 4, none⟩ = some (.int .i64 ((rd_T24 l0 (ji8)).f4)) ∧ w'.cell? (ad159.add ((x3_1).toNat * 5)) = some (.string ((rd_T24 l0 x3_1).f0)) ∧ w'.cell? ⟨(ad159.add ((x3_1).toNat * 5)).block, (ad159.add ((x3_1).toNat * 5)).off + 1, none⟩ = some (.int .i64 ((rd_T24 l0 x3_1).f1)) ∧ w'.cell? ⟨(ad159.add ((x3_1).toNat * 5)).block, (ad159.add ((x3_1).toNat * 5)).off + 2, none⟩ = some (.string ((rd_T24 l0 x3_1).f2)) ∧ w'.cell? ⟨(ad159.add ((x3_1).toNat * 5)).block, (ad159.add ((x3_1).toNat * 5)).off + 3, none⟩ = some (.int .i64 ((rd_T24 l0 x3_1).f3)) ∧ w'.cell? ⟨(ad159.add ((x3_1).toNat * 5)).block, (ad159.add ((x3_1).toNat * 5)).off + 4, none⟩ = some (.int .i64 ((rd_T24 l0 x3_1).f4))) (ds := []) #[false, false, false, false, false, false, false, false, false, false, false, false, false, false, false, false, false, false, false, false, false, false, false] (by kernel_rfl) rfl rfl ⟨((cb HB hw159_0).trans rfl), ((cb HB hw159_1).trans rfl), ((cb HB hw159_2).trans rfl), ((cb HB hw159_3).trans rfl), ((cb HB hw159_4).trans rfl), ((cb HB hw161_0).trans rfl), ((cb HB hw161_1).trans rfl), ((cb HB hw161_2).trans rfl), ((cb HB hw161_3).trans rfl), ((cb HB hw161_4).trans rfl), ((cb HB hw162_0).trans rfl), ((cb HB hw162_1).trans rfl), ((cb HB hw162_2).trans rfl), ((cb HB hw162_3).trans rfl), ((cb HB hw162_4).trans rfl)⟩ (fun hHeld => ?_); refine with_tabW spec_OutboxRight.tab6 spec_OutboxRight.bits6 (fun HT_ HW_ => ?_)
                      generalize wr.drew = w16 at HB hx159_0 hx159_1 hx159_2 hx159_3 hx159_4 hx161_0 hx161_1 hx161_2 hx161_3 hx161_4 hx162_0 hx162_1 hx162_2 hx162_3 hx162_4 hHeld ⊢
                      refine pA 0 13 HT_ ?_; refine pA 1 14 HT_ ?_; refine pA 2 15 HT_ ?_; refine tA 3 16 HT_ HW_ hHeld ?_; refine oA 4 17 HT_ (fun K hK => ?_); refine gA Try.func74 #[.agg #[.string ((rd_T24 l0 x3_1).f0), .int .i64 ((rd_T24 l0 x3_1).f1), .string ((rd_T24 l0 x3_1).f2), .int .i64 ((rd_T24 l0 x3_1).f3), .int .i64 ((rd_T24 l0 x3_1).f4)]] ?_; (with_reducible refine (spec_l12Out.calls k1 ((rd_T24 l0 x3_1).f0) ((rd_T24 l0 x3_1).f1) ((rd_T24 l0 x3_1).f2) ((rd_T24 l0 x3_1).f3) ((rd_T24 l0 x3_1).f4) true _ A5.out).mono ?_); rintro e w17 ⟨rfl, hb⟩; refine ⟨_, rfl, ?_⟩; replace HB := Aside0.mk (below_step (bs HB) hb); (try clear hb); (try clear hb2); (try clear hk); (try clear hi); refine hK.out _ _ ⟨((cb HB hw159_0).trans rfl), ((cb HB hw159_1).trans rfl), ((cb HB hw159_2).trans rfl), ((cb HB hw159_3).trans rfl), ((cb HB hw159_4).trans rfl), ((cb HB hw161_0).trans rfl), ((cb HB hw161_1).trans rfl), ((cb HB hw161_2).trans rfl), ((cb HB hw161_3).trans rfl), ((cb HB hw161_4).trans rfl), ((cb HB hw162_0).trans rfl), ((cb HB hw162_1).trans rfl), ((cb HB hw162_2).trans rfl), ((cb HB hw162_3).trans rfl), ((cb HB hw162_4).trans rfl)⟩ (fun hHeld => ?_); clear hK K; refine nA 17 ?_; refine pA 5 18 HT_ ?_; refine pA 6 19 HT_ ?_; refine pA 7 20 HT_ ?_; refine pA 8 21 HT_ ?_; refine pA 9 22 HT_ ?_; refine pA 10 23 HT_ ?_; refine pA 11 24 HT_ ?_; refine pA 12 25 HT_ ?_; refine pA 13 26 HT_ ?_; refine pA 15 28 HT_ ?_; refine pA 16 29 HT_ ?_; refine pA 17 30 HT_ ?_; refine tA 14 27 HT_ HW_ hHeld ?_; refine tA 18 31 HT_ HW_ hHeld ?_; refine oA 19 32 HT_ (fun K hK => ?_); refine goes_ Try.func112 (by kernel_rfl) rfl #[.agg #[.string ((rd_T24 l0 (ji8)).f0), .int .i64 ((rd_T24 l0 (ji8)).f1), .string ((rd_T24 l0 (ji8)).f2), .int .i64 ((rd_T24 l0 (ji8)).f3), .int .i64 ((rd_T24 l0 (ji8)).f4)], .agg #[.string ((rd_T24 l0 x3_1).f0), .int .i64 ((rd_T24 l0 x3_1).f1), .string ((rd_T24 l0 x3_1).f2), .int .i64 ((rd_T24 l0 x3_1).f3), .int .i64 ((rd_T24 l0 x3_1).f4)]] (by rfl) rfl rfl (by (try simp only [List.map_toArray, List.map_cons, List.map_nil]); first | done | (simp only [hji8]; rfl) | rfl | (simp only [List.length_drop, List.length_take]; rfl)) ?_; (with_reducible refine (spec_l12Before.calls ((rd_T24 l0 (ji8)).f0) ((rd_T24 l0 (ji8)).f1) ((rd_T24 l0 (ji8)).f2) ((rd_T24 l0 (ji8)).f3) ((rd_T24 l0 (ji8)).f4) ((rd_T24 l0 x3_1).f0) ((rd_T24 l0 x3_1).f1) ((rd_T24 l0 x3_1).f2) ((rd_T24 l0 x3_1).f3) ((rd_T24 l0 x3_1).f4) false _ A11.out).mono ?_); rintro e w18 ⟨rfl, hb⟩; refine ⟨_, rfl, ?_⟩; replace HB := Aside0.mk (below_step (bs HB) hb); (try clear hb); (try clear hb2); (try clear hk); (try clear hi); refine hK.out _ _ ⟨((cb HB hw159_0).trans rfl), ((cb HB hw159_1).trans rfl), ((cb HB hw159_2).trans rfl), ((cb HB hw159_3).trans rfl), ((cb HB hw159_4).trans rfl), ((cb HB hw161_0).trans rfl), ((cb HB hw161_1).trans rfl), ((cb HB hw161_2).trans rfl), ((cb HB hw161_3).trans rfl), ((cb HB hw161_4).trans rfl), ((cb HB hw162_0).trans rfl), ((cb HB hw162_1).trans rfl), ((cb HB hw162_2).trans rfl), ((cb HB hw162_3).trans rfl), ((cb HB hw162_4).trans rfl)⟩ (fun hHeld => ?_); clear hK K; refine nA 32 ?_; refine pA 20 33 HT_ ?_; refine pA 21 34 HT_ ?_; refine pA 22 35 HT_ ?_; refine done_ (done_of HT_.out (by kernel_rfl)) ?_
                      try go_wp2
                      go_ret
                      exact ⟨by first | rfl | (simp [errW_none, errW_some] <;> rfl) | (simp only [← hji8]; first | rfl | (simp [errW_none, errW_some] <;> rfl)) | (simp [*, errW_none, errW_some] <;> rfl), bs HB⟩
                  · rw [if_neg c10] at H
                    exact absurd H (by simp)
                · rw [if_neg c9] at H
                  exact absurd H (by simp)
              · rw [if_neg c7] at H; have c7b0 : decide (0 < x3_1) = false := decide_eq_false c7; clear c7; have H' := Aside0.mk H; clear H
                try go_wp2
                replace HB := Aside0.mk (below_drew1 HB.out); have p159 : 0 ≤ (x3_1 : Int) := oa; have q159 : x3_1 < (l0.length : Int) := oa; obtain ⟨ad159, e159, hx159_0, hx159_1, hx159_2, hx159_3, hx159_4⟩ := at_T24 HR0.out x3_1 p159 q159; have hw159_4 := hx159_4; have hw159_3 := hx159_3; have hw159_2 := hx159_2; have hw159_1 := hx159_1; have hw159_0 := hx159_0
                cases e159
                replace hx159_0 := cb HB hx159_0; replace hx159_1 := cb HB hx159_1; replace hx159_2 := cb HB hx159_2; replace hx159_3 := cb HB hx159_3; replace hx159_4 := cb HB hx159_4; replace p159 := eq_true p159; replace q159 := eq_true q159; refine start_ (n := 23) (S := fun w' => w'.cell? (ad159.add ((x3_1).toNat * 5)) = some (.string ((rd_T24 l0 x3_1).f0)) ∧ w'.cell? ⟨(ad159.add ((x3_1).toNat * 5)).block, (ad159.add ((x3_1).toNat * 5)).off + 1, none⟩ = some (.int .i64 ((rd_T24 l0 x3_1).f1)) ∧ w'.cell? ⟨(ad159.add ((x3_1).toNat * 5)).block, (ad159.add ((x3_1).toNat * 5)).off + 2, none⟩ = some (.string ((rd_T24 l0 x3_1).f2)) ∧ w'.cell? ⟨(ad159.add ((x3_1).toNat * 5)).block, (ad159.add ((x3_1).toNat * 5)).off + 3, none⟩ = some (.int .i64 ((rd_T24 l0 x3_1).f3)) ∧ w'.cell? ⟨(ad159.add ((x3_1).toNat * 5)).block, (ad159.add ((x3_1).toNat * 5)).off + 4, none⟩ = some (.int .i64 ((rd_T24 l0 x3_1).f4))) (ds := []) #[false, false, false, false, false, false, false, false, false, false, false, false, false, false, false, false, false, false, false, false, false, false, false] (by kernel_rfl) rfl rfl ⟨((cb HB hw159_0).trans rfl), ((cb HB hw159_1).trans rfl), ((cb HB hw159_2).trans rfl), ((cb HB hw159_3).trans rfl), ((cb HB hw159_4).trans rfl)⟩ (fun hHeld => ?_); refine with_tabW spec_OutboxRight.tab6 spec_OutboxRight.bits6 (fun HT_ HW_ => ?_)
                generalize wr.drew = w19 at HB hx159_0 hx159_1 hx159_2 hx159_3 hx159_4 hHeld ⊢
                refine pA 0 13 HT_ ?_; refine pA 1 14 HT_ ?_; refine pA 2 15 HT_ ?_; refine tA 3 16 HT_ HW_ hHeld ?_; refine oA 4 17 HT_ (fun K hK => ?_); refine gA Try.func74 #[.agg #[.string ((rd_T24 l0 x3_1).f0), .int .i64 ((rd_T24 l0 x3_1).f1), .string ((rd_T24 l0 x3_1).f2), .int .i64 ((rd_T24 l0 x3_1).f3), .int .i64 ((rd_T24 l0 x3_1).f4)]] ?_; (with_reducible refine (spec_l12Out.calls k1 ((rd_T24 l0 x3_1).f0) ((rd_T24 l0 x3_1).f1) ((rd_T24 l0 x3_1).f2) ((rd_T24 l0 x3_1).f3) ((rd_T24 l0 x3_1).f4) true _ A5.out).mono ?_); rintro e w20 ⟨rfl, hb⟩; refine ⟨_, rfl, ?_⟩; replace HB := Aside0.mk (below_step (bs HB) hb); (try clear hb); (try clear hb2); (try clear hk); (try clear hi); refine hK.out _ _ ⟨((cb HB hw159_0).trans rfl), ((cb HB hw159_1).trans rfl), ((cb HB hw159_2).trans rfl), ((cb HB hw159_3).trans rfl), ((cb HB hw159_4).trans rfl)⟩ (fun hHeld => ?_); clear hK K; refine nA 17 ?_; refine pA 5 18 HT_ ?_; refine pA 6 19 HT_ ?_; refine pA 7 20 HT_ ?_; refine pA 8 21 HT_ ?_; refine pA 9 22 HT_ ?_; refine pB 10 23 HT_ ?_; refine pB 11 24 HT_ ?_; refine pB 12 25 HT_ ?_; refine pB 13 26 HT_ ?_; refine pB 14 27 HT_ ?_; refine pB 15 28 HT_ ?_; refine pB 16 29 HT_ ?_; refine pB 17 30 HT_ ?_; refine pB 18 31 HT_ ?_; refine pB 19 32 HT_ ?_; refine pB 20 33 HT_ ?_; refine pA 21 34 HT_ ?_; refine pA 22 35 HT_ ?_; refine done_ (done_of HT_.out (by kernel_rfl)) ?_
                try go_wp2
                go_roundg k1
                case measure => have := HK1.out; omega
                case rel => exact ⟨(wrap64 (x3_1 + 1)), fg, H', ⟨by have := HK1.out; omega⟩, ⟨bs HB⟩⟩
            · replace c6 := Bool.eq_false_iff.mpr c6; subst c6
              have H1 : (some false) = some r := by rw [if_neg (show ¬ (false = true) by decide)] at H; exact H
              clear H; have H := H1; clear H1; obtain rfl := Option.some.inj H
              try go_wp2
              replace HB := Aside0.mk (below_drew1 HB.out); have p159 : 0 ≤ (x3_1 : Int) := oa; have q159 : x3_1 < (l0.length : Int) := oa; obtain ⟨ad159, e159, hx159_0, hx159_1, hx159_2, hx159_3, hx159_4⟩ := at_T24 HR0.out x3_1 p159 q159; have hw159_4 := hx159_4; have hw159_3 := hx159_3; have hw159_2 := hx159_2; have hw159_1 := hx159_1; have hw159_0 := hx159_0
              cases e159
              replace hx159_0 := cb HB hx159_0; replace hx159_1 := cb HB hx159_1; replace hx159_2 := cb HB hx159_2; replace hx159_3 := cb HB hx159_3; replace hx159_4 := cb HB hx159_4; replace p159 := eq_true p159; replace q159 := eq_true q159; refine start_ (n := 23) (S := fun w' => w'.cell? (ad159.add ((x3_1).toNat * 5)) = some (.string ((rd_T24 l0 x3_1).f0)) ∧ w'.cell? ⟨(ad159.add ((x3_1).toNat * 5)).block, (ad159.add ((x3_1).toNat * 5)).off + 1, none⟩ = some (.int .i64 ((rd_T24 l0 x3_1).f1)) ∧ w'.cell? ⟨(ad159.add ((x3_1).toNat * 5)).block, (ad159.add ((x3_1).toNat * 5)).off + 2, none⟩ = some (.string ((rd_T24 l0 x3_1).f2)) ∧ w'.cell? ⟨(ad159.add ((x3_1).toNat * 5)).block, (ad159.add ((x3_1).toNat * 5)).off + 3, none⟩ = some (.int .i64 ((rd_T24 l0 x3_1).f3)) ∧ w'.cell? ⟨(ad159.add ((x3_1).toNat * 5)).block, (ad159.add ((x3_1).toNat * 5)).off + 4, none⟩ = some (.int .i64 ((rd_T24 l0 x3_1).f4))) (ds := []) #[false, false, false, false, false, false, false, false, false, false, false, false, false, false, false, false, false, false, false, false, false, false, false] (by kernel_rfl) rfl rfl ⟨((cb HB hw159_0).trans rfl), ((cb HB hw159_1).trans rfl), ((cb HB hw159_2).trans rfl), ((cb HB hw159_3).trans rfl), ((cb HB hw159_4).trans rfl)⟩ (fun hHeld => ?_); refine with_tabW spec_OutboxRight.tab6 spec_OutboxRight.bits6 (fun HT_ HW_ => ?_)
              generalize wr.drew = w21 at HB hx159_0 hx159_1 hx159_2 hx159_3 hx159_4 hHeld ⊢
              refine pA 0 13 HT_ ?_; refine pA 1 14 HT_ ?_; refine pA 2 15 HT_ ?_; refine tA 3 16 HT_ HW_ hHeld ?_; refine oA 4 17 HT_ (fun K hK => ?_); refine gA Try.func74 #[.agg #[.string ((rd_T24 l0 x3_1).f0), .int .i64 ((rd_T24 l0 x3_1).f1), .string ((rd_T24 l0 x3_1).f2), .int .i64 ((rd_T24 l0 x3_1).f3), .int .i64 ((rd_T24 l0 x3_1).f4)]] ?_; (with_reducible refine (spec_l12Out.calls k1 ((rd_T24 l0 x3_1).f0) ((rd_T24 l0 x3_1).f1) ((rd_T24 l0 x3_1).f2) ((rd_T24 l0 x3_1).f3) ((rd_T24 l0 x3_1).f4) false _ A5.out).mono ?_); rintro e w22 ⟨rfl, hb⟩; refine ⟨_, rfl, ?_⟩; replace HB := Aside0.mk (below_step (bs HB) hb); (try clear hb); (try clear hb2); (try clear hk); (try clear hi); refine hK.out _ _ ⟨((cb HB hw159_0).trans rfl), ((cb HB hw159_1).trans rfl), ((cb HB hw159_2).trans rfl), ((cb HB hw159_3).trans rfl), ((cb HB hw159_4).trans rfl)⟩ (fun hHeld => ?_); clear hK K; refine nA 17 ?_; refine pA 5 18 HT_ ?_; refine pA 6 19 HT_ ?_; refine pB 7 20 HT_ ?_; refine pB 8 21 HT_ ?_; refine pB 9 22 HT_ ?_; refine pB 10 23 HT_ ?_; refine pB 11 24 HT_ ?_; refine pB 12 25 HT_ ?_; refine pB 13 26 HT_ ?_; refine pB 14 27 HT_ ?_; refine pB 15 28 HT_ ?_; refine pB 16 29 HT_ ?_; refine pB 17 30 HT_ ?_; refine pB 18 31 HT_ ?_; refine pB 19 32 HT_ ?_; refine pB 20 33 HT_ ?_; refine pB 21 34 HT_ ?_; refine pA 22 35 HT_ ?_; refine done_ (done_of HT_.out (by kernel_rfl)) ?_
              try go_wp2
              go_ret
              exact ⟨ff, bs HB⟩
          · rw [if_neg c4] at H
            exact absurd H (by simp)
        · rw [if_neg c3] at H; have c3b0 : decide (x3_1 < (l0.length : Int)) = false := decide_eq_false c3; clear c3; obtain rfl := Option.some.inj H
          go_wp2
          go_ret
          exact ⟨ff, bs HB⟩
end Go.Proofs.Ytefmkmhjbfpelaa.QR
