-- Merged by a program of this session (wip/tool/pack.py) out of its own texts for this claim.
import Derived.Test.YtjjfjgdhloideaaKFnExactBookItems0
import Derived.Test.YtjjfjgdhloideaaKFnExactBookItems1
import Derived.Test.YtjjfjgdhloideaaKFnExactBookItems2
namespace Go.Proofs.Ytjjfjgdhloideaa.QH
open Go.RowKit Go.Proofs.YtjjfjgdhloideaaW.PrintWords Go.Proofs.YtjjfjgdhloideaaW.PrintLast Go.Proofs.YtjjfjgdhloideaaW.PrintMore
attribute [local go_sem] max2_int min2_int max_two min_two max_three min_three max_four min_four   -- for this text's walks alone
set_option linter.unusedVariables false
set_option linter.unusedSimpArgs false
set_option maxHeartbeats 8000000 in
set_option maxRecDepth 100000 in
theorem spec_l01Name.calls (k : Nat) (a0 : ByteArray) (r : Bool) (w : World) (h : spec_l01Name.f k a0 = some r) :
    Calls Try.prog 24 #[.string a0] w fun e w' => e = .returned (.bool r) ∧ Drawn0 w w' := by
  have H : (if (a0.size : Int) < 1 then (spec_l01Name.j0 k a0 true) else (if (a0.size : Int) > 12 then (spec_l01Name.j0 k a0 true) else (if 0 < (a0.size : Int) then (if (bt a0 0) < 65 then (spec_l01Name.j0 k a0 true) else (spec_l01Name.j0 k a0 (decide ((bt a0 0) > 90)))) else (none)))) = some r := h; clear h; have HC2 := Aside0.mk H; clear H
  go_enter Try.func24, Try.ntmps24
  go_upto_region 1 with (fail)
  go_cut [22] (fun v22 wc => ∃ (kq : Nat) (x22_1 : Bool), v22 = .bool x22_1 ∧ Aside0 (spec_l01Name.j0 kq a0 x22_1 = some r) ∧ Aside0 (kq ≤ k) ∧ Drawn0 w wc)
  case first =>
    have H := HC2.out; clear HC2
    by_cases c3 : (a0.size : Int) < 1
    · rw [if_pos c3] at H; have c3b0 : decide ((a0.size : Int) < 1) = true := decide_eq_true c3; have c3b1 : decide (a0.size < 1) = true := decide_eq_true (by omega); clear c3
      (first | rw [c3b0] | (simp only [i64_w, i32_w]; rw [c3b0]) | skip)
      have H' := Aside0.mk H; clear H
      go_wp2
      go_meet
      case rel => exact ⟨_, (true), fg, H', ⟨fl⟩, by repeat (first | exact Drawn0.refl _ | apply Drawn0.step)⟩
    · rw [if_neg c3] at H; have c3b0 : decide ((a0.size : Int) < 1) = false := decide_eq_false c3; have c3b1 : decide (a0.size < 1) = false := decide_eq_false (by omega); clear c3
      (first | rw [c3b0] | (simp only [i64_w, i32_w]; rw [c3b0]) | skip)
      by_cases c4 : (a0.size : Int) > 12
      · rw [if_pos c4] at H; have c4b0 : decide (12 < (a0.size : Int)) = true := decide_eq_true c4; have c4b1 : decide (12 < a0.size) = true := decide_eq_true (by omega); clear c4; have H' := Aside0.mk H; clear H
        go_wp2
        go_meet
        case rel => exact ⟨_, (true), fg, H', ⟨fl⟩, by repeat (first | exact Drawn0.refl _ | apply Drawn0.step)⟩
      · rw [if_neg c4] at H; have c4b0 : decide (12 < (a0.size : Int)) = false := decide_eq_false c4; have c4b1 : decide (12 < a0.size) = false := decide_eq_false (by omega); clear c4
        by_cases c5 : 0 < (a0.size : Int)
        · rw [if_pos c5] at H; have c5b0 : decide (0 < (a0.size : Int)) = true := decide_eq_true c5; have c5b1 : decide (0 < a0.size) = true := decide_eq_true (by omega); clear c5
          by_cases c7 : (bt a0 0) < 65
          · rw [if_pos c7] at H; have c7b0 : decide ((bt a0 0) < 65) = true := decide_eq_true c7; clear c7; have H' := Aside0.mk H; clear H; have p6 : 0 ≤ (0 : Int) := (by omega); have q6 : 0 < a0.size := (by have : (0 : Int) < (a0.size : Int) := oa; omega); have hx6 : ∀ h : 0 < a0.size, ((a0[0]'h).toNat : Int) = bt a0 0 := bt_at a0 0; clear p6; have qi6 : (0 < (a0.size : Int)) = True := eq_true (oa); replace q6 := eq_true q6
            go_wp2
            go_meet
            case rel => exact ⟨_, (true), fg, H', ⟨fl⟩, by repeat (first | exact Drawn0.refl _ | apply Drawn0.step)⟩
          · rw [if_neg c7] at H; have c7b0 : decide ((bt a0 0) < 65) = false := decide_eq_false c7; clear c7; have H' := Aside0.mk H; clear H; have p6 : 0 ≤ (0 : Int) := (by omega); have q6 : 0 < a0.size := (by have : (0 : Int) < (a0.size : Int) := oa; omega); have hx6 : ∀ h : 0 < a0.size, ((a0[0]'h).toNat : Int) = bt a0 0 := bt_at a0 0; clear p6; have qi6 : (0 < (a0.size : Int)) = True := eq_true (oa); replace q6 := eq_true q6; have p8 : 0 ≤ (0 : Int) := (by omega); have q8 : 0 < a0.size := (by have : (0 : Int) < (a0.size : Int) := oa; omega); have hx8 : ∀ h : 0 < a0.size, ((a0[0]'h).toNat : Int) = bt a0 0 := bt_at a0 0; clear p8; have qi8 : (0 < (a0.size : Int)) = True := eq_true (oa); replace q8 := eq_true q8
            go_wp2
            go_meet
            case rel => exact ⟨_, (decide ((bt a0 0) > 90)), fg, H', ⟨fl⟩, by repeat (first | exact Drawn0.refl _ | apply Drawn0.step)⟩
        · rw [if_neg c5] at H
          exact absurd H (by simp)
  case rest =>
    clear HC2
    try clear c2
    try clear p2
    try clear c3
    try clear c3b0
    try clear c3b1
    try clear c4
    try clear c4b0
    try clear c4b1
    try clear c5
    try clear c5b0
    try clear c5b1
    try clear p6
    try clear q6
    try clear hx6
    try clear qi6
    try clear c7
    try clear c7b0
    try clear p8
    try clear q8
    try clear hx8
    try clear qi8
    try clear p6
    try clear p8
    try clear q6
    try clear q8
    obtain ⟨kq, x22_1, rfl, HA, HJ1, ⟨mc1, rfl⟩⟩ := hcut
    cases kq with
    | zero => exact absurd HA.out (by simp [spec_l01Name.j0])
    | succ kj1 =>
      have H := HA.out; clear HA; simp only [spec_l01Name.j0] at H
      by_cases c9 : x22_1 = true
      · subst c9
        have H1 : (some false) = some r := by rw [if_pos rfl] at H; exact H
        clear H; have H := H1; clear H1; obtain rfl := Option.some.inj H
        go_wp2
        go_ret
        exact ⟨fg, by repeat (first | exact Drawn0.refl _ | apply Drawn0.step)⟩
      · replace c9 := Bool.eq_false_iff.mpr c9; subst c9
        have H1 : (spec_l01Name.l0 kj1 a0 0) = some r := by rw [if_neg (show ¬ (false = true) by decide)] at H; exact H
        clear H; have H := H1; clear H1; have H' := Aside0.mk H; clear H
        go_wp2
        go_loopg [3] kj1 (fun kq v3 w' => ∃ (x3_2 : Int), v3 = .int .i64 x3_2 ∧ Aside0 (spec_l01Name.l0 kq a0 x3_2 = some r) ∧ Aside0 (kq ≤ kj1) ∧ Drawn0 w w')
        case atStart => exact ⟨(0), fg, H', ⟨Nat.le_refl _⟩, by repeat (first | exact Drawn0.refl _ | apply Drawn0.step)⟩
        case round =>
          clear H'
          try clear c1
          try clear c2
          try clear p2
          try clear c3
          try clear c3b0
          try clear c3b1
          try clear c4
          try clear c4b0
          try clear c4b1
          try clear c5
          try clear c5b0
          try clear c5b1
          try clear p6
          try clear q6
          try clear hx6
          try clear qi6
          try clear c7
          try clear c7b0
          try clear p8
          try clear q8
          try clear hx8
          try clear qi8
          try clear c9
          try clear p2
          try clear p6
          try clear p8
          try clear q6
          try clear q8
          obtain ⟨x3_2, rfl, HA, HK2, ⟨m2, rfl⟩⟩ := hrel
          cases gk with
          | zero => exact absurd HA.out (by simp [spec_l01Name.l0])
          | succ k2 =>
            have H := HA.out; clear HA; simp only [spec_l01Name.l0] at H
            by_cases c10 : x3_2 < (a0.size : Int)
            · rw [if_pos c10] at H; have c10b0 : decide (x3_2 < (a0.size : Int)) = true := decide_eq_true c10; clear c10
              by_cases c11 : 0 ≤ x3_2
              · rw [if_pos c11] at H; have c11b0 : decide (0 ≤ x3_2) = true := decide_eq_true c11; clear c11
                by_cases c13 : (bt a0 x3_2) ≥ 65
                · rw [if_pos c13] at H; have c13b0 : decide (65 ≤ (bt a0 x3_2)) = true := decide_eq_true c13; clear c13
                  by_cases c14 : (bt a0 x3_2) ≤ 90
                  · rw [if_pos c14] at H; have c14b0 : decide ((bt a0 x3_2) ≤ 90) = true := decide_eq_true c14; clear c14; have H' := Aside0.mk H; clear H; have p12 : 0 ≤ (x3_2 : Int) := oa; have q12 : x3_2 < (a0.size : Int) := oa; have hx12 := bt_at a0 x3_2; replace p12 := eq_true p12; replace q12 := eq_true q12
                    go_wp2
                    go_roundg k2
                    case measure => have := HJ1.out; have := HK2.out; omega
                    case rel => exact ⟨(wrap64 (x3_2 + 1)), fg, H', ⟨by have := HJ1.out; have := HK2.out; omega⟩, by repeat (first | exact Drawn0.refl _ | apply Drawn0.step)⟩
                  · rw [if_neg c14] at H; have c14b0 : decide ((bt a0 x3_2) ≤ 90) = false := decide_eq_false c14; clear c14
                    by_cases c15 : (bt a0 x3_2) ≥ 48
                    · rw [if_pos c15] at H; have c15b0 : decide (48 ≤ (bt a0 x3_2)) = true := decide_eq_true c15; clear c15
                      by_cases c16 : (bt a0 x3_2) ≤ 57
                      · rw [if_pos c16] at H; have c16b0 : decide ((bt a0 x3_2) ≤ 57) = true := decide_eq_true c16; clear c16; have H' := Aside0.mk H; clear H; have p12 : 0 ≤ (x3_2 : Int) := oa; have q12 : x3_2 < (a0.size : Int) := oa; have hx12 := bt_at a0 x3_2; replace p12 := eq_true p12; replace q12 := eq_true q12
                        go_wp2
                        go_roundg k2
                        case measure => have := HJ1.out; have := HK2.out; omega
                        case rel => exact ⟨(wrap64 (x3_2 + 1)), fg, H', ⟨by have := HJ1.out; have := HK2.out; omega⟩, by repeat (first | exact Drawn0.refl _ | apply Drawn0.step)⟩
                      · rw [if_neg c16] at H; have c16b0 : decide ((bt a0 x3_2) ≤ 57) = false := decide_eq_false c16; clear c16
                        by_cases c17 : ((bt a0 x3_2) = 45)
                        · rw [if_pos c17] at H; have c17b0 : ((bt a0 x3_2) == 45) = true := beq_iff_eq.mpr c17; have c17b1 : ((bt a0 x3_2) != 45) = false := bne_eq_false_iff_eq.mpr c17; clear c17; have H' := Aside0.mk H; clear H; have p12 : 0 ≤ (x3_2 : Int) := oa; have q12 : x3_2 < (a0.size : Int) := oa; have hx12 := bt_at a0 x3_2; replace p12 := eq_true p12; replace q12 := eq_true q12
                          go_wp2
                          go_roundg k2
                          case measure => have := HJ1.out; have := HK2.out; omega
                          case rel => exact ⟨(wrap64 (x3_2 + 1)), fg, H', ⟨by have := HJ1.out; have := HK2.out; omega⟩, by repeat (first | exact Drawn0.refl _ | apply Drawn0.step)⟩
                        · rw [if_neg c17] at H; have c17b0 : ((bt a0 x3_2) == 45) = false := beq_eq_false_iff_ne.mpr c17; have c17b1 : ((bt a0 x3_2) != 45) = true := bne_iff_ne.mpr c17; obtain rfl := Option.some.inj H; have p12 : 0 ≤ (x3_2 : Int) := oa; have q12 : x3_2 < (a0.size : Int) := oa; have hx12 := bt_at a0 x3_2; replace p12 := eq_true p12; replace q12 := eq_true q12
                          go_wp2
                          go_ret
                          exact ⟨fg, by repeat (first | exact Drawn0.refl _ | apply Drawn0.step)⟩
                    · rw [if_neg c15] at H; have c15b0 : decide (48 ≤ (bt a0 x3_2)) = false := decide_eq_false c15; clear c15
                      by_cases c18 : ((bt a0 x3_2) = 45)
                      · rw [if_pos c18] at H; have c18b0 : ((bt a0 x3_2) == 45) = true := beq_iff_eq.mpr c18; have c18b1 : ((bt a0 x3_2) != 45) = false := bne_eq_false_iff_eq.mpr c18; clear c18; have H' := Aside0.mk H; clear H; have p12 : 0 ≤ (x3_2 : Int) := oa; have q12 : x3_2 < (a0.size : Int) := oa; have hx12 := bt_at a0 x3_2; replace p12 := eq_true p12; replace q12 := eq_true q12
                        go_wp2
                        go_roundg k2
                        case measure => have := HJ1.out; have := HK2.out; omega
                        case rel => exact ⟨(wrap64 (x3_2 + 1)), fg, H', ⟨by have := HJ1.out; have := HK2.out; omega⟩, by repeat (first | exact Drawn0.refl _ | apply Drawn0.step)⟩
                      · rw [if_neg c18] at H; have c18b0 : ((bt a0 x3_2) == 45) = false := beq_eq_false_iff_ne.mpr c18; have c18b1 : ((bt a0 x3_2) != 45) = true := bne_iff_ne.mpr c18; obtain rfl := Option.some.inj H; have p12 : 0 ≤ (x3_2 : Int) := oa; have q12 : x3_2 < (a0.size : Int) := oa; have hx12 := bt_at a0 x3_2; replace p12 := eq_true p12; replace q12 := eq_true q12
                        go_wp2
                        go_ret
                        exact ⟨fg, by repeat (first | exact Drawn0.refl _ | apply Drawn0.step)⟩
                · rw [if_neg c13] at H; have c13b0 : decide (65 ≤ (bt a0 x3_2)) = false := decide_eq_false c13; clear c13
                  by_cases c19 : (bt a0 x3_2) ≥ 48
                  · rw [if_pos c19] at H; have c19b0 : decide (48 ≤ (bt a0 x3_2)) = true := decide_eq_true c19; clear c19
                    by_cases c20 : (bt a0 x3_2) ≤ 57
                    · rw [if_pos c20] at H; have c20b0 : decide ((bt a0 x3_2) ≤ 57) = true := decide_eq_true c20; clear c20; have H' := Aside0.mk H; clear H; have p12 : 0 ≤ (x3_2 : Int) := oa; have q12 : x3_2 < (a0.size : Int) := oa; have hx12 := bt_at a0 x3_2; replace p12 := eq_true p12; replace q12 := eq_true q12
                      go_wp2
                      go_roundg k2
                      case measure => have := HJ1.out; have := HK2.out; omega
                      case rel => exact ⟨(wrap64 (x3_2 + 1)), fg, H', ⟨by have := HJ1.out; have := HK2.out; omega⟩, by repeat (first | exact Drawn0.refl _ | apply Drawn0.step)⟩
                    · rw [if_neg c20] at H; have c20b0 : decide ((bt a0 x3_2) ≤ 57) = false := decide_eq_false c20; clear c20
                      by_cases c21 : ((bt a0 x3_2) = 45)
                      · rw [if_pos c21] at H; have c21b0 : ((bt a0 x3_2) == 45) = true := beq_iff_eq.mpr c21; have c21b1 : ((bt a0 x3_2) != 45) = false := bne_eq_false_iff_eq.mpr c21; clear c21; have H' := Aside0.mk H; clear H; have p12 : 0 ≤ (x3_2 : Int) := oa; have q12 : x3_2 < (a0.size : Int) := oa; have hx12 := bt_at a0 x3_2; replace p12 := eq_true p12; replace q12 := eq_true q12
                        go_wp2
                        go_roundg k2
                        case measure => have := HJ1.out; have := HK2.out; omega
                        case rel => exact ⟨(wrap64 (x3_2 + 1)), fg, H', ⟨by have := HJ1.out; have := HK2.out; omega⟩, by repeat (first | exact Drawn0.refl _ | apply Drawn0.step)⟩
                      · rw [if_neg c21] at H; have c21b0 : ((bt a0 x3_2) == 45) = false := beq_eq_false_iff_ne.mpr c21; have c21b1 : ((bt a0 x3_2) != 45) = true := bne_iff_ne.mpr c21; obtain rfl := Option.some.inj H; have p12 : 0 ≤ (x3_2 : Int) := oa; have q12 : x3_2 < (a0.size : Int) := oa; have hx12 := bt_at a0 x3_2; replace p12 := eq_true p12; replace q12 := eq_true q12
                        go_wp2
                        go_ret
                        exact ⟨fg, by repeat (first | exact Drawn0.refl _ | apply Drawn0.step)⟩
                  · rw [if_neg c19] at H; have c19b0 : decide (48 ≤ (bt a0 x3_2)) = false := decide_eq_false c19; clear c19
                    by_cases c22 : ((bt a0 x3_2) = 45)
                    · rw [if_pos c22] at H; have c22b0 : ((bt a0 x3_2) == 45) = true := beq_iff_eq.mpr c22; have c22b1 : ((bt a0 x3_2) != 45) = false := bne_eq_false_iff_eq.mpr c22; clear c22; have H' := Aside0.mk H; clear H; have p12 : 0 ≤ (x3_2 : Int) := oa; have q12 : x3_2 < (a0.size : Int) := oa; have hx12 := bt_at a0 x3_2; replace p12 := eq_true p12; replace q12 := eq_true q12
                      go_wp2
                      go_roundg k2
                      case measure => have := HJ1.out; have := HK2.out; omega
                      case rel => exact ⟨(wrap64 (x3_2 + 1)), fg, H', ⟨by have := HJ1.out; have := HK2.out; omega⟩, by repeat (first | exact Drawn0.refl _ | apply Drawn0.step)⟩
                    · rw [if_neg c22] at H; have c22b0 : ((bt a0 x3_2) == 45) = false := beq_eq_false_iff_ne.mpr c22; have c22b1 : ((bt a0 x3_2) != 45) = true := bne_iff_ne.mpr c22; obtain rfl := Option.some.inj H; have p12 : 0 ≤ (x3_2 : Int) := oa; have q12 : x3_2 < (a0.size : Int) := oa; have hx12 := bt_at a0 x3_2; replace p12 := eq_true p12; replace q12 := eq_true q12
                      go_wp2
                      go_ret
                      exact ⟨fg, by repeat (first | exact Drawn0.refl _ | apply Drawn0.step)⟩
              · rw [if_neg c11] at H
                exact absurd H (by simp)
            · rw [if_neg c10] at H; have c10b0 : decide (x3_2 < (a0.size : Int)) = false := decide_eq_false c10; clear c10; obtain rfl := Option.some.inj H
              go_wp2
              go_ret
              exact ⟨fg, by repeat (first | exact Drawn0.refl _ | apply Drawn0.step)⟩
end Go.Proofs.Ytjjfjgdhloideaa.QH
namespace Go.Proofs.Ytjjfjgdhloideaa.QH
open Go.RowKit Go.Proofs.YtjjfjgdhloideaaW.PrintWords Go.Proofs.YtjjfjgdhloideaaW.PrintLast Go.Proofs.YtjjfjgdhloideaaW.PrintMore
attribute [local go_sem] max2_int min2_int max_two min_two max_three min_three max_four min_four   -- for this text's walks alone
set_option linter.unusedVariables false
set_option linter.unusedSimpArgs false
set_option maxHeartbeats 8000000 in
set_option maxRecDepth 100000 in
theorem spec_l01Qty.calls (a0 : Int) (r : Bool) (w : World) (h : spec_l01Qty.f a0 = some r) :
    Calls Try.prog 122 #[.int .i64 a0] w fun e w' => e = .returned (.bool r) ∧ Drawn0 w w' := by
  have H : (if a0 ≥ 1 then (some (decide (a0 ≤ 1000000))) else (some false)) = some r := h; clear h
  by_cases c2 : a0 ≥ 1
  · rw [if_pos c2] at H; have c2b0 : decide (1 ≤ a0) = true := decide_eq_true c2; clear c2; obtain rfl := Option.some.inj H
    go_enter Try.func122, Try.ntmps122
    go_wp2
    go_ret
    exact ⟨fg, by repeat (first | exact Drawn0.refl _ | apply Drawn0.step)⟩
  · rw [if_neg c2] at H; have c2b0 : decide (1 ≤ a0) = false := decide_eq_false c2; clear c2; obtain rfl := Option.some.inj H
    go_enter Try.func122, Try.ntmps122
    go_wp2
    go_ret
    exact ⟨fg, by repeat (first | exact Drawn0.refl _ | apply Drawn0.step)⟩
end Go.Proofs.Ytjjfjgdhloideaa.QH
namespace Go.Proofs.Ytjjfjgdhloideaa.QH
open Go.RowKit Go.Proofs.YtjjfjgdhloideaaW.PrintWords Go.Proofs.YtjjfjgdhloideaaW.PrintLast Go.Proofs.YtjjfjgdhloideaaW.PrintMore
attribute [local go_sem] max2_int min2_int max_two min_two max_three min_three max_four min_four   -- for this text's walks alone
set_option linter.unusedVariables false
set_option linter.unusedSimpArgs false
set_option maxHeartbeats 8000000 in
set_option maxRecDepth 100000 in
theorem spec_LineRight.calls (k : Nat) (a0_0 : ByteArray) (a0_1 : ByteArray) (a0_2 : Int) (a0_3 : ByteArray) (a0_4 : Int) (a0_5 : Int) (a0_6 : Int) (a0_7 : Int) (r : Bool) (w : World) (h : spec_LineRight.f k a0_0 a0_1 a0_2 a0_3 a0_4 a0_5 a0_6 a0_7 = some r) :
    Calls Try.prog 108 #[.agg #[.string a0_0, .string a0_1, .int .i64 a0_2, .string a0_3, .int .i64 a0_4, .int .i64 a0_5, .int .i64 a0_6, .int .i64 a0_7]] w fun e w' => e = .returned (.bool r) ∧ Below w.heap.size w w' := by
  have hu73 := Try.underlying73; have HB := Aside0.mk (Below.refl w.heap.size w); have H : ((spec_l01Name.f k a0_0).bind fun t146 => (if t146 = true then ((spec_l01Name.f k a0_1).bind fun t147 => (if t147 = true then ((spec_l01Name.f k a0_3).bind fun t148 => (if t148 = true then (if a0_2 ≥ 1 then (if a0_2 ≤ 999 then ((spec_l01Qty.f a0_4).bind fun t149 => (if t149 = true then (if a0_5 ≥ 0 then (if a0_6 ≥ 0 then (if a0_7 ≥ 0 then (if a0_6 ≤ a0_5 then (if a0_5 ≤ a0_4 then (some (decide (a0_7 ≤ (wrap64 (a0_4 - a0_5))))) else (some false)) else (some false)) else (some false)) else (some false)) else (some false)) else (some false))) else (some false)) else (some false)) else (some false))) else (some false))) else (some false))) = some r := h; clear h; replace H := Option.bind_eq_some_iff.mp H; obtain ⟨t146, A20, H⟩ := H; replace H : (if t146 = true then ((spec_l01Name.f k a0_1).bind fun t147 => (if t147 = true then ((spec_l01Name.f k a0_3).bind fun t148 => (if t148 = true then (if a0_2 ≥ 1 then (if a0_2 ≤ 999 then ((spec_l01Qty.f a0_4).bind fun t149 => (if t149 = true then (if a0_5 ≥ 0 then (if a0_6 ≥ 0 then (if a0_7 ≥ 0 then (if a0_6 ≤ a0_5 then (if a0_5 ≤ a0_4 then (some (decide (a0_7 ≤ (wrap64 (a0_4 - a0_5))))) else (some false)) else (some false)) else (some false)) else (some false)) else (some false)) else (some false))) else (some false)) else (some false)) else (some false))) else (some false))) else (some false)) = some r := H; have A2 := Aside0.mk A20; clear A20
  go_enter Try.func108, Try.ntmps108
  try go_wp2_with (first | ((with_reducible refine gate_dst (N := 1) rfl ?_); refine bx 1 (cs := #[.string a0_0, .string a0_1, .int .i64 a0_2, .string a0_3, .int .i64 a0_4, .int .i64 a0_5, .int .i64 a0_6, .int .i64 a0_7]) (t := 73) ?_; intro gb145 hg w3 hbox hb; have BK145 := Aside0.mk (hbox); have GW145 := Aside0.mk ((gs hg (bs HB))); have GE145 := Aside0.mk ((gs hg (bs HB))); replace HB := Aside0.mk (below_step (bs HB) hb); clear hb hbox hg; obtain ⟨hcz4_0, hcz4_1, hcz4_2, hcz4_3, hcz4_4, hcz4_5, hcz4_6, hcz4_7, hfz4_0, hfz4_1, hfz4_2, hfz4_3, hfz4_4, hfz4_5, hfz4_6, hfz4_7⟩ := cf8 BK145))
  go_at_call 24; (with_reducible refine (spec_l01Name.calls k a0_0 t146 _ A2.out).mono ?_); rintro e w' ⟨rfl, ⟨nd, rfl⟩⟩
  by_cases c5 : t146 = true
  · subst c5
    have H1 : ((spec_l01Name.f k a0_1).bind fun t147 => (if t147 = true then ((spec_l01Name.f k a0_3).bind fun t148 => (if t148 = true then (if a0_2 ≥ 1 then (if a0_2 ≤ 999 then ((spec_l01Qty.f a0_4).bind fun t149 => (if t149 = true then (if a0_5 ≥ 0 then (if a0_6 ≥ 0 then (if a0_7 ≥ 0 then (if a0_6 ≤ a0_5 then (if a0_5 ≤ a0_4 then (some (decide (a0_7 ≤ (wrap64 (a0_4 - a0_5))))) else (some false)) else (some false)) else (some false)) else (some false)) else (some false)) else (some false))) else (some false)) else (some false)) else (some false))) else (some false))) = some r := by rw [if_pos rfl] at H; exact H
    clear H; have H := H1; clear H1; replace H := Option.bind_eq_some_iff.mp H; obtain ⟨t147, A60, H⟩ := H; replace H : (if t147 = true then ((spec_l01Name.f k a0_3).bind fun t148 => (if t148 = true then (if a0_2 ≥ 1 then (if a0_2 ≤ 999 then ((spec_l01Qty.f a0_4).bind fun t149 => (if t149 = true then (if a0_5 ≥ 0 then (if a0_6 ≥ 0 then (if a0_7 ≥ 0 then (if a0_6 ≤ a0_5 then (if a0_5 ≤ a0_4 then (some (decide (a0_7 ≤ (wrap64 (a0_4 - a0_5))))) else (some false)) else (some false)) else (some false)) else (some false)) else (some false)) else (some false))) else (some false)) else (some false)) else (some false))) else (some false)) = some r := H; have A6 := Aside0.mk A60; clear A60; obtain ⟨hcz7_0, hcz7_1, hcz7_2, hcz7_3, hcz7_4, hcz7_5, hcz7_6, hcz7_7, hfz7_0, hfz7_1, hfz7_2, hfz7_3, hfz7_4, hfz7_5, hfz7_6, hfz7_7⟩ := cf8 BK145
    try go_wp2_with (fail)
    go_at_call 24; (with_reducible refine (spec_l01Name.calls k a0_1 t147 _ A6.out).mono ?_); rintro e w' ⟨rfl, ⟨nd, rfl⟩⟩
    by_cases c8 : t147 = true
    · subst c8
      have H1 : ((spec_l01Name.f k a0_3).bind fun t148 => (if t148 = true then (if a0_2 ≥ 1 then (if a0_2 ≤ 999 then ((spec_l01Qty.f a0_4).bind fun t149 => (if t149 = true then (if a0_5 ≥ 0 then (if a0_6 ≥ 0 then (if a0_7 ≥ 0 then (if a0_6 ≤ a0_5 then (if a0_5 ≤ a0_4 then (some (decide (a0_7 ≤ (wrap64 (a0_4 - a0_5))))) else (some false)) else (some false)) else (some false)) else (some false)) else (some false)) else (some false))) else (some false)) else (some false)) else (some false))) = some r := by rw [if_pos rfl] at H; exact H
      clear H; have H := H1; clear H1; replace H := Option.bind_eq_some_iff.mp H; obtain ⟨t148, A90, H⟩ := H; replace H : (if t148 = true then (if a0_2 ≥ 1 then (if a0_2 ≤ 999 then ((spec_l01Qty.f a0_4).bind fun t149 => (if t149 = true then (if a0_5 ≥ 0 then (if a0_6 ≥ 0 then (if a0_7 ≥ 0 then (if a0_6 ≤ a0_5 then (if a0_5 ≤ a0_4 then (some (decide (a0_7 ≤ (wrap64 (a0_4 - a0_5))))) else (some false)) else (some false)) else (some false)) else (some false)) else (some false)) else (some false))) else (some false)) else (some false)) else (some false)) = some r := H; have A9 := Aside0.mk A90; clear A90; obtain ⟨hcz10_0, hcz10_1, hcz10_2, hcz10_3, hcz10_4, hcz10_5, hcz10_6, hcz10_7, hfz10_0, hfz10_1, hfz10_2, hfz10_3, hfz10_4, hfz10_5, hfz10_6, hfz10_7⟩ := cf8 BK145
      try go_wp2_with (fail)
      go_at_call 24; (with_reducible refine (spec_l01Name.calls k a0_3 t148 _ A9.out).mono ?_); rintro e w' ⟨rfl, ⟨nd, rfl⟩⟩
      by_cases c11 : t148 = true
      · subst c11
        have H1 : (if a0_2 ≥ 1 then (if a0_2 ≤ 999 then ((spec_l01Qty.f a0_4).bind fun t149 => (if t149 = true then (if a0_5 ≥ 0 then (if a0_6 ≥ 0 then (if a0_7 ≥ 0 then (if a0_6 ≤ a0_5 then (if a0_5 ≤ a0_4 then (some (decide (a0_7 ≤ (wrap64 (a0_4 - a0_5))))) else (some false)) else (some false)) else (some false)) else (some false)) else (some false)) else (some false))) else (some false)) else (some false)) = some r := by rw [if_pos rfl] at H; exact H
        clear H; have H := H1; clear H1
        by_cases c12 : a0_2 ≥ 1
        · rw [if_pos c12] at H; have c12b0 : decide (1 ≤ a0_2) = true := decide_eq_true c12; clear c12
          by_cases c13 : a0_2 ≤ 999
          · rw [if_pos c13] at H; have c13b0 : decide (a0_2 ≤ 999) = true := decide_eq_true c13; clear c13; replace H := Option.bind_eq_some_iff.mp H; obtain ⟨t149, A140, H⟩ := H; replace H : (if t149 = true then (if a0_5 ≥ 0 then (if a0_6 ≥ 0 then (if a0_7 ≥ 0 then (if a0_6 ≤ a0_5 then (if a0_5 ≤ a0_4 then (some (decide (a0_7 ≤ (wrap64 (a0_4 - a0_5))))) else (some false)) else (some false)) else (some false)) else (some false)) else (some false)) else (some false)) = some r := H; have A14 := Aside0.mk A140; clear A140; obtain ⟨hcz15_0, hcz15_1, hcz15_2, hcz15_3, hcz15_4, hcz15_5, hcz15_6, hcz15_7, hfz15_0, hfz15_1, hfz15_2, hfz15_3, hfz15_4, hfz15_5, hfz15_6, hfz15_7⟩ := cf8 BK145
            try go_wp2_with (fail)
            go_at_call 122; (with_reducible refine (spec_l01Qty.calls a0_4 t149 _ A14.out).mono ?_); rintro e w' ⟨rfl, ⟨nd, rfl⟩⟩
            by_cases c16 : t149 = true
            · subst c16
              have H1 : (if a0_5 ≥ 0 then (if a0_6 ≥ 0 then (if a0_7 ≥ 0 then (if a0_6 ≤ a0_5 then (if a0_5 ≤ a0_4 then (some (decide (a0_7 ≤ (wrap64 (a0_4 - a0_5))))) else (some false)) else (some false)) else (some false)) else (some false)) else (some false)) = some r := by rw [if_pos rfl] at H; exact H
              clear H; have H := H1; clear H1
              by_cases c17 : a0_5 ≥ 0
              · rw [if_pos c17] at H; have c17b0 : decide (0 ≤ a0_5) = true := decide_eq_true c17; clear c17
                by_cases c18 : a0_6 ≥ 0
                · rw [if_pos c18] at H; have c18b0 : decide (0 ≤ a0_6) = true := decide_eq_true c18; clear c18
                  by_cases c19 : a0_7 ≥ 0
                  · rw [if_pos c19] at H; have c19b0 : decide (0 ≤ a0_7) = true := decide_eq_true c19; clear c19
                    by_cases c20 : a0_6 ≤ a0_5
                    · rw [if_pos c20] at H; have c20b0 : decide (a0_6 ≤ a0_5) = true := decide_eq_true c20; clear c20
                      by_cases c21 : a0_5 ≤ a0_4
                      · rw [if_pos c21] at H; have c21b0 : decide (a0_5 ≤ a0_4) = true := decide_eq_true c21; clear c21; obtain rfl := Option.some.inj H; obtain ⟨hcz22_0, hcz22_1, hcz22_2, hcz22_3, hcz22_4, hcz22_5, hcz22_6, hcz22_7, hfz22_0, hfz22_1, hfz22_2, hfz22_3, hfz22_4, hfz22_5, hfz22_6, hfz22_7⟩ := cf8 BK145
                        go_wp2
                        go_ret
                        exact ⟨ff, bs HB⟩
                      · rw [if_neg c21] at H; have c21b0 : decide (a0_5 ≤ a0_4) = false := decide_eq_false c21; clear c21; obtain rfl := Option.some.inj H; obtain ⟨hcz23_0, hcz23_1, hcz23_2, hcz23_3, hcz23_4, hcz23_5, hcz23_6, hcz23_7, hfz23_0, hfz23_1, hfz23_2, hfz23_3, hfz23_4, hfz23_5, hfz23_6, hfz23_7⟩ := cf8 BK145
                        go_wp2
                        go_ret
                        exact ⟨ff, bs HB⟩
                    · rw [if_neg c20] at H; have c20b0 : decide (a0_6 ≤ a0_5) = false := decide_eq_false c20; clear c20; obtain rfl := Option.some.inj H; obtain ⟨hcz24_0, hcz24_1, hcz24_2, hcz24_3, hcz24_4, hcz24_5, hcz24_6, hcz24_7, hfz24_0, hfz24_1, hfz24_2, hfz24_3, hfz24_4, hfz24_5, hfz24_6, hfz24_7⟩ := cf8 BK145
                      go_wp2
                      go_ret
                      exact ⟨ff, bs HB⟩
                  · rw [if_neg c19] at H; have c19b0 : decide (0 ≤ a0_7) = false := decide_eq_false c19; clear c19; obtain rfl := Option.some.inj H; obtain ⟨hcz25_0, hcz25_1, hcz25_2, hcz25_3, hcz25_4, hcz25_5, hcz25_6, hcz25_7, hfz25_0, hfz25_1, hfz25_2, hfz25_3, hfz25_4, hfz25_5, hfz25_6, hfz25_7⟩ := cf8 BK145
                    go_wp2
                    go_ret
                    exact ⟨ff, bs HB⟩
                · rw [if_neg c18] at H; have c18b0 : decide (0 ≤ a0_6) = false := decide_eq_false c18; clear c18; obtain rfl := Option.some.inj H; obtain ⟨hcz26_0, hcz26_1, hcz26_2, hcz26_3, hcz26_4, hcz26_5, hcz26_6, hcz26_7, hfz26_0, hfz26_1, hfz26_2, hfz26_3, hfz26_4, hfz26_5, hfz26_6, hfz26_7⟩ := cf8 BK145
                  go_wp2
                  go_ret
                  exact ⟨ff, bs HB⟩
              · rw [if_neg c17] at H; have c17b0 : decide (0 ≤ a0_5) = false := decide_eq_false c17; clear c17; obtain rfl := Option.some.inj H; obtain ⟨hcz27_0, hcz27_1, hcz27_2, hcz27_3, hcz27_4, hcz27_5, hcz27_6, hcz27_7, hfz27_0, hfz27_1, hfz27_2, hfz27_3, hfz27_4, hfz27_5, hfz27_6, hfz27_7⟩ := cf8 BK145
                go_wp2
                go_ret
                exact ⟨ff, bs HB⟩
            · replace c16 := Bool.eq_false_iff.mpr c16; subst c16
              have H1 : (some false) = some r := by rw [if_neg (show ¬ (false = true) by decide)] at H; exact H
              clear H; have H := H1; clear H1; obtain rfl := Option.some.inj H
              go_wp2
              go_ret
              exact ⟨ff, bs HB⟩
          · rw [if_neg c13] at H; have c13b0 : decide (a0_2 ≤ 999) = false := decide_eq_false c13; clear c13; obtain rfl := Option.some.inj H; obtain ⟨hcz28_0, hcz28_1, hcz28_2, hcz28_3, hcz28_4, hcz28_5, hcz28_6, hcz28_7, hfz28_0, hfz28_1, hfz28_2, hfz28_3, hfz28_4, hfz28_5, hfz28_6, hfz28_7⟩ := cf8 BK145
            go_wp2
            go_ret
            exact ⟨ff, bs HB⟩
        · rw [if_neg c12] at H; have c12b0 : decide (1 ≤ a0_2) = false := decide_eq_false c12; clear c12; obtain rfl := Option.some.inj H; obtain ⟨hcz29_0, hcz29_1, hcz29_2, hcz29_3, hcz29_4, hcz29_5, hcz29_6, hcz29_7, hfz29_0, hfz29_1, hfz29_2, hfz29_3, hfz29_4, hfz29_5, hfz29_6, hfz29_7⟩ := cf8 BK145
          go_wp2
          go_ret
          exact ⟨ff, bs HB⟩
      · replace c11 := Bool.eq_false_iff.mpr c11; subst c11
        have H1 : (some false) = some r := by rw [if_neg (show ¬ (false = true) by decide)] at H; exact H
        clear H; have H := H1; clear H1; obtain rfl := Option.some.inj H
        go_wp2
        go_ret
        exact ⟨ff, bs HB⟩
    · replace c8 := Bool.eq_false_iff.mpr c8; subst c8
      have H1 : (some false) = some r := by rw [if_neg (show ¬ (false = true) by decide)] at H; exact H
      clear H; have H := H1; clear H1; obtain rfl := Option.some.inj H
      go_wp2
      go_ret
      exact ⟨ff, bs HB⟩
  · replace c5 := Bool.eq_false_iff.mpr c5; subst c5
    have H1 : (some false) = some r := by rw [if_neg (show ¬ (false = true) by decide)] at H; exact H
    clear H; have H := H1; clear H1; obtain rfl := Option.some.inj H
    go_wp2
    go_ret
    exact ⟨ff, bs HB⟩
end Go.Proofs.Ytjjfjgdhloideaa.QH
namespace Go.Proofs.Ytjjfjgdhloideaa.QH
open Go.RowKit Go.Proofs.YtjjfjgdhloideaaW.PrintWords Go.Proofs.YtjjfjgdhloideaaW.PrintLast Go.Proofs.YtjjfjgdhloideaaW.PrintMore
attribute [local go_sem] max2_int min2_int max_two min_two max_three min_three max_four min_four   -- for this text's walks alone
set_option linter.unusedVariables false
set_option linter.unusedSimpArgs false
set_option maxHeartbeats 8000000 in
set_option maxRecDepth 100000 in
theorem spec_l09Before.calls (a0_0 : ByteArray) (a0_1 : ByteArray) (a0_2 : Int) (a0_3 : ByteArray) (a0_4 : Int) (a0_5 : Int) (a0_6 : Int) (a0_7 : Int) (a1_0 : ByteArray) (a1_1 : ByteArray) (a1_2 : Int) (a1_3 : ByteArray) (a1_4 : Int) (a1_5 : Int) (a1_6 : Int) (a1_7 : Int) (r : Bool) (w : World) (h : spec_l09Before.f a0_0 a0_1 a0_2 a0_3 a0_4 a0_5 a0_6 a0_7 a1_0 a1_1 a1_2 a1_3 a1_4 a1_5 a1_6 a1_7 = some r) :
    Calls Try.prog 109 #[.agg #[.string a0_0, .string a0_1, .int .i64 a0_2, .string a0_3, .int .i64 a0_4, .int .i64 a0_5, .int .i64 a0_6, .int .i64 a0_7], .agg #[.string a1_0, .string a1_1, .int .i64 a1_2, .string a1_3, .int .i64 a1_4, .int .i64 a1_5, .int .i64 a1_6, .int .i64 a1_7]] w fun e w' => e = .returned (.bool r) ∧ Below w.heap.size w w' := by
  have hu73 := Try.underlying73; have HB := Aside0.mk (Below.refl w.heap.size w); have H : (if a0_0.toList = a1_0.toList then (if a0_1.toList = a1_1.toList then (some (decide (a0_2 < a1_2))) else (some (Op.bytesLess a0_1.toList a1_1.toList))) else (some (Op.bytesLess a0_0.toList a1_0.toList))) = some r := h; clear h
  by_cases c3 : a0_0.toList = a1_0.toList
  · rw [if_pos c3] at H; have c3b0 : (a0_0.toList == a1_0.toList) = true := beq_iff_eq.mpr c3; have c3b1 : (a0_0.toList != a1_0.toList) = false := bne_eq_false_iff_eq.mpr c3; clear c3
    by_cases c4 : a0_1.toList = a1_1.toList
    · rw [if_pos c4] at H; have c4b0 : (a0_1.toList == a1_1.toList) = true := beq_iff_eq.mpr c4; have c4b1 : (a0_1.toList != a1_1.toList) = false := bne_eq_false_iff_eq.mpr c4; clear c4; obtain rfl := Option.some.inj H
      go_enter Try.func109, Try.ntmps109
      go_wp2_with (first | ((with_reducible refine gate_dst (N := 2) rfl ?_); refine bx 2 (cs := #[.string a0_0, .string a0_1, .int .i64 a0_2, .string a0_3, .int .i64 a0_4, .int .i64 a0_5, .int .i64 a0_6, .int .i64 a0_7]) (t := 73) ?_; intro gb150 hg w5 hbox hb; have BK150 := Aside0.mk (hbox); have GW150 := Aside0.mk ((gs hg (bs HB))); have GE150 := Aside0.mk ((gs hg (bs HB))); replace HB := Aside0.mk (below_step (bs HB) hb); clear hb hbox hg) | ((with_reducible refine gate_dst (N := 3) rfl ?_); refine bx 3 (cs := #[.string a1_0, .string a1_1, .int .i64 a1_2, .string a1_3, .int .i64 a1_4, .int .i64 a1_5, .int .i64 a1_6, .int .i64 a1_7]) (t := 73) ?_; intro gb151 hg w6 hbox hb; have BK151 := Aside0.mk (hbox); have GW151 := Aside0.mk ((gs hg (bs HB))); have GE151 := Aside0.mk ((gs hg (bs HB))); replace HB := Aside0.mk (below_step (bs HB) hb); have NB150_151 := Aside0.mk ((gn hg (ks BK150))); have NB151_150 := Aside0.mk ((gm hg (ks BK150))); replace BK150 := Aside0.mk (blk_below (ks BK150) hb); clear hb hbox hg; have hnb7 := NB150_151.out; have hnc7 := NB151_150.out; obtain ⟨hcz8_0, hcz8_1, hcz8_2, hcz8_3, hcz8_4, hcz8_5, hcz8_6, hcz8_7, hfz8_0, hfz8_1, hfz8_2, hfz8_3, hfz8_4, hfz8_5, hfz8_6, hfz8_7⟩ := cf8 BK150; obtain ⟨hcz9_0, hcz9_1, hcz9_2, hcz9_3, hcz9_4, hcz9_5, hcz9_6, hcz9_7, hfz9_0, hfz9_1, hfz9_2, hfz9_3, hfz9_4, hfz9_5, hfz9_6, hfz9_7⟩ := cf8 BK151))
      go_ret
      exact ⟨ff, bs HB⟩
    · rw [if_neg c4] at H; have c4b0 : (a0_1.toList == a1_1.toList) = false := beq_eq_false_iff_ne.mpr c4; have c4b1 : (a0_1.toList != a1_1.toList) = true := bne_iff_ne.mpr c4; obtain rfl := Option.some.inj H
      go_enter Try.func109, Try.ntmps109
      go_wp2_with (first | ((with_reducible refine gate_dst (N := 2) rfl ?_); refine bx 2 (cs := #[.string a0_0, .string a0_1, .int .i64 a0_2, .string a0_3, .int .i64 a0_4, .int .i64 a0_5, .int .i64 a0_6, .int .i64 a0_7]) (t := 73) ?_; intro gb150 hg w10 hbox hb; have BK150 := Aside0.mk (hbox); have GW150 := Aside0.mk ((gs hg (bs HB))); have GE150 := Aside0.mk ((gs hg (bs HB))); replace HB := Aside0.mk (below_step (bs HB) hb); clear hb hbox hg) | ((with_reducible refine gate_dst (N := 3) rfl ?_); refine bx 3 (cs := #[.string a1_0, .string a1_1, .int .i64 a1_2, .string a1_3, .int .i64 a1_4, .int .i64 a1_5, .int .i64 a1_6, .int .i64 a1_7]) (t := 73) ?_; intro gb151 hg w11 hbox hb; have BK151 := Aside0.mk (hbox); have GW151 := Aside0.mk ((gs hg (bs HB))); have GE151 := Aside0.mk ((gs hg (bs HB))); replace HB := Aside0.mk (below_step (bs HB) hb); have NB150_151 := Aside0.mk ((gn hg (ks BK150))); have NB151_150 := Aside0.mk ((gm hg (ks BK150))); replace BK150 := Aside0.mk (blk_below (ks BK150) hb); clear hb hbox hg; have hnb12 := NB150_151.out; have hnc12 := NB151_150.out; obtain ⟨hcz13_0, hcz13_1, hcz13_2, hcz13_3, hcz13_4, hcz13_5, hcz13_6, hcz13_7, hfz13_0, hfz13_1, hfz13_2, hfz13_3, hfz13_4, hfz13_5, hfz13_6, hfz13_7⟩ := cf8 BK150; obtain ⟨hcz14_0, hcz14_1, hcz14_2, hcz14_3, hcz14_4, hcz14_5, hcz14_6, hcz14_7, hfz14_0, hfz14_1, hfz14_2, hfz14_3, hfz14_4, hfz14_5, hfz14_6, hfz14_7⟩ := cf8 BK151))
      go_ret
      exact ⟨ff, bs HB⟩
  · rw [if_neg c3] at H; have c3b0 : (a0_0.toList == a1_0.toList) = false := beq_eq_false_iff_ne.mpr c3; have c3b1 : (a0_0.toList != a1_0.toList) = true := bne_iff_ne.mpr c3; obtain rfl := Option.some.inj H
    go_enter Try.func109, Try.ntmps109
    go_wp2_with (first | ((with_reducible refine gate_dst (N := 2) rfl ?_); refine bx 2 (cs := #[.string a0_0, .string a0_1, .int .i64 a0_2, .string a0_3, .int .i64 a0_4, .int .i64 a0_5, .int .i64 a0_6, .int .i64 a0_7]) (t := 73) ?_; intro gb150 hg w15 hbox hb; have BK150 := Aside0.mk (hbox); have GW150 := Aside0.mk ((gs hg (bs HB))); have GE150 := Aside0.mk ((gs hg (bs HB))); replace HB := Aside0.mk (below_step (bs HB) hb); clear hb hbox hg) | ((with_reducible refine gate_dst (N := 3) rfl ?_); refine bx 3 (cs := #[.string a1_0, .string a1_1, .int .i64 a1_2, .string a1_3, .int .i64 a1_4, .int .i64 a1_5, .int .i64 a1_6, .int .i64 a1_7]) (t := 73) ?_; intro gb151 hg w16 hbox hb; have BK151 := Aside0.mk (hbox); have GW151 := Aside0.mk ((gs hg (bs HB))); have GE151 := Aside0.mk ((gs hg (bs HB))); replace HB := Aside0.mk (below_step (bs HB) hb); have NB150_151 := Aside0.mk ((gn hg (ks BK150))); have NB151_150 := Aside0.mk ((gm hg (ks BK150))); replace BK150 := Aside0.mk (blk_below (ks BK150) hb); clear hb hbox hg; have hnb17 := NB150_151.out; have hnc17 := NB151_150.out; obtain ⟨hcz18_0, hcz18_1, hcz18_2, hcz18_3, hcz18_4, hcz18_5, hcz18_6, hcz18_7, hfz18_0, hfz18_1, hfz18_2, hfz18_3, hfz18_4, hfz18_5, hfz18_6, hfz18_7⟩ := cf8 BK150; obtain ⟨hcz19_0, hcz19_1, hcz19_2, hcz19_3, hcz19_4, hcz19_5, hcz19_6, hcz19_7, hfz19_0, hfz19_1, hfz19_2, hfz19_3, hfz19_4, hfz19_5, hfz19_6, hfz19_7⟩ := cf8 BK151))
    go_ret
    exact ⟨ff, bs HB⟩
end Go.Proofs.Ytjjfjgdhloideaa.QH
