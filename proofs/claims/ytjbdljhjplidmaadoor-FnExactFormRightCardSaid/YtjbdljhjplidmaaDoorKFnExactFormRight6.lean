-- Merged by a program of this session (wip/tool/pack.py) out of its own texts for this claim.
import Derived.Test.YtjbdljhjplidmaaDoorKFnExactFormRight0
import Derived.Test.YtjbdljhjplidmaaDoorKFnExactFormRight1
import Derived.Test.YtjbdljhjplidmaaDoorKFnExactFormRight2
import Derived.Test.YtjbdljhjplidmaaDoorKFnExactFormRight5
namespace Go.Proofs.YtjbdljhjplidmaaDoor.QE
open Go.RowKit Go.Proofs.YtjbdljhjplidmaaDoorW.PrintWords Go.Proofs.YtjbdljhjplidmaaDoorW.PrintLast Go.Proofs.YtjbdljhjplidmaaDoorW.PrintMore
attribute [local go_sem] max2_int min2_int max_two min_two max_three min_three max_four min_four   -- for this text's walks alone
set_option linter.unusedVariables false
set_option linter.unusedSimpArgs false
set_option maxHeartbeats 8000000 in
set_option maxRecDepth 100000 in
theorem impl_isName.calls (k : Nat) (a0 : ByteArray) (r : Bool) (w : World) (h : impl_isName.f k a0 = some r) :
    Calls Tryd.prog 60 #[.string a0] w fun e w' => e = .returned (.bool r) ∧ Drawn0 w w' := by
  have H : (impl_isName.l0 k a0 (a0.size : Int) 0) = some r := h; clear h; have H' := Aside0.mk H; clear H
  go_enter Tryd.func60, Tryd.ntmps60
  go_wp2
  go_loopg [6] k (fun kq v6 w' => ∃ (x6_1 : Int), v6 = .int .i64 x6_1 ∧ Aside0 (impl_isName.l0 kq a0 (a0.size : Int) x6_1 = some r) ∧ Aside0 (kq ≤ k) ∧ Drawn0 w w')
  case atStart => exact ⟨(0), fg, H', ⟨Nat.le_refl _⟩, by repeat (first | exact Drawn0.refl _ | apply Drawn0.step)⟩
  case round =>
    clear H'; obtain ⟨x6_1, rfl, HA, HK1, ⟨m1, rfl⟩⟩ := hrel
    cases gk with
    | zero => exact absurd HA.out (by simp [impl_isName.l0])
    | succ k1 =>
      have H := HA.out; clear HA; simp only [impl_isName.l0] at H
      by_cases c2 : x6_1 < (a0.size : Int)
      · rw [if_pos c2] at H; have c2b0 : decide (x6_1 < (a0.size : Int)) = true := decide_eq_true c2; clear c2
        by_cases c3 : 0 ≤ x6_1
        · rw [if_pos c3] at H; have c3b0 : decide (0 ≤ x6_1) = true := decide_eq_true c3; clear c3
          by_cases c4 : x6_1 < (a0.size : Int)
          · rw [if_pos c4] at H; have c4b0 : decide (x6_1 < (a0.size : Int)) = true := decide_eq_true c4; clear c4; replace H := Option.bind_eq_some_iff.mp H; obtain ⟨t179, A60, H⟩ := H; replace H : (if t179 = true then (impl_isName.l0 k1 a0 (a0.size : Int) (wrap64 (x6_1 + 1))) else (if x6_1 = 0 then (some false) else ((impl_isDigit.f (bt a0 x6_1)).bind fun t180 => (if t180 = true then (impl_isName.l0 k1 a0 (a0.size : Int) (wrap64 (x6_1 + 1))) else (if (bt a0 x6_1) = 45 then (impl_isName.l0 k1 a0 (a0.size : Int) (wrap64 (x6_1 + 1))) else (some false)))))) = some r := H; have A6 := Aside0.mk A60; clear A60; have p5 : 0 ≤ (x6_1 : Int) := oa; have q5 : x6_1 < (a0.size : Int) := oa; have hx5 := bt_at a0 x6_1; replace p5 := eq_true p5; replace q5 := eq_true q5
            try go_wp2_with (fail)
            go_at_call 78; (with_reducible refine (impl_isGreat.calls (bt a0 x6_1) t179 _ A6.out).mono ?_); rintro e w' ⟨rfl, ⟨nd, rfl⟩⟩
            by_cases c7 : t179 = true
            · subst c7
              have H1 : (impl_isName.l0 k1 a0 (a0.size : Int) (wrap64 (x6_1 + 1))) = some r := by rw [if_pos rfl] at H; exact H
              clear H; have H := H1; clear H1; have H' := Aside0.mk H; clear H
              go_wp2
              go_roundg k1
              case measure => have := HK1.out; omega
              case rel => exact ⟨(wrap64 (x6_1 + 1)), fg, H', ⟨by have := HK1.out; omega⟩, by repeat (first | exact Drawn0.refl _ | apply Drawn0.step)⟩
            · replace c7 := Bool.eq_false_iff.mpr c7; subst c7
              have H1 : (if x6_1 = 0 then (some false) else ((impl_isDigit.f (bt a0 x6_1)).bind fun t180 => (if t180 = true then (impl_isName.l0 k1 a0 (a0.size : Int) (wrap64 (x6_1 + 1))) else (if (bt a0 x6_1) = 45 then (impl_isName.l0 k1 a0 (a0.size : Int) (wrap64 (x6_1 + 1))) else (some false))))) = some r := by rw [if_neg (show ¬ (false = true) by decide)] at H; exact H
              clear H; have H := H1; clear H1
              by_cases c8 : x6_1 = 0
              · rw [if_pos c8] at H; have c8b0 : (x6_1 == 0) = true := beq_iff_eq.mpr c8; have c8b1 : (x6_1 != 0) = false := bne_eq_false_iff_eq.mpr c8; clear c8; obtain rfl := Option.some.inj H
                go_wp2
                go_ret
                exact ⟨fg, by repeat (first | exact Drawn0.refl _ | apply Drawn0.step)⟩
              · rw [if_neg c8] at H; have c8b0 : (x6_1 == 0) = false := beq_eq_false_iff_ne.mpr c8; have c8b1 : (x6_1 != 0) = true := bne_iff_ne.mpr c8; replace H := Option.bind_eq_some_iff.mp H; obtain ⟨t180, A100, H⟩ := H; replace H : (if t180 = true then (impl_isName.l0 k1 a0 (a0.size : Int) (wrap64 (x6_1 + 1))) else (if (bt a0 x6_1) = 45 then (impl_isName.l0 k1 a0 (a0.size : Int) (wrap64 (x6_1 + 1))) else (some false))) = some r := H; have A10 := Aside0.mk A100; clear A100; have p9 : 0 ≤ (x6_1 : Int) := oa; have q9 : x6_1 < (a0.size : Int) := oa; have hx9 := bt_at a0 x6_1; replace p9 := eq_true p9; replace q9 := eq_true q9
                try go_wp2_with (fail)
                go_at_call 79; (with_reducible refine (impl_isDigit.calls (bt a0 x6_1) t180 _ A10.out).mono ?_); rintro e w' ⟨rfl, ⟨nd, rfl⟩⟩
                by_cases c11 : t180 = true
                · subst c11
                  have H1 : (impl_isName.l0 k1 a0 (a0.size : Int) (wrap64 (x6_1 + 1))) = some r := by rw [if_pos rfl] at H; exact H
                  clear H; have H := H1; clear H1; have H' := Aside0.mk H; clear H
                  go_wp2
                  go_roundg k1
                  case measure => have := HK1.out; omega
                  case rel => exact ⟨(wrap64 (x6_1 + 1)), fg, H', ⟨by have := HK1.out; omega⟩, by repeat (first | exact Drawn0.refl _ | apply Drawn0.step)⟩
                · replace c11 := Bool.eq_false_iff.mpr c11; subst c11
                  have H1 : (if (bt a0 x6_1) = 45 then (impl_isName.l0 k1 a0 (a0.size : Int) (wrap64 (x6_1 + 1))) else (some false)) = some r := by rw [if_neg (show ¬ (false = true) by decide)] at H; exact H
                  clear H; have H := H1; clear H1
                  by_cases c13 : (bt a0 x6_1) = 45
                  · rw [if_pos c13] at H; have c13b0 : ((bt a0 x6_1) == 45) = true := beq_iff_eq.mpr c13; have c13b1 : ((bt a0 x6_1) != 45) = false := bne_eq_false_iff_eq.mpr c13; clear c13; have H' := Aside0.mk H; clear H; have p12 : 0 ≤ (x6_1 : Int) := oa; have q12 : x6_1 < (a0.size : Int) := oa; have hx12 := bt_at a0 x6_1; replace p12 := eq_true p12; replace q12 := eq_true q12
                    go_wp2
                    go_roundg k1
                    case measure => have := HK1.out; omega
                    case rel => exact ⟨(wrap64 (x6_1 + 1)), fg, H', ⟨by have := HK1.out; omega⟩, by repeat (first | exact Drawn0.refl _ | apply Drawn0.step)⟩
                  · rw [if_neg c13] at H; have c13b0 : ((bt a0 x6_1) == 45) = false := beq_eq_false_iff_ne.mpr c13; have c13b1 : ((bt a0 x6_1) != 45) = true := bne_iff_ne.mpr c13; obtain rfl := Option.some.inj H; have p12 : 0 ≤ (x6_1 : Int) := oa; have q12 : x6_1 < (a0.size : Int) := oa; have hx12 := bt_at a0 x6_1; replace p12 := eq_true p12; replace q12 := eq_true q12
                    go_wp2
                    go_ret
                    exact ⟨fg, by repeat (first | exact Drawn0.refl _ | apply Drawn0.step)⟩
          · rw [if_neg c4] at H
            exact absurd H (by simp)
        · rw [if_neg c3] at H
          exact absurd H (by simp)
      · rw [if_neg c2] at H; have c2b0 : decide (x6_1 < (a0.size : Int)) = false := decide_eq_false c2; clear c2; replace H := Option.bind_eq_some_iff.mp H; obtain ⟨t178, A140, H⟩ := H; replace H : (some t178) = some r := H; have A14 := Aside0.mk A140; clear A140; obtain rfl := Option.some.inj H
        go_wp2_with (first | ((first | ((with_reducible refine gate_callee (f := 39) rfl ?_); refine goesL_ (some 34) rfl rfl Tryd.func39 (by kernel_rfl) rfl #[.int .i64 (a0.size : Int), .int .i64 1, .int .i64 12] rfl (by (try simp only [List.map_toArray, List.map_cons, List.map_nil]); first | done | rfl | (simp only [List.length_drop, List.length_take]; rfl)) ?_; (with_reducible refine (impl_within.calls (a0.size : Int) 1 12 t178 _ A14.out).mono ?_); rintro e w' ⟨rfl, ⟨nd, rfl⟩⟩; refine ⟨_, rfl, ?_⟩) | (go_at_call 39; (with_reducible refine (impl_within.calls (a0.size : Int) 1 12 t178 _ A14.out).mono ?_); rintro e w' ⟨rfl, ⟨nd, rfl⟩⟩))))
        go_ret
        exact ⟨fg, by repeat (first | exact Drawn0.refl _ | apply Drawn0.step)⟩
end Go.Proofs.YtjbdljhjplidmaaDoor.QE
namespace Go.Proofs.YtjbdljhjplidmaaDoor.QE
open Go.RowKit Go.Proofs.YtjbdljhjplidmaaDoorW.PrintWords Go.Proofs.YtjbdljhjplidmaaDoorW.PrintLast Go.Proofs.YtjbdljhjplidmaaDoorW.PrintMore
attribute [local go_sem] max2_int min2_int max_two min_two max_three min_three max_four min_four   -- for this text's walks alone
set_option linter.unusedVariables false
set_option linter.unusedSimpArgs false
set_option maxHeartbeats 8000000 in
set_option maxRecDepth 100000 in
theorem impl_isNumber.calls (k : Nat) (a0 : ByteArray) (r : Bool) (w : World) (h : impl_isNumber.f k a0 = some r) :
    Calls Tryd.prog 81 #[.string a0] w fun e w' => e = .returned (.bool r) ∧ Drawn0 w w' := by
  have H : (if a0.toList = ([] : List UInt8) then (impl_isNumber.j0 k a0 a0 false) else (if 0 < (a0.size : Int) then (impl_isNumber.j0 k a0 a0 ((bt a0 0) == 45)) else (none))) = some r := h; clear h; have HC2 := Aside0.mk H; clear H
  go_enter Tryd.func81, Tryd.ntmps81
  go_upto_region 2 with (fail)
  go_cut [12] (fun v12 wc => ∃ (kq : Nat) (x12_1 : Bool), v12 = .bool x12_1 ∧ Aside0 (impl_isNumber.j0 kq a0 a0 x12_1 = some r) ∧ Aside0 (kq ≤ k) ∧ Drawn0 w wc)
  case first =>
    have H := HC2.out; clear HC2
    by_cases c3 : a0.toList = ([] : List UInt8)
    · rw [if_pos c3] at H; have c3b0 : (a0.toList == ([] : List UInt8)) = true := beq_iff_eq.mpr c3; have c3b1 : (a0.toList != ([] : List UInt8)) = false := bne_eq_false_iff_eq.mpr c3; clear c3
      (first | rw [c3b0] | (simp only [i64_w, i32_w]; rw [c3b0]) | skip)
      have H' := Aside0.mk H; clear H
      go_wp2
      go_meet
      case rel => exact ⟨_, (false), fg, H', ⟨fl⟩, by repeat (first | exact Drawn0.refl _ | apply Drawn0.step)⟩
    · rw [if_neg c3] at H; have c3b0 : (a0.toList == ([] : List UInt8)) = false := beq_eq_false_iff_ne.mpr c3; have c3b1 : (a0.toList != ([] : List UInt8)) = true := bne_iff_ne.mpr c3
      (first | rw [c3b0] | (simp only [i64_w, i32_w]; rw [c3b0]) | skip)
      by_cases c4 : 0 < (a0.size : Int)
      · rw [if_pos c4] at H; have c4b0 : decide (0 < (a0.size : Int)) = true := decide_eq_true c4; have c4b1 : decide (0 < a0.size) = true := decide_eq_true (by omega); clear c4; have H' := Aside0.mk H; clear H; have p5 : 0 ≤ (0 : Int) := (by omega); have q5 : 0 < a0.size := (by have : (0 : Int) < (a0.size : Int) := oa; omega); have hx5 : ∀ h : 0 < a0.size, ((a0[0]'h).toNat : Int) = bt a0 0 := bt_at a0 0; clear p5; have qi5 : (0 < (a0.size : Int)) = True := eq_true (oa); replace q5 := eq_true q5
        go_wp2
        go_meet
        case rel => exact ⟨_, (((bt a0 0) == 45)), fg, H', ⟨fl⟩, by repeat (first | exact Drawn0.refl _ | apply Drawn0.step)⟩
      · rw [if_neg c4] at H
        exact absurd H (by simp)
  case rest =>
    clear HC2
    try clear p2
    try clear c3
    try clear c3b0
    try clear c3b1
    try clear c4
    try clear c4b0
    try clear c4b1
    try clear p5
    try clear q5
    try clear hx5
    try clear qi5
    try clear p5
    try clear q5
    obtain ⟨kq, x12_1, rfl, HA, HJ1, ⟨mc1, rfl⟩⟩ := hcut
    cases kq with
    | zero => exact absurd HA.out (by simp [impl_isNumber.j0])
    | succ kj1 =>
      have H := HA.out; clear HA; simp only [impl_isNumber.j0] at H; have HC6 := Aside0.mk H; clear H
      go_upto_if 12 with (fail)
      go_cut [3] (fun v3 wc => ∃ (kq : Nat) (x3_5 : ByteArray), v3 = .string x3_5 ∧ Aside0 (impl_isNumber.j1 kq a0 x3_5 = some r) ∧ Aside0 (kq ≤ kj1) ∧ Drawn0 w wc)
      case first =>
        have H := HC6.out; clear HC6
        by_cases c7 : x12_1 = true
        · subst c7
          have H1 : (if 1 ≤ (a0.size : Int) then (impl_isNumber.j1 kj1 a0 (a0.extract 1 a0.size)) else (none)) = some r := by rw [if_pos rfl] at H; exact H
          clear H; have H := H1; clear H1
          by_cases c8 : 1 ≤ (a0.size : Int)
          · rw [if_pos c8] at H; have c8b0 := eq_true c8; have c8b1 : decide (1 ≤ (a0.size : Int)) = true := decide_eq_true c8; clear c8; have H' := Aside0.mk H; clear H
            go_wp2
            go_meet
            case rel => exact ⟨_, (a0.extract 1 a0.size), fg, H', ⟨by have := HJ1.out; first | omega | exact Nat.le_refl _⟩, by repeat (first | exact Drawn0.refl _ | apply Drawn0.step)⟩
          · rw [if_neg c8] at H
            exact absurd H (by simp)
        · replace c7 := Bool.eq_false_iff.mpr c7; subst c7
          have H1 : (impl_isNumber.j1 kj1 a0 a0) = some r := by rw [if_neg (show ¬ (false = true) by decide)] at H; exact H
          clear H; have H := H1; clear H1; have H' := Aside0.mk H; clear H
          go_wp2
          go_meet
          case rel => exact ⟨_, (a0), fg, H', ⟨by have := HJ1.out; first | omega | exact Nat.le_refl _⟩, by repeat (first | exact Drawn0.refl _ | apply Drawn0.step)⟩
      case rest =>
        clear HC6
        try clear c1
        try clear p2
        try clear c3
        try clear c3b0
        try clear c3b1
        try clear c4
        try clear c4b0
        try clear c4b1
        try clear p5
        try clear q5
        try clear hx5
        try clear qi5
        try clear c7
        try clear c8
        try clear c8b0
        try clear c8b1
        try clear p2
        try clear p5
        try clear q5
        obtain ⟨kq, x3_5, rfl, HA, HJ5, ⟨mc5, rfl⟩⟩ := hcut
        cases kq with
        | zero => exact absurd HA.out (by simp [impl_isNumber.j1])
        | succ kj5 =>
          have H := HA.out; clear HA; simp only [impl_isNumber.j1] at H; have H' := Aside0.mk H; clear H
          go_wp2
          go_loopg [17] kj5 (fun kq v17 w' => ∃ (x17_3 : Int), v17 = .int .i64 x17_3 ∧ Aside0 (impl_isNumber.l0 kq a0 x3_5 (x3_5.size : Int) x17_3 = some r) ∧ Aside0 (kq ≤ kj5) ∧ Drawn0 w w')
          case atStart => exact ⟨(0), fg, H', ⟨Nat.le_refl _⟩, by repeat (first | exact Drawn0.refl _ | apply Drawn0.step)⟩
          case round =>
            clear H'
            try clear c1
            try clear p2
            try clear c3
            try clear c3b0
            try clear c3b1
            try clear c4
            try clear c4b0
            try clear c4b1
            try clear c5
            try clear p5
            try clear q5
            try clear hx5
            try clear qi5
            try clear c7
            try clear c8
            try clear c8b0
            try clear c8b1
            try clear p2
            try clear p5
            try clear q5
            obtain ⟨x17_3, rfl, HA, HK3, ⟨m3, rfl⟩⟩ := hrel
            cases gk with
            | zero => exact absurd HA.out (by simp [impl_isNumber.l0])
            | succ k3 =>
              have H := HA.out; clear HA; simp only [impl_isNumber.l0] at H
              by_cases c9 : x17_3 < (x3_5.size : Int)
              · rw [if_pos c9] at H; have c9b0 : decide (x17_3 < (x3_5.size : Int)) = true := decide_eq_true c9; clear c9
                by_cases c10 : 0 ≤ x17_3
                · rw [if_pos c10] at H; have c10b0 : decide (0 ≤ x17_3) = true := decide_eq_true c10; clear c10
                  by_cases c11 : x17_3 < (x3_5.size : Int)
                  · rw [if_pos c11] at H; have c11b0 : decide (x17_3 < (x3_5.size : Int)) = true := decide_eq_true c11; clear c11; replace H := Option.bind_eq_some_iff.mp H; obtain ⟨t181, A130, H⟩ := H; replace H : (if t181 = true then (impl_isNumber.l0 k3 a0 x3_5 (x3_5.size : Int) (wrap64 (x17_3 + 1))) else (some false)) = some r := H; have A13 := Aside0.mk A130; clear A130; have p12 : 0 ≤ (x17_3 : Int) := oa; have q12 : x17_3 < (x3_5.size : Int) := oa; have hx12 := bt_at x3_5 x17_3; replace p12 := eq_true p12; replace q12 := eq_true q12
                    try go_wp2_with (fail)
                    go_at_call 79; (with_reducible refine (impl_isDigit.calls (bt x3_5 x17_3) t181 _ A13.out).mono ?_); rintro e w' ⟨rfl, ⟨nd, rfl⟩⟩
                    by_cases c14 : t181 = true
                    · subst c14
                      have H1 : (impl_isNumber.l0 k3 a0 x3_5 (x3_5.size : Int) (wrap64 (x17_3 + 1))) = some r := by rw [if_pos rfl] at H; exact H
                      clear H; have H := H1; clear H1; have H' := Aside0.mk H; clear H
                      go_wp2
                      go_roundg k3
                      case measure => have := HJ1.out; have := HJ5.out; have := HK3.out; omega
                      case rel => exact ⟨(wrap64 (x17_3 + 1)), fg, H', ⟨by have := HJ1.out; have := HJ5.out; have := HK3.out; omega⟩, by repeat (first | exact Drawn0.refl _ | apply Drawn0.step)⟩
                    · replace c14 := Bool.eq_false_iff.mpr c14; subst c14
                      have H1 : (some false) = some r := by rw [if_neg (show ¬ (false = true) by decide)] at H; exact H
                      clear H; have H := H1; clear H1; obtain rfl := Option.some.inj H
                      go_wp2
                      go_ret
                      exact ⟨fg, by repeat (first | exact Drawn0.refl _ | apply Drawn0.step)⟩
                  · rw [if_neg c11] at H
                    exact absurd H (by simp)
                · rw [if_neg c10] at H
                  exact absurd H (by simp)
              · rw [if_neg c9] at H; have c9b0 : decide (x17_3 < (x3_5.size : Int)) = false := decide_eq_false c9; clear c9
                by_cases c15 : x3_5.toList = ([] : List UInt8)
                · rw [if_pos c15] at H; have c15b0 : (x3_5.toList == ([] : List UInt8)) = true := beq_iff_eq.mpr c15; have c15b1 : (x3_5.toList != ([] : List UInt8)) = false := bne_eq_false_iff_eq.mpr c15; clear c15; obtain rfl := Option.some.inj H
                  go_wp2
                  go_ret
                  exact ⟨fg, by repeat (first | exact Drawn0.refl _ | apply Drawn0.step)⟩
                · rw [if_neg c15] at H; have c15b0 : (x3_5.toList == ([] : List UInt8)) = false := beq_eq_false_iff_ne.mpr c15; have c15b1 : (x3_5.toList != ([] : List UInt8)) = true := bne_iff_ne.mpr c15
                  by_cases c16 : 0 < (x3_5.size : Int)
                  · rw [if_pos c16] at H; have c16b0 : decide (0 < (x3_5.size : Int)) = true := decide_eq_true c16; have c16b1 : decide (0 < x3_5.size) = true := decide_eq_true (by omega); clear c16
                    by_cases c18 : (bt x3_5 0) = 48
                    · rw [if_pos c18] at H; have c18b0 : ((bt x3_5 0) == 48) = true := beq_iff_eq.mpr c18; have c18b1 : ((bt x3_5 0) != 48) = false := bne_eq_false_iff_eq.mpr c18; clear c18; obtain rfl := Option.some.inj H; have p17 : 0 ≤ (0 : Int) := (by omega); have q17 : 0 < x3_5.size := (by have : (0 : Int) < (x3_5.size : Int) := oa; omega); have hx17 : ∀ h : 0 < x3_5.size, ((x3_5[0]'h).toNat : Int) = bt x3_5 0 := bt_at x3_5 0; clear p17; have qi17 : (0 < (x3_5.size : Int)) = True := eq_true (oa); replace q17 := eq_true q17
                      go_wp2
                      go_ret
                      exact ⟨fg, by repeat (first | exact Drawn0.refl _ | apply Drawn0.step)⟩
                    · rw [if_neg c18] at H; have c18b0 : ((bt x3_5 0) == 48) = false := beq_eq_false_iff_ne.mpr c18; have c18b1 : ((bt x3_5 0) != 48) = true := bne_iff_ne.mpr c18; obtain rfl := Option.some.inj H; have p17 : 0 ≤ (0 : Int) := (by omega); have q17 : 0 < x3_5.size := (by have : (0 : Int) < (x3_5.size : Int) := oa; omega); have hx17 : ∀ h : 0 < x3_5.size, ((x3_5[0]'h).toNat : Int) = bt x3_5 0 := bt_at x3_5 0; clear p17; have qi17 : (0 < (x3_5.size : Int)) = True := eq_true (oa); replace q17 := eq_true q17
                      go_wp2
                      go_ret
                      exact ⟨fg, by repeat (first | exact Drawn0.refl _ | apply Drawn0.step)⟩
                  · rw [if_neg c16] at H
                    exact absurd H (by simp)
end Go.Proofs.YtjbdljhjplidmaaDoor.QE
namespace Go.Proofs.YtjbdljhjplidmaaDoor.QE
open Go.RowKit Go.Proofs.YtjbdljhjplidmaaDoorW.PrintWords Go.Proofs.YtjbdljhjplidmaaDoorW.PrintLast Go.Proofs.YtjbdljhjplidmaaDoorW.PrintMore
attribute [local go_sem] max2_int min2_int max_two min_two max_three min_three max_four min_four   -- for this text's walks alone
set_option linter.unusedVariables false
set_option linter.unusedSimpArgs false
def TbP (w : World) : Prop := (∃ ev, w.cell? ⟨2, 0, none⟩ = some ev ∧ (ev = .nilIface ∨ ∃ te pe, ev = .iface te pe)) ∧ ∃ ev, w.cell? ⟨3, 0, none⟩ = some ev ∧ (ev = .nilIface ∨ ∃ te pe, ev = .iface te pe)
theorem tbP {w W : World} (h : Aside0 (TbP w)) (hb : Below w.heap.size w W) : TbP W := by
  obtain ⟨⟨e0, h0, g0⟩, e1, h1, g1⟩ := h.out
  exact ⟨⟨e0, (hb.cell (World.block_lt_of_cell? w _ h0)).trans h0, g0⟩, e1, (hb.cell (World.block_lt_of_cell? w _ h1)).trans h1, g1⟩
set_option maxHeartbeats 8000000 in
set_option maxRecDepth 100000 in
theorem impl_numberIn.calls (k : Nat) (a0 : ByteArray) (a1 : Int) (a2 : Int) (r1 : Int) (r2 : Bool) (w : World) (hTP : TbP w) (h : impl_numberIn.f k a0 a1 a2 = some (r1, r2)) :
    Calls Tryd.prog 61 #[.string a0, .int .i64 a1, .int .i64 a2] w fun e w' => e = .returned (.tuple #[.int .i64 r1, .bool r2]) ∧ Below w.heap.size w w' := by
  unfold impl_numberIn.f at h
  by_cases c1 : a0.size ≤ 281474976710656
  · rw [if_pos c1] at h
    obtain ⟨⟨e0, g0, t0⟩, e1, g1, t1⟩ := hTP
    cases hp : Lib.parseIntB 64 a0.data.toList with
    | ok v =>
      simp only [hp] at h
      obtain ⟨b, hb, h⟩ := Option.bind_eq_some_iff.mp h; have A1 := Aside0.mk hb; clear hb
      cases b with
      | true =>
        simp only [if_true] at h
        obtain ⟨c, hc, h⟩ := Option.bind_eq_some_iff.mp h; have A2 := Aside0.mk hc; clear hc; obtain ⟨rfl, rfl⟩ := Prod.mk.inj (Option.some.inj h); clear h
        go_enter Tryd.func61, Tryd.ntmps61
        go_wp2_with (go_at_call 80; refine (Any.strconv_ParseInt_10_at64_ok Tryd.laysC174 a0 (by omega) _ hp _).mono ?_; rintro e W1 ⟨rfl, hw⟩)
        have HB : Aside0 (Below w.heap.size w W1) := ⟨hw.elim (fun e_ => by rw [e_]; exact Below.refl _ _) (fun ⟨t_, e_⟩ => by rw [e_]; exact Lib.bytesWorld_below _ _ _)⟩; clear hw
        go_wp2_with (go_at_call 81; refine (impl_isNumber.calls k a0 true _ A1.out).mono ?_; rintro e W2 ⟨rfl, hd⟩; replace HB := Aside0.mk (below_step HB.out hd.below))
        go_wp2_with (go_at_call 39; refine (impl_within.calls _ a1 a2 _ _ A2.out).mono ?_; rintro e W3 ⟨rfl, hd⟩; replace HB := Aside0.mk (below_step HB.out hd.below))
        go_ret2
        exact ⟨rfl, HB.out⟩
      | false =>
        simp only [Bool.false_eq_true, if_false] at h
        obtain ⟨rfl, rfl⟩ := Prod.mk.inj (Option.some.inj h); clear h
        go_enter Tryd.func61, Tryd.ntmps61
        go_wp2_with (go_at_call 80; refine (Any.strconv_ParseInt_10_at64_ok Tryd.laysC174 a0 (by omega) _ hp _).mono ?_; rintro e W1 ⟨rfl, hw⟩)
        have HB : Aside0 (Below w.heap.size w W1) := ⟨hw.elim (fun e_ => by rw [e_]; exact Below.refl _ _) (fun ⟨t_, e_⟩ => by rw [e_]; exact Lib.bytesWorld_below _ _ _)⟩; clear hw
        go_wp2_with (go_at_call 81; refine (impl_isNumber.calls k a0 false _ A1.out).mono ?_; rintro e W2 ⟨rfl, hd⟩; replace HB := Aside0.mk (below_step HB.out hd.below))
        go_ret2
        exact ⟨rfl, HB.out⟩
    | «syntax» =>
      simp only [hp] at h
      obtain ⟨rfl, rfl⟩ := Prod.mk.inj (Option.some.inj h); clear h
      go_enter Tryd.func61, Tryd.ntmps61
      go_wp2_with (go_at_call 80; refine (Any.strconv_ParseInt_10_at64_syntax Tryd.laysC174 a0 c1 hp e0 _ ?_ t0).mono ?_)
      · exact g0
      rintro e W1 ⟨N, rfl, -, -, hb⟩
      go_wp2
      go_ret2
      exact ⟨rfl, hb⟩
    | range =>
      simp only [hp] at h
      obtain ⟨rfl, rfl⟩ := Prod.mk.inj (Option.some.inj h); clear h
      go_enter Tryd.func61, Tryd.ntmps61
      go_wp2_with (go_at_call 80; refine (Any.strconv_ParseInt_10_at64_range Tryd.laysC174 a0 c1 hp e1 _ ?_ t1).mono ?_)
      · exact g1
      rintro e W1 ⟨N, rfl, -, -, hb⟩
      go_wp2
      go_ret2
      exact ⟨rfl, hb⟩
  · rw [if_neg c1] at h; cases h
set_option maxHeartbeats 8000000 in
set_option maxRecDepth 100000 in
theorem impl_isPrinted.calls (k : Nat) (a0 : ByteArray) (r : Bool) (w : World) (h : impl_isPrinted.f k a0 = some r) :
    Calls Tryd.prog 82 #[.string a0] w fun e w' => e = .returned (.bool r) ∧ Drawn0 w w' := by
  have H : (impl_isPrinted.l0 k a0 (a0.size : Int) 0) = some r := h; clear h; have H' := Aside0.mk H; clear H
  go_enter Tryd.func82, Tryd.ntmps82
  go_wp2
  go_loopg [6] k (fun kq v6 w' => ∃ (x6_1 : Int), v6 = .int .i64 x6_1 ∧ Aside0 (impl_isPrinted.l0 kq a0 (a0.size : Int) x6_1 = some r) ∧ Aside0 (kq ≤ k) ∧ Drawn0 w w')
  case atStart => exact ⟨(0), fg, H', ⟨Nat.le_refl _⟩, by repeat (first | exact Drawn0.refl _ | apply Drawn0.step)⟩
  case round =>
    clear H'; obtain ⟨x6_1, rfl, HA, HK1, ⟨m1, rfl⟩⟩ := hrel
    cases gk with
    | zero => exact absurd HA.out (by simp [impl_isPrinted.l0])
    | succ k1 =>
      have H := HA.out; clear HA; simp only [impl_isPrinted.l0] at H
      by_cases c2 : x6_1 < (a0.size : Int)
      · rw [if_pos c2] at H; have c2b0 : decide (x6_1 < (a0.size : Int)) = true := decide_eq_true c2; clear c2
        by_cases c3 : 0 ≤ x6_1
        · rw [if_pos c3] at H; have c3b0 : decide (0 ≤ x6_1) = true := decide_eq_true c3; clear c3
          by_cases c4 : x6_1 < (a0.size : Int)
          · rw [if_pos c4] at H; have c4b0 : decide (x6_1 < (a0.size : Int)) = true := decide_eq_true c4; clear c4
            by_cases c6 : (bt a0 x6_1) < 32
            · rw [if_pos c6] at H; have c6b0 : decide ((bt a0 x6_1) < 32) = true := decide_eq_true c6; clear c6; obtain rfl := Option.some.inj H; have p5 : 0 ≤ (x6_1 : Int) := oa; have q5 : x6_1 < (a0.size : Int) := oa; have hx5 := bt_at a0 x6_1; replace p5 := eq_true p5; replace q5 := eq_true q5
              go_wp2
              go_ret
              exact ⟨fg, by repeat (first | exact Drawn0.refl _ | apply Drawn0.step)⟩
            · rw [if_neg c6] at H; have c6b0 : decide ((bt a0 x6_1) < 32) = false := decide_eq_false c6; clear c6
              by_cases c8 : (bt a0 x6_1) > 126
              · rw [if_pos c8] at H; have c8b0 : decide (126 < (bt a0 x6_1)) = true := decide_eq_true c8; clear c8; obtain rfl := Option.some.inj H; have p5 : 0 ≤ (x6_1 : Int) := oa; have q5 : x6_1 < (a0.size : Int) := oa; have hx5 := bt_at a0 x6_1; replace p5 := eq_true p5; replace q5 := eq_true q5; have p7 : 0 ≤ (x6_1 : Int) := oa; have q7 : x6_1 < (a0.size : Int) := oa; have hx7 := bt_at a0 x6_1; replace p7 := eq_true p7; replace q7 := eq_true q7
                go_wp2
                go_ret
                exact ⟨fg, by repeat (first | exact Drawn0.refl _ | apply Drawn0.step)⟩
              · rw [if_neg c8] at H; have c8b0 : decide (126 < (bt a0 x6_1)) = false := decide_eq_false c8; clear c8; have H' := Aside0.mk H; clear H; have p5 : 0 ≤ (x6_1 : Int) := oa; have q5 : x6_1 < (a0.size : Int) := oa; have hx5 := bt_at a0 x6_1; replace p5 := eq_true p5; replace q5 := eq_true q5; have p7 : 0 ≤ (x6_1 : Int) := oa; have q7 : x6_1 < (a0.size : Int) := oa; have hx7 := bt_at a0 x6_1; replace p7 := eq_true p7; replace q7 := eq_true q7
                go_wp2
                go_roundg k1
                case measure => have := HK1.out; omega
                case rel => exact ⟨(wrap64 (x6_1 + 1)), fg, H', ⟨by have := HK1.out; omega⟩, by repeat (first | exact Drawn0.refl _ | apply Drawn0.step)⟩
          · rw [if_neg c4] at H
            exact absurd H (by simp)
        · rw [if_neg c3] at H
          exact absurd H (by simp)
      · rw [if_neg c2] at H; have c2b0 : decide (x6_1 < (a0.size : Int)) = false := decide_eq_false c2; clear c2; obtain rfl := Option.some.inj H
        go_wp2
        go_ret
        exact ⟨fg, by repeat (first | exact Drawn0.refl _ | apply Drawn0.step)⟩
set_option maxHeartbeats 8000000 in
set_option maxRecDepth 100000 in
theorem impl_isPart.calls (k : Nat) (a0 : ByteArray) (r : Bool) (w : World) (h : impl_isPart.f k a0 = some r) :
    Calls Tryd.prog 62 #[.string a0] w fun e w' => e = .returned (.bool r) ∧ Drawn0 w w' := by
  have H : (if (a0.size : Int) ≤ 40 then ((impl_isPrinted.f k a0).bind fun t182 => (some t182)) else (some false)) = some r := h; clear h
  by_cases c2 : (a0.size : Int) ≤ 40
  · rw [if_pos c2] at H; have c2b0 : decide ((a0.size : Int) ≤ 40) = true := decide_eq_true c2; have c2b1 : decide (a0.size ≤ 40) = true := decide_eq_true (by omega); clear c2; replace H := Option.bind_eq_some_iff.mp H; obtain ⟨t182, A30, H⟩ := H; replace H : (some t182) = some r := H; have A3 := Aside0.mk A30; clear A30; obtain rfl := Option.some.inj H
    go_enter Tryd.func62, Tryd.ntmps62
    go_wp2_with (first | (go_at_call 82; (with_reducible refine (impl_isPrinted.calls k a0 t182 _ A3.out).mono ?_); rintro e w' ⟨rfl, ⟨nd, rfl⟩⟩))
    go_ret
    exact ⟨fg, by repeat (first | exact Drawn0.refl _ | apply Drawn0.step)⟩
  · rw [if_neg c2] at H; have c2b0 : decide ((a0.size : Int) ≤ 40) = false := decide_eq_false c2; have c2b1 : decide (a0.size ≤ 40) = false := decide_eq_false (by omega); clear c2; obtain rfl := Option.some.inj H
    go_enter Tryd.func62, Tryd.ntmps62
    go_wp2
    go_ret
    exact ⟨fg, by repeat (first | exact Drawn0.refl _ | apply Drawn0.step)⟩
end Go.Proofs.YtjbdljhjplidmaaDoor.QE
namespace Go.Proofs.YtjbdljhjplidmaaDoor.QE
open Go.RowKit Go.Proofs.YtjbdljhjplidmaaDoorW.PrintWords Go.Proofs.YtjbdljhjplidmaaDoorW.PrintLast Go.Proofs.YtjbdljhjplidmaaDoorW.PrintMore
attribute [local go_sem] max2_int min2_int max_two min_two max_three min_three max_four min_four   -- for this text's walks alone
set_option linter.unusedVariables false
set_option linter.unusedSimpArgs false
set_option maxHeartbeats 8000000 in
set_option maxRecDepth 100000 in
theorem impl_isOf.calls (k : Nat) (a0 : Int) (a1 : ByteArray) (r : Bool) (w : World) (hTP : TbP w) (h : impl_isOf.f k a0 a1 = some r) :
    Calls Tryd.prog 35 #[.int .u8 a0, .string a1] w fun e w' => e = .returned (.bool r) ∧ Below w.heap.size w w' := by
  have HTP := Aside0.mk hTP; clear hTP
  have HB := Aside0.mk (Below.refl w.heap.size w); have H : (if a0 = 114 then ((impl_isName.f k a1).bind fun t183 => (some t183)) else (if a0 = 110 then ((impl_numberIn.f k a1 0 1000000000).bind fun bt184 => (some bt184.2)) else (if a0 = 113 then ((impl_numberIn.f k a1 1 1000000).bind fun bt186 => (some bt186.2)) else (if a0 = 122 then ((impl_numberIn.f k a1 (-1000000) 1000000).bind fun bt188 => (if bt188.2 = true then (some (a1.toList != ([48] : List UInt8))) else (some false))) else (if a0 = 100 then ((impl_numberIn.f k a1 0 100000).bind fun bt190 => (some bt190.2)) else (if a0 = 116 then (if a1.toList = ([] : List UInt8) then (some false) else ((impl_isPart.f k a1).bind fun t192 => (some t192))) else (some false))))))) = some r := h; clear h
  by_cases c3 : a0 = 114
  · rw [if_pos c3] at H; have c3b0 : (a0 == 114) = true := beq_iff_eq.mpr c3; have c3b1 : (a0 != 114) = false := bne_eq_false_iff_eq.mpr c3; clear c3; replace H := Option.bind_eq_some_iff.mp H; obtain ⟨t183, A40, H⟩ := H; replace H : (some t183) = some r := H; have A4 := Aside0.mk A40; clear A40; obtain rfl := Option.some.inj H
    go_enter Tryd.func35, Tryd.ntmps35
    go_wp2_with (first | ((first | ((with_reducible refine gate_callee (f := 60) rfl ?_); refine goesL_ (some 10) rfl rfl Tryd.func60 (by kernel_rfl) rfl #[.string a1] rfl (by (try simp only [List.map_toArray, List.map_cons, List.map_nil]); first | done | rfl | (simp only [List.length_drop, List.length_take]; rfl)) ?_; (with_reducible refine (impl_isName.calls k a1 t183 _ A4.out).mono ?_); rintro e w' ⟨rfl, ⟨nd, rfl⟩⟩; refine ⟨_, rfl, ?_⟩) | (go_at_call 60; (with_reducible refine (impl_isName.calls k a1 t183 _ A4.out).mono ?_); rintro e w' ⟨rfl, ⟨nd, rfl⟩⟩))))
    go_ret
    exact ⟨ff, bs HB⟩
  · rw [if_neg c3] at H; have c3b0 : (a0 == 114) = false := beq_eq_false_iff_ne.mpr c3; have c3b1 : (a0 != 114) = true := bne_iff_ne.mpr c3
    by_cases c5 : a0 = 110
    · rw [if_pos c5] at H; have c5b0 : (a0 == 110) = true := beq_iff_eq.mpr c5; have c5b1 : (a0 != 110) = false := bne_eq_false_iff_eq.mpr c5; clear c5; replace H := Option.bind_eq_some_iff.mp H; obtain ⟨⟨t184, t185⟩, A60, H⟩ := H; replace H : (some t185) = some r := H; have A6 := Aside0.mk A60; clear A60; obtain rfl := Option.some.inj H
      go_enter Tryd.func35, Tryd.ntmps35
      go_wp2_with (first | ((first | ((with_reducible refine gate_callee (f := 61) rfl ?_); refine goesL_ (some 15) rfl rfl Tryd.func61 (by kernel_rfl) rfl #[.string a1, .int .i64 0, .int .i64 1000000000] rfl (by (try simp only [List.map_toArray, List.map_cons, List.map_nil]); first | done | rfl | (simp only [List.length_drop, List.length_take]; rfl)) ?_; (with_reducible refine (impl_numberIn.calls k a1 0 1000000000 t184 t185 _ (tbP HTP (bs HB)) A6.out).mono ?_); rintro e w7 ⟨rfl, hb⟩; refine ⟨_, rfl, ?_⟩) | (go_at_call 61; (with_reducible refine (impl_numberIn.calls k a1 0 1000000000 t184 t185 _ (tbP HTP (bs HB)) A6.out).mono ?_); rintro e w7 ⟨rfl, hb⟩)); replace HB := Aside0.mk (below_step (bs HB) hb); (try clear hb); (try clear hb2); (try clear hk); (try clear hi)))
      go_ret
      exact ⟨ff, bs HB⟩
    · rw [if_neg c5] at H; have c5b0 : (a0 == 110) = false := beq_eq_false_iff_ne.mpr c5; have c5b1 : (a0 != 110) = true := bne_iff_ne.mpr c5
      by_cases c8 : a0 = 113
      · rw [if_pos c8] at H; have c8b0 : (a0 == 113) = true := beq_iff_eq.mpr c8; have c8b1 : (a0 != 113) = false := bne_eq_false_iff_eq.mpr c8; clear c8; replace H := Option.bind_eq_some_iff.mp H; obtain ⟨⟨t186, t187⟩, A90, H⟩ := H; replace H : (some t187) = some r := H; have A9 := Aside0.mk A90; clear A90; obtain rfl := Option.some.inj H
        go_enter Tryd.func35, Tryd.ntmps35
        go_wp2_with (first | ((first | ((with_reducible refine gate_callee (f := 61) rfl ?_); refine goesL_ (some 22) rfl rfl Tryd.func61 (by kernel_rfl) rfl #[.string a1, .int .i64 1, .int .i64 1000000] rfl (by (try simp only [List.map_toArray, List.map_cons, List.map_nil]); first | done | rfl | (simp only [List.length_drop, List.length_take]; rfl)) ?_; (with_reducible refine (impl_numberIn.calls k a1 1 1000000 t186 t187 _ (tbP HTP (bs HB)) A9.out).mono ?_); rintro e w10 ⟨rfl, hb⟩; refine ⟨_, rfl, ?_⟩) | (go_at_call 61; (with_reducible refine (impl_numberIn.calls k a1 1 1000000 t186 t187 _ (tbP HTP (bs HB)) A9.out).mono ?_); rintro e w10 ⟨rfl, hb⟩)); replace HB := Aside0.mk (below_step (bs HB) hb); (try clear hb); (try clear hb2); (try clear hk); (try clear hi)))
        go_ret
        exact ⟨ff, bs HB⟩
      · rw [if_neg c8] at H; have c8b0 : (a0 == 113) = false := beq_eq_false_iff_ne.mpr c8; have c8b1 : (a0 != 113) = true := bne_iff_ne.mpr c8
        by_cases c11 : a0 = 122
        · rw [if_pos c11] at H; have c11b0 : (a0 == 122) = true := beq_iff_eq.mpr c11; have c11b1 : (a0 != 122) = false := bne_eq_false_iff_eq.mpr c11; clear c11; replace H := Option.bind_eq_some_iff.mp H; obtain ⟨⟨t188, t189⟩, A120, H⟩ := H; replace H : (if t189 = true then (some (a1.toList != ([48] : List UInt8))) else (some false)) = some r := H; have A12 := Aside0.mk A120; clear A120
          go_enter Tryd.func35, Tryd.ntmps35
          try go_wp2_with (fail)
          go_at_call 61; (with_reducible refine (impl_numberIn.calls k a1 (-1000000) 1000000 t188 t189 _ (tbP HTP (bs HB)) A12.out).mono ?_); rintro e w13 ⟨rfl, hb⟩; replace HB := Aside0.mk (below_step (bs HB) hb); (try clear hb); (try clear hb2); (try clear hk); (try clear hi)
          by_cases c14 : t189 = true
          · subst c14
            have H1 : (some (a1.toList != ([48] : List UInt8))) = some r := by rw [if_pos rfl] at H; exact H
            clear H; have H := H1; clear H1; obtain rfl := Option.some.inj H
            go_wp2
            go_ret
            exact ⟨ff, bs HB⟩
          · replace c14 := Bool.eq_false_iff.mpr c14; subst c14
            have H1 : (some false) = some r := by rw [if_neg (show ¬ (false = true) by decide)] at H; exact H
            clear H; have H := H1; clear H1; obtain rfl := Option.some.inj H
            go_wp2
            go_ret
            exact ⟨ff, bs HB⟩
        · rw [if_neg c11] at H; have c11b0 : (a0 == 122) = false := beq_eq_false_iff_ne.mpr c11; have c11b1 : (a0 != 122) = true := bne_iff_ne.mpr c11
          by_cases c15 : a0 = 100
          · rw [if_pos c15] at H; have c15b0 : (a0 == 100) = true := beq_iff_eq.mpr c15; have c15b1 : (a0 != 100) = false := bne_eq_false_iff_eq.mpr c15; clear c15; replace H := Option.bind_eq_some_iff.mp H; obtain ⟨⟨t190, t191⟩, A160, H⟩ := H; replace H : (some t191) = some r := H; have A16 := Aside0.mk A160; clear A160; obtain rfl := Option.some.inj H
            go_enter Tryd.func35, Tryd.ntmps35
            go_wp2_with (first | ((first | ((with_reducible refine gate_callee (f := 61) rfl ?_); refine goesL_ (some 41) rfl rfl Tryd.func61 (by kernel_rfl) rfl #[.string a1, .int .i64 0, .int .i64 100000] rfl (by (try simp only [List.map_toArray, List.map_cons, List.map_nil]); first | done | rfl | (simp only [List.length_drop, List.length_take]; rfl)) ?_; (with_reducible refine (impl_numberIn.calls k a1 0 100000 t190 t191 _ (tbP HTP (bs HB)) A16.out).mono ?_); rintro e w17 ⟨rfl, hb⟩; refine ⟨_, rfl, ?_⟩) | (go_at_call 61; (with_reducible refine (impl_numberIn.calls k a1 0 100000 t190 t191 _ (tbP HTP (bs HB)) A16.out).mono ?_); rintro e w17 ⟨rfl, hb⟩)); replace HB := Aside0.mk (below_step (bs HB) hb); (try clear hb); (try clear hb2); (try clear hk); (try clear hi)))
            go_ret
            exact ⟨ff, bs HB⟩
          · rw [if_neg c15] at H; have c15b0 : (a0 == 100) = false := beq_eq_false_iff_ne.mpr c15; have c15b1 : (a0 != 100) = true := bne_iff_ne.mpr c15
            by_cases c18 : a0 = 116
            · rw [if_pos c18] at H; have c18b0 : (a0 == 116) = true := beq_iff_eq.mpr c18; have c18b1 : (a0 != 116) = false := bne_eq_false_iff_eq.mpr c18; clear c18
              by_cases c19 : a1.toList = ([] : List UInt8)
              · rw [if_pos c19] at H; have c19b0 : (a1.toList == ([] : List UInt8)) = true := beq_iff_eq.mpr c19; have c19b1 : (a1.toList != ([] : List UInt8)) = false := bne_eq_false_iff_eq.mpr c19; clear c19; obtain rfl := Option.some.inj H
                go_enter Tryd.func35, Tryd.ntmps35
                go_wp2
                go_ret
                exact ⟨ff, bs HB⟩
              · rw [if_neg c19] at H; have c19b0 : (a1.toList == ([] : List UInt8)) = false := beq_eq_false_iff_ne.mpr c19; have c19b1 : (a1.toList != ([] : List UInt8)) = true := bne_iff_ne.mpr c19; replace H := Option.bind_eq_some_iff.mp H; obtain ⟨t192, A200, H⟩ := H; replace H : (some t192) = some r := H; have A20 := Aside0.mk A200; clear A200; obtain rfl := Option.some.inj H
                go_enter Tryd.func35, Tryd.ntmps35
                go_wp2_with (first | (go_at_call 62; (with_reducible refine (impl_isPart.calls k a1 t192 _ A20.out).mono ?_); rintro e w' ⟨rfl, ⟨nd, rfl⟩⟩))
                go_ret
                exact ⟨ff, bs HB⟩
            · rw [if_neg c18] at H; have c18b0 : (a0 == 116) = false := beq_eq_false_iff_ne.mpr c18; have c18b1 : (a0 != 116) = true := bne_iff_ne.mpr c18; obtain rfl := Option.some.inj H
              go_enter Tryd.func35, Tryd.ntmps35
              go_wp2
              go_ret
              exact ⟨ff, bs HB⟩
end Go.Proofs.YtjbdljhjplidmaaDoor.QE
