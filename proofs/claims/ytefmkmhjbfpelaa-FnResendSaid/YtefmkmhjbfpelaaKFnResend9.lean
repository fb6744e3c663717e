-- Merged by a program of this session (wip/tool/pack.py) out of its own texts for this claim.
import Derived.Test.YtefmkmhjbfpelaaKFnResend0
import Derived.Test.YtefmkmhjbfpelaaKFnResend1
import Derived.Test.YtefmkmhjbfpelaaKFnResend2
import Derived.Test.YtefmkmhjbfpelaaKFnResend3
import Derived.Test.YtefmkmhjbfpelaaKFnResend4
import Derived.Test.YtefmkmhjbfpelaaKFnResend5
import Derived.Test.YtefmkmhjbfpelaaKFnResend7
import Derived.Test.YtefmkmhjbfpelaaKFnResend8
namespace Go.Proofs.Ytefmkmhjbfpelaa.QO
open Go.RowKit Go.Proofs.YtefmkmhjbfpelaaW.PrintWords Go.Proofs.YtefmkmhjbfpelaaW.PrintLast Go.Proofs.YtefmkmhjbfpelaaW.PrintMore
attribute [local go_sem] max2_int min2_int max_two min_two max_three min_three max_four min_four   -- for this text's walks alone
set_option linter.unusedVariables false
set_option linter.unusedSimpArgs false
def impl_OutboxRun.T9 : Bool × List (List Nat × List Nat) := (true, [([], []), ([], []), ([1], [1]), ([0, 0], [0]), ([2, 3, 0, 1, 2, 3], [2])])
def impl_OutboxRun.B9 : List Nat := [0, 0, 2, 1, 15]
theorem impl_OutboxRun.tab9 : rtab .any (opsOf Try.f16 9) = impl_OutboxRun.T9 := by kernel_rfl
theorem impl_OutboxRun.bits9 : waitsOk impl_OutboxRun.T9.2 impl_OutboxRun.B9 = true := by kernel_rfl
set_option maxHeartbeats 8000000 in
set_option maxRecDepth 100000 in
theorem impl_OutboxRun.calls (k : Nat) (a0_0 : ByteArray) (a0_1 : Int) (a0_2 : ByteArray) (a0_3 : Int) (a0_4 : Int) (A1 : Option Addr) (c1 : Nat) (l1 : List Int) (r : List Int) (w : World) (hr1 : Kd.C (Kd.int .i64) w A1 l1.length l1) (hc1 : l1.length ≤ c1) (h : impl_OutboxRun.f k a0_0 a0_1 a0_2 a0_3 a0_4 l1 = some r) :
    Calls Try.prog 16 #[.agg #[.string a0_0, .int .i64 a0_1, .string a0_2, .int .i64 a0_3, .int .i64 a0_4], .slice A1 l1.length c1] w fun e w' => ∃ v0_ : Value, e = .returned (v0_) ∧ Kd.R (Kd.int .i64) 2 w' w.heap.size (fun _ => True) v0_ r ∧ Below w.heap.size w w' := by
  have hu24 := Try.underlying24; have hu34 := Try.underlying34; have HR1 := Aside0.mk hr1; have HC1 := Aside0.mk hc1; clear hr1 hc1; have HB := Aside0.mk (Below.refl w.heap.size w); have H : ((impl_longList_int64.f l1).bind fun t786 => (if t786 = true then (impl_OutboxRun.j0 k l1 true a0_0 a0_1 a0_2 a0_3 a0_4) else ((impl_isOut.f k a0_0 a0_1 a0_2 a0_3 a0_4).bind fun t787 => (impl_OutboxRun.j0 k l1 (!t787) a0_0 a0_1 a0_2 a0_3 a0_4)))) = some r := h; clear h; have HC3 := Aside0.mk H; clear H
  go_enter Try.func16, Try.ntmps16
  go_upto_region 1 with (first | ((with_reducible refine gate_dst (N := 2) rfl ?_); refine bx 2 (cs := #[.string a0_0, .int .i64 a0_1, .string a0_2, .int .i64 a0_3, .int .i64 a0_4]) (t := 24) ?_; intro gb785 hg w4 hbox hb; have BK785 := Aside0.mk (hbox); have GW785 := Aside0.mk ((gs hg (bs HB))); have GE785 := Aside0.mk ((gs hg (bs HB))); replace HB := Aside0.mk (below_step (bs HB) hb); clear hb hbox hg))
  (try simp only [Act.put, List.setIfInBounds_toArray, List.set_cons_zero, List.set_cons_succ])
  go_cut [18] (fun v18 wc => ∃ (kq : Nat) (x18_2 : Bool), v18 = .bool x18_2 ∧ Aside0 (impl_OutboxRun.j0 kq l1 x18_2 a0_0 a0_1 a0_2 a0_3 a0_4 = some r) ∧ Aside0 (kq ≤ k) ∧ Aside0 (wc.heap[gb785]? = some (.cells #[.string a0_0, .int .i64 a0_1, .string a0_2, .int .i64 a0_3, .int .i64 a0_4] 24 (0, 0))) ∧ Aside0 (Below w.heap.size w wc))
  case first =>
    have H := HC3.out; clear HC3; replace H := Option.bind_eq_some_iff.mp H; obtain ⟨t786, A50, H⟩ := H; replace H : (if t786 = true then (impl_OutboxRun.j0 k l1 true a0_0 a0_1 a0_2 a0_3 a0_4) else ((impl_isOut.f k a0_0 a0_1 a0_2 a0_3 a0_4).bind fun t787 => (impl_OutboxRun.j0 k l1 (!t787) a0_0 a0_1 a0_2 a0_3 a0_4))) = some r := H; have A5 := Aside0.mk A50; clear A50
    try go_wp2_with (fail)
    go_at_call 71; (with_reducible refine (impl_longList_int64.calls _ _ l1 t786 _ (Kd.C_below HR1.out (bs HB)) HC1.out A5.out).mono ?_); rintro e w' ⟨rfl, ⟨nd, rfl⟩⟩
    by_cases c6 : t786 = true
    · subst c6
      have H1 : (impl_OutboxRun.j0 k l1 true a0_0 a0_1 a0_2 a0_3 a0_4) = some r := by rw [if_pos rfl] at H; exact H
      clear H; have H := H1; clear H1; have H' := Aside0.mk H; clear H
      go_wp2
      go_meet
      case rel => exact ⟨_, (true), fg, H', ⟨fl⟩, ⟨ks BK785⟩, ⟨bs HB⟩⟩
    · replace c6 := Bool.eq_false_iff.mpr c6; subst c6
      have H1 : ((impl_isOut.f k a0_0 a0_1 a0_2 a0_3 a0_4).bind fun t787 => (impl_OutboxRun.j0 k l1 (!t787) a0_0 a0_1 a0_2 a0_3 a0_4)) = some r := by rw [if_neg (show ¬ (false = true) by decide)] at H; exact H
      clear H; have H := H1; clear H1; replace H := Option.bind_eq_some_iff.mp H; obtain ⟨t787, A70, H⟩ := H; replace H : (impl_OutboxRun.j0 k l1 (!t787) a0_0 a0_1 a0_2 a0_3 a0_4) = some r := H; have A7 := Aside0.mk A70; clear A70; have H' := Aside0.mk H; clear H; obtain ⟨hcz8_0, hcz8_1, hcz8_2, hcz8_3, hcz8_4, hfz8_0, hfz8_1, hfz8_2, hfz8_3, hfz8_4⟩ := cf5 BK785
      go_wp2_with (first | (go_at_call 72; (with_reducible refine (impl_isOut.calls k a0_0 a0_1 a0_2 a0_3 a0_4 t787 _ A7.out).mono ?_); rintro e w9 ⟨rfl, hb⟩; replace BK785 := Aside0.mk (blk_below (ks BK785) hb); replace HB := Aside0.mk (below_step (bs HB) hb); (try clear hb); (try clear hb2); (try clear hk); (try clear hi)))
      go_meet
      case rel => exact ⟨_, (!t787), fg, H', ⟨fl⟩, ⟨ks BK785⟩, ⟨bs HB⟩⟩
  case rest =>
    clear HC3
    try clear c1
    try clear p2
    try clear c6
    try clear hcz8_0
    try clear hcz8_1
    try clear hcz8_2
    try clear hcz8_3
    try clear hcz8_4
    try clear hfz8_0
    try clear hfz8_1
    try clear hfz8_2
    try clear hfz8_3
    try clear hfz8_4
    obtain ⟨kq, x18_2, rfl, HA, HJ2, BK785, HB⟩ := hcut
    cases kq with
    | zero => exact absurd HA.out (by simp [impl_OutboxRun.j0])
    | succ kj2 =>
      have H := HA.out; clear HA; simp only [impl_OutboxRun.j0] at H
      by_cases c10 : x18_2 = true
      · subst c10
        have H1 : (some ([] : List Int)) = some r := by rw [if_pos rfl] at H; exact H
        clear H; have H := H1; clear H1; obtain rfl := Option.some.inj H
        go_wp2
        go_ret
        exact ⟨_, ff, by first | exact Kd.R_nil _ _ _ _ _ | exact Kd.N_nil _ _ _ _ _ | exact Kd.V_nil _ _ _ _ _ | exact Kd.Q_nil _ _ _ _ _ | exact Kd.S_nil _ _ _ _ _, bs HB⟩
      · replace c10 := Bool.eq_false_iff.mpr c10; subst c10
        have H1 : (impl_OutboxRun.l0 kj2 l1 l1 (l1.length : Int) 0 a0_0 a0_1 a0_2 a0_3 a0_4) = some r := by rw [if_neg (show ¬ (false = true) by decide)] at H; exact H
        clear H; have H := H1; clear H1; have H' := Aside0.mk H; clear H
        go_wp2
        go_loopg [21] kj2 (fun kq v21 w' => ∃ (x21_2 : Int), v21 = .int .i64 x21_2 ∧ Aside0 (impl_OutboxRun.l0 kq l1 l1 (l1.length : Int) x21_2 a0_0 a0_1 a0_2 a0_3 a0_4 = some r) ∧ Aside0 (kq ≤ kj2) ∧ Aside0 (w'.heap[gb785]? = some (.cells #[.string a0_0, .int .i64 a0_1, .string a0_2, .int .i64 a0_3, .int .i64 a0_4] 24 (0, 0))) ∧ Aside0 (Below w.heap.size w w'))
        case atStart => exact ⟨(0), fg, H', ⟨Nat.le_refl _⟩, ⟨ks BK785⟩, ⟨bs HB⟩⟩
        case round =>
          clear H'
          try clear c1
          try clear p2
          try clear c6
          try clear c10
          try clear hcz8_0
          try clear hcz8_1
          try clear hcz8_2
          try clear hcz8_3
          try clear hcz8_4
          try clear hfz8_0
          try clear hfz8_1
          try clear hfz8_2
          try clear hfz8_3
          try clear hfz8_4
          try clear p2
          obtain ⟨x21_2, rfl, HA, HK2, BK785, HB⟩ := hrel
          cases gk with
          | zero => exact absurd HA.out (by simp [impl_OutboxRun.l0])
          | succ k2 =>
            have H := HA.out; clear HA; simp only [impl_OutboxRun.l0] at H
            by_cases c11 : x21_2 < (l1.length : Int)
            · rw [if_pos c11] at H; have c11b0 : decide (x21_2 < (l1.length : Int)) = true := decide_eq_true c11; clear c11
              by_cases c12 : 0 ≤ x21_2
              · rw [if_pos c12] at H; have c12b0 : decide (0 ≤ x21_2) = true := decide_eq_true c12; clear c12
                by_cases c13 : x21_2 < (l1.length : Int)
                · rw [if_pos c13] at H; have c13b0 : decide (x21_2 < (l1.length : Int)) = true := decide_eq_true c13; clear c13; replace H := Option.bind_eq_some_iff.mp H; obtain ⟨t789, A140, H⟩ := H; replace H : (if t789 = true then (if x21_2 > 0 then (if 0 ≤ (wrap64 (x21_2 - 1)) then (if (wrap64 (x21_2 - 1)) < (l1.length : Int) then (if (rd l1 x21_2) ≤ (rd l1 (wrap64 (x21_2 - 1))) then (some ([] : List Int)) else (impl_OutboxRun.l0 k2 l1 l1 (l1.length : Int) (wrap64 (x21_2 + 1)) a0_0 a0_1 a0_2 a0_3 a0_4)) else (none)) else (none)) else (impl_OutboxRun.l0 k2 l1 l1 (l1.length : Int) (wrap64 (x21_2 + 1)) a0_0 a0_1 a0_2 a0_3 a0_4)) else (some ([] : List Int))) = some r := H; have A14 := Aside0.mk A140; clear A140; have p788 : 0 ≤ (x21_2 : Int) := oa; have q788 : x21_2 < (l1.length : Int) := oa; obtain ⟨ad788, e788, hx788_0⟩ := Kd.at_int HR1.out x21_2 p788 q788
                  cases e788
                  replace hx788_0 := cb HB hx788_0; replace p788 := eq_true p788; replace q788 := eq_true q788
                  try go_wp2_with (fail)
                  go_at_call 73; (with_reducible refine (impl_isDay.calls (rd l1 x21_2) t789 _ A14.out).mono ?_); rintro e w' ⟨rfl, ⟨nd, rfl⟩⟩
                  by_cases c15 : t789 = true
                  · subst c15
                    have H1 : (if x21_2 > 0 then (if 0 ≤ (wrap64 (x21_2 - 1)) then (if (wrap64 (x21_2 - 1)) < (l1.length : Int) then (if (rd l1 x21_2) ≤ (rd l1 (wrap64 (x21_2 - 1))) then (some ([] : List Int)) else (impl_OutboxRun.l0 k2 l1 l1 (l1.length : Int) (wrap64 (x21_2 + 1)) a0_0 a0_1 a0_2 a0_3 a0_4)) else (none)) else (none)) else (impl_OutboxRun.l0 k2 l1 l1 (l1.length : Int) (wrap64 (x21_2 + 1)) a0_0 a0_1 a0_2 a0_3 a0_4)) = some r := by rw [if_pos rfl] at H; exact H
                    clear H; have H := H1; clear H1
                    by_cases c16 : x21_2 > 0
                    · rw [if_pos c16] at H; have c16b0 : decide (0 < x21_2) = true := decide_eq_true c16; clear c16; obtain ⟨ji17, hji17⟩ : ∃ j_ : Int, (wrap64 (x21_2 - 1)) = j_ := ⟨_, rfl⟩
                      replace H : (if 0 ≤ (ji17) then (if (ji17) < (l1.length : Int) then (if (rd l1 x21_2) ≤ (rd l1 (ji17)) then (some ([] : List Int)) else (impl_OutboxRun.l0 k2 l1 l1 (l1.length : Int) (wrap64 (x21_2 + 1)) a0_0 a0_1 a0_2 a0_3 a0_4)) else (none)) else (none)) = some r := by first | (rw [hji17] at H; exact H) | (simp only [hji17] at H ⊢; exact H)
                      have hji17w : (IntKind.i64.wrap (x21_2 - 1)) = ji17 := (i64_w _).trans hji17
                      by_cases c18 : 0 ≤ (ji17)
                      · rw [if_pos c18] at H; have c18b0 : decide (0 ≤ (ji17)) = true := decide_eq_true c18; clear c18
                        by_cases c19 : (ji17) < (l1.length : Int)
                        · rw [if_pos c19] at H; have c19b0 : decide ((ji17) < (l1.length : Int)) = true := decide_eq_true c19; clear c19
                          by_cases c20 : (rd l1 x21_2) ≤ (rd l1 (ji17))
                          · rw [if_pos c20] at H; have c20b0 : decide ((rd l1 x21_2) ≤ (rd l1 (ji17))) = true := decide_eq_true c20; clear c20; obtain rfl := Option.some.inj H; have p790 : 0 ≤ ((ji17) : Int) := oa; have q790 : (ji17) < (l1.length : Int) := oa; obtain ⟨ad790, e790, hx790_0⟩ := Kd.at_int HR1.out (ji17) p790 q790; obtain rfl : ad788 = ad790 := (by injection e790); replace hx790_0 := cb HB hx790_0; replace p790 := eq_true p790; replace q790 := eq_true q790
                            go_wp2
                            go_ret
                            exact ⟨_, by first | rfl | (simp [errW_none, errW_some] <;> rfl) | (simp only [← hji17]; first | rfl | (simp [errW_none, errW_some] <;> rfl)) | (simp [*, errW_none, errW_some] <;> rfl), by first | exact Kd.R_nil _ _ _ _ _ | exact Kd.N_nil _ _ _ _ _ | exact Kd.V_nil _ _ _ _ _ | exact Kd.Q_nil _ _ _ _ _ | exact Kd.S_nil _ _ _ _ _, bs HB⟩
                          · rw [if_neg c20] at H; have c20b0 : decide ((rd l1 x21_2) ≤ (rd l1 (ji17))) = false := decide_eq_false c20; clear c20; have H' := Aside0.mk H; clear H; have p790 : 0 ≤ ((ji17) : Int) := oa; have q790 : (ji17) < (l1.length : Int) := oa; obtain ⟨ad790, e790, hx790_0⟩ := Kd.at_int HR1.out (ji17) p790 q790; obtain rfl : ad788 = ad790 := (by injection e790); replace hx790_0 := cb HB hx790_0; replace p790 := eq_true p790; replace q790 := eq_true q790
                            go_wp2
                            go_roundg k2
                            case measure => have := HJ2.out; have := HK2.out; omega
                            case rel => exact ⟨(wrap64 (x21_2 + 1)), fg, H', ⟨by have := HJ2.out; have := HK2.out; omega⟩, ⟨ks BK785⟩, ⟨bs HB⟩⟩
                        · rw [if_neg c19] at H
                          exact absurd H (by simp)
                      · rw [if_neg c18] at H
                        exact absurd H (by simp)
                    · rw [if_neg c16] at H; have c16b0 : decide (0 < x21_2) = false := decide_eq_false c16; clear c16; have H' := Aside0.mk H; clear H
                      go_wp2
                      go_roundg k2
                      case measure => have := HJ2.out; have := HK2.out; omega
                      case rel => exact ⟨(wrap64 (x21_2 + 1)), fg, H', ⟨by have := HJ2.out; have := HK2.out; omega⟩, ⟨ks BK785⟩, ⟨bs HB⟩⟩
                  · replace c15 := Bool.eq_false_iff.mpr c15; subst c15
                    have H1 : (some ([] : List Int)) = some r := by rw [if_neg (show ¬ (false = true) by decide)] at H; exact H
                    clear H; have H := H1; clear H1; obtain rfl := Option.some.inj H
                    go_wp2
                    go_ret
                    exact ⟨_, ff, by first | exact Kd.R_nil _ _ _ _ _ | exact Kd.N_nil _ _ _ _ _ | exact Kd.V_nil _ _ _ _ _ | exact Kd.Q_nil _ _ _ _ _ | exact Kd.S_nil _ _ _ _ _, bs HB⟩
                · rw [if_neg c13] at H
                  exact absurd H (by simp)
              · rw [if_neg c12] at H
                exact absurd H (by simp)
            · rw [if_neg c11] at H; have c11b0 : decide (x21_2 < (l1.length : Int)) = false := decide_eq_false c11; clear c11; obtain ⟨y791, hy791⟩ : ∃ y_ : List Int, y_ = (([] : List Int)) := ⟨_, rfl⟩
              replace H : (impl_OutboxRun.l1 k2 y791 (([(⟨a0_0, a0_1, a0_2, a0_3, a0_4⟩ : S24)] : List (S24))) l1 (l1.length : Int) 0) = some r := by first | (rw [hy791]; with_reducible exact H) | (have H2_ := (Option.bind_some _ _).symm.trans H; rw [hy791]; with_reducible exact H2_) | (have H2_ := (Option.bind_some _ _).symm.trans H; with_reducible exact H2_) | with_reducible exact H | (rw [hy791]; exact H) | exact H
              have Ny791 := Aside0.mk hy791; clear hy791; obtain ⟨y794, hy794⟩ : ∃ y_ : List (S24), y_ = (([(⟨a0_0, a0_1, a0_2, a0_3, a0_4⟩ : S24)] : List (S24))) := ⟨_, rfl⟩
              replace H : (impl_OutboxRun.l1 k2 y791 y794 l1 (l1.length : Int) 0) = some r := by first | (rw [hy794]; with_reducible exact H) | (have H2_ := (Option.bind_some _ _).symm.trans H; rw [hy794]; with_reducible exact H2_) | (have H2_ := (Option.bind_some _ _).symm.trans H; with_reducible exact H2_) | with_reducible exact H | (rw [hy794]; exact H) | exact H
              have Ny794 := Aside0.mk hy794; clear hy794; have H' := Aside0.mk H; clear H
              try go_wp2
              replace BK785 := Aside0.mk (blk_drew BK785.out); replace HB := Aside0.mk (below_drew1 HB.out); refine start_ (n := 5) (S := fun w' => True) (ds := []) #[false, false, false, false, false] (by kernel_rfl) rfl rfl trivial (fun hHeld => ?_); refine with_tabW impl_OutboxRun.tab9 impl_OutboxRun.bits9 (fun HT_ HW_ => ?_)
              generalize wr.drew = w21 at BK785 HB hHeld ⊢
              refine inv_at [0, 1, 2, 3, 4] (fun a0_ b a w' => ∃ (v792 : Value) (v795 : Value) (m3_ : Value) (m4_ : Value), a = putSel a0_ b [(0, 43, v792), (1, 44, .agg #[.string a0_0, .int .i64 a0_1, .string a0_2, .int .i64 a0_3, .int .i64 a0_4]), (2, 45, v795), (3, 7, m3_), (4, 8, m4_)] ∧ (w'.heap[gb785]? = some (.cells #[.string a0_0, .int .i64 a0_1, .string a0_2, .int .i64 a0_3, .int .i64 a0_4] 24 (0, 0))) ∧ (Below w.heap.size w w') ∧ (b 0 = true → Kd.R (Kd.int .i64) 2 w' w.heap.size (fun _ => True) v792 y791) ∧ (b 2 = true → Kd.R k24 24 w' w.heap.size (fun k_ => k_ ≠ gb785) v795 y794) ∧ (b 3 = true → (m3_ : Value) = v792) ∧ (b 4 = true → (m4_ : Value) = v795)) HT_.out HW_.out (by kernel_rfl) (by kernel_rfl) ?_ ?_ ?_
              · exact ⟨.bool false, .bool false, .bool false, .bool false, by simp only [putSel, Bool.false_eq_true, if_false], BK785.out, HB.out, fun h_ => absurd h_ (by decide), fun h_ => absurd h_ (by decide), fun h_ => absurd h_ (by decide), fun h_ => absurd h_ (by decide)⟩
              · skip
                clear BK785 HB; refine steps_cons ?_ ?_
                · rintro b a w' ⟨v792, v795, m3_, m4_, ha, Q_BK785, Q_HB, Q_HO793, Q_HO796, Q_X3_, Q_X4_⟩ hb_ hon hoff; refine ⟨_, rfl, fun K hK => ?_⟩; replace ha := Aside0.mk ha; have BK785 := Aside0.mk Q_BK785; have HB := Aside0.mk Q_HB; refine Kd.R_lit_step (Kd.int .i64) _ 2 ?hg (N := 43) ?hd (xs := ([] : List Int)) (inner := []) (ok := fun _ => True) (okp := fun _ => True) ?hr ?hp (fun _ hk => hk) trivial (Below.refl _ _) (Nat.le_refl _) (by simp) ?_; (case hd => rfl); (case hg => rfl); (case hr => first | (go_simp; done) | (go_simp; rfl)); (case hp => exact (Reps.none _ _)); intro v792 w22 ho23 hb hg_ hnew_; clear hg_ hnew_
                  (first | rw [← Ny791.out] at ho23 | (simp only [Int.reduceToNat] at ho23; rw [← Ny791.out] at ho23))
                  have n0_ := Aside0.mk (Kd.R_lower ho23 (below_size (bs HB))); have n1_ := Aside0.mk (blk_below (ks BK785) hb); have n2_ := Aside0.mk (below_step (bs HB) hb)
                  have z_HO796 := fun (h0_ : b 2 = true) => (show Kd.R k24 24 w22 w.heap.size (fun k_ => k_ ≠ gb785) v795 y794 from by first | exact (Kd.R_below (by (with_reducible repeat (first | apply Kd.R_alloc | apply Kd.R_drewN | apply Kd.R_drew)); exact (Q_HO796 h0_)) hb) | exact Kd.R_mono (Kd.R_below (by (with_reducible repeat (first | apply Kd.R_alloc | apply Kd.R_drewN | apply Kd.R_drew)); exact (Q_HO796 h0_)) hb) (fun _ h_ => by first | trivial | exact h_ | exact h_.1))
                  clear BK785; clear HB; have HO793 := n0_; have BK785 := n1_; have HB := n2_; clear n0_ n1_ n2_; clear hb ho23; refine hK.out _ _ ⟨v792, v795, m3_, m4_, (by rw [ha.out]; exact putSel_upk 0 hb_ rfl rfl rfl), (ks BK785), (bs HB), fun _ => (rs HO793), z_HO796, fun h0_ => absurd ((hoff 3 (by kernel_rfl)).symm.trans h0_) (by decide), fun h0_ => absurd ((hoff 4 (by kernel_rfl)).symm.trans h0_) (by decide)⟩
                refine steps_cons ?_ ?_
                · rintro b a w' ⟨v792, v795, m3_, m4_, ha, Q_BK785, Q_HB, Q_HO793, Q_HO796, Q_X3_, Q_X4_⟩ hb_ hon hoff; refine ⟨_, rfl, fun K hK => ?_⟩
                  have e2 : a.tmps[2]? = some (.pointer (some ⟨gb785, 0, none⟩)) := by rw [ha]; exact (putSel_off rfl).trans rfl
                  replace ha := Aside0.mk ha; have BK785 := Aside0.mk Q_BK785; have HB := Aside0.mk Q_HB; have hc0_ : w'.cell? ⟨gb785, 0, none⟩ = some (.string a0_0) := (blk_cell BK785.out 0).trans rfl; have hc1_ : w'.cell? ⟨gb785, 1, none⟩ = some (.int .i64 a0_1) := (blk_cell BK785.out 1).trans rfl; have hc2_ : w'.cell? ⟨gb785, 2, none⟩ = some (.string a0_2) := (blk_cell BK785.out 2).trans rfl; have hc3_ : w'.cell? ⟨gb785, 3, none⟩ = some (.int .i64 a0_3) := (blk_cell BK785.out 3).trans rfl; have hc4_ : w'.cell? ⟨gb785, 4, none⟩ = some (.int .i64 a0_4) := (blk_cell BK785.out 4).trans rfl; refine value_ (w1 := w') (v := .agg #[.string a0_0, .int .i64 a0_1, .string a0_2, .int .i64 a0_3, .int .i64 a0_4]) (by rfl) rfl ?_ ?_
                  · go_simp
                    (try simp only [i64_w])
                    try rfl
                  refine hK.out _ _ ⟨v792, v795, m3_, m4_, (by rw [ha.out]; exact putSel_upk 1 hb_ rfl rfl rfl), Q_BK785, Q_HB, Q_HO793, fun h0_ => absurd ((hoff 2 (by kernel_rfl)).symm.trans h0_) (by decide), Q_X3_, fun h0_ => absurd ((hoff 4 (by kernel_rfl)).symm.trans h0_) (by decide)⟩
                refine steps_cons ?_ ?_
                · rintro b a w' ⟨v792, v795, m3_, m4_, ha, Q_BK785, Q_HB, Q_HO793, Q_HO796, Q_X3_, Q_X4_⟩ hb_ hon hoff; refine ⟨_, rfl, fun K hK => ?_⟩
                  have e44 : a.tmps[44]? = some (.agg #[.string a0_0, .int .i64 a0_1, .string a0_2, .int .i64 a0_3, .int .i64 a0_4]) := by rw [ha]; exact putSel_on (e := (1, 44, .agg #[.string a0_0, .int .i64 a0_1, .string a0_2, .int .i64 a0_3, .int .i64 a0_4])) 1 rfl rfl (hon 1 (by kernel_rfl)) rfl
                  replace ha := Aside0.mk ha; have BK785 := Aside0.mk Q_BK785; have HB := Aside0.mk Q_HB; refine Kd.R_lit_step k24 _ 24 ?hg (N := 45) ?hd (xs := ([(⟨a0_0, a0_1, a0_2, a0_3, a0_4⟩ : S24)] : List (S24))) (inner := [.string a0_0, .int .i64 a0_1, .string a0_2, .int .i64 a0_3, .int .i64 a0_4]) (ok := fun _ => True) (okp := fun _ => True) ?hr ?hp (fun _ hk => hk) trivial (Below.refl _ _) (Nat.le_refl _) (by simp) ?_; (case hd => rfl); (case hg => rfl); (case hr => first | (go_simp; done) | (go_simp; rfl)); (case hp => exact (Reps.c5 (show Kd.M k24 _ _ _ (⟨a0_0, a0_1, a0_2, a0_3, a0_4⟩ : S24) [.string a0_0, .int .i64 a0_1, .string a0_2, .int .i64 a0_3, .int .i64 a0_4] from (k24_mkM _ _ _ (⟨a0_0, a0_1, a0_2, a0_3, a0_4⟩ : S24) )) (Reps.none _ _))); intro v795 w22 ho23 hb hg_ hnew_; clear hg_ hnew_
                  (first | rw [← Ny794.out] at ho23 | (simp only [Int.reduceToNat] at ho23; rw [← Ny794.out] at ho23))
                  have n0_ := Aside0.mk (Kd.R_lower (Kd.R_newB ho23 (g := gb785) (o := .cells #[.string a0_0, .int .i64 a0_1, .string a0_2, .int .i64 a0_3, .int .i64 a0_4] 24 (0, 0)) (ks BK785)) (below_size (bs HB))); have n1_ := Aside0.mk (blk_below (ks BK785) hb); have n2_ := Aside0.mk (below_step (bs HB) hb)
                  have z_HO793 := fun (h0_ : b 0 = true) => (show Kd.R (Kd.int .i64) 2 w22 w.heap.size (fun _ => True) v792 y791 from by first | exact (Kd.R_below (by (with_reducible repeat (first | apply Kd.R_alloc | apply Kd.R_drewN | apply Kd.R_drew)); exact (Q_HO793 h0_)) hb) | exact Kd.R_mono (Kd.R_below (by (with_reducible repeat (first | apply Kd.R_alloc | apply Kd.R_drewN | apply Kd.R_drew)); exact (Q_HO793 h0_)) hb) (fun _ h_ => by first | trivial | exact h_ | exact h_.1))
                  clear BK785; clear HB; have HO796 := n0_; have BK785 := n1_; have HB := n2_; clear n0_ n1_ n2_; clear hb ho23; refine hK.out _ _ ⟨v792, v795, m3_, m4_, (by rw [ha.out]; exact putSel_upk 2 hb_ rfl rfl rfl), (ks BK785), (bs HB), z_HO793, fun _ => (by (with_reducible repeat (first | apply Kd.R_alloc | apply Kd.R_drewN | apply Kd.R_drew)); exact Kd.R_mono HO796.out (fun _ hk => hk.2)), Q_X3_, fun h0_ => absurd ((hoff 4 (by kernel_rfl)).symm.trans h0_) (by decide)⟩
                refine steps_cons ?_ ?_
                · rintro b a w' ⟨v792, v795, m3_, m4_, ha, Q_BK785, Q_HB, Q_HO793, Q_HO796, Q_X3_, Q_X4_⟩ hb_ hon hoff; refine ⟨_, rfl, fun K hK => ?_⟩
                  have e43 : a.tmps[43]? = some (v792) := by rw [ha]; exact putSel_on (e := (0, 43, v792)) 0 rfl rfl (hon 0 (by kernel_rfl)) rfl
                  replace ha := Aside0.mk ha; have BK785 := Aside0.mk Q_BK785; have HB := Aside0.mk Q_HB; have HO793 := Aside0.mk (Q_HO793 (hon 0 (by kernel_rfl))); refine value_ (w1 := w') (v := v792) (by rfl) rfl ?_ ?_
                  · go_simp
                    (try simp only [i64_w])
                    try rfl
                  refine hK.out _ _ ⟨v792, v795, (v792), m4_, (by rw [ha.out]; exact putSel_upk 3 hb_ rfl rfl rfl), Q_BK785, Q_HB, Q_HO793, Q_HO796, fun _ => rfl, fun h0_ => absurd ((hoff 4 (by kernel_rfl)).symm.trans h0_) (by decide)⟩
                refine steps_cons ?_ ?_
                · rintro b a w' ⟨v792, v795, m3_, m4_, ha, Q_BK785, Q_HB, Q_HO793, Q_HO796, Q_X3_, Q_X4_⟩ hb_ hon hoff; refine ⟨_, rfl, fun K hK => ?_⟩
                  have e45 : a.tmps[45]? = some (v795) := by rw [ha]; exact putSel_on (e := (2, 45, v795)) 2 rfl rfl (hon 2 (by kernel_rfl)) rfl
                  replace ha := Aside0.mk ha; have BK785 := Aside0.mk Q_BK785; have HB := Aside0.mk Q_HB; have HO793 := Aside0.mk (Q_HO793 (hon 0 (by kernel_rfl))); have HO796 := Aside0.mk (Q_HO796 (hon 2 (by kernel_rfl))); refine value_ (w1 := w') (v := v795) (by rfl) rfl ?_ ?_
                  · go_simp
                    (try simp only [i64_w])
                    try rfl
                  refine hK.out _ _ ⟨v792, v795, m3_, (v795), (by rw [ha.out]; exact putSel_upk 4 hb_ rfl rfl rfl), Q_BK785, Q_HB, Q_HO793, Q_HO796, Q_X3_, fun _ => rfl⟩
                exact steps_nil
              rintro b a w26 hall ⟨v792, v795, m3_, m4_, ha, Q_BK785, Q_HB, Q_HO793, Q_HO796, Q_X3_, Q_X4_⟩; clear BK785 HB; have hb0_ := hall 0 (by kernel_rfl); have hb1_ := hall 1 (by kernel_rfl); have hb2_ := hall 2 (by kernel_rfl); have hb3_ := hall 3 (by kernel_rfl); have hb4_ := hall 4 (by kernel_rfl); subst ha; obtain rfl := Q_X3_ hb3_; obtain rfl := Q_X4_ hb4_; simp only [putSel, hb0_, hb1_, hb2_, hb3_, hb4_, if_true, Act.put, List.setIfInBounds_toArray, List.set_cons_zero, List.set_cons_succ]; have BK785 := Aside0.mk Q_BK785; clear Q_BK785; have HB := Aside0.mk Q_HB; clear Q_HB; have HO793 := Aside0.mk (Q_HO793 hb0_); clear Q_HO793; have HO796 := Aside0.mk (Q_HO796 hb2_); clear Q_HO796; clear hall hb0_ hb1_ hb2_ hb3_ hb4_
              try go_wp2
              go_loopg [7, 8, 48] k2 (fun kq v7 v8 v48 w' => ∃ (x7_3 : List Int) (x8_3 : List (S24)) (x48_3 : Int), v48 = .int .i64 x48_3 ∧ Aside0 (impl_OutboxRun.l1 kq x7_3 x8_3 l1 (l1.length : Int) x48_3 = some r) ∧ Aside0 (kq ≤ k2) ∧ Aside0 (Kd.R (Kd.int .i64) 2 w' w.heap.size (fun _ => True) v7 x7_3) ∧ Aside0 (Kd.R k24 24 w' w.heap.size (fun k_ => k_ ≠ gb785) v8 x8_3) ∧ Aside0 (w'.heap[gb785]? = some (.cells #[.string a0_0, .int .i64 a0_1, .string a0_2, .int .i64 a0_3, .int .i64 a0_4] 24 (0, 0))) ∧ Aside0 (Below w.heap.size w w'))
              case atStart => exact ⟨(y791), (y794), (0), fg, H', ⟨Nat.le_refl _⟩, ⟨by (with_reducible repeat (first | apply Kd.R_alloc | apply Kd.R_drewN | apply Kd.R_drew)); exact HO793.out⟩, ⟨by (with_reducible repeat (first | apply Kd.R_alloc | apply Kd.R_drewN | apply Kd.R_drew)); exact HO796.out⟩, ⟨ks BK785⟩, ⟨bs HB⟩⟩
              case round =>
                clear H'
                try clear c1
                try clear c2
                try clear p2
                try clear c3
                try clear c4
                try clear c5
                try clear c6
                try clear p6
                try clear p7
                try clear q7
                try clear hx7
                try clear c10
                try clear c11
                try clear c11b0
                try clear c12
                try clear c12b0
                try clear c13
                try clear c13b0
                try clear c15
                try clear c16
                try clear c16b0
                try clear c18
                try clear c18b0
                try clear c19
                try clear c19b0
                try clear c20
                try clear c20b0
                try clear hcz8_0
                try clear hcz8_1
                try clear hcz8_2
                try clear hcz8_3
                try clear hcz8_4
                try clear hfz8_0
                try clear hfz8_1
                try clear hfz8_2
                try clear hfz8_3
                try clear hfz8_4
                try clear hx788_0
                try clear hx790_0
                try clear p2
                try clear p788
                try clear p790
                try clear q788
                try clear q790
                obtain ⟨x7_3, x8_3, x48_3, rfl, HA, HK3, HO_7, HO_8, BK785, HB⟩ := hrel
                cases gk with
                | zero => exact absurd HA.out (by simp [impl_OutboxRun.l1])
                | succ k3 =>
                  have H := HA.out; clear HA; simp only [impl_OutboxRun.l1] at H
                  by_cases c27 : x48_3 < (l1.length : Int)
                  · rw [if_pos c27] at H; have c27b0 : decide (x48_3 < (l1.length : Int)) = true := decide_eq_true c27; clear c27
                    by_cases c28 : 0 ≤ x48_3
                    · rw [if_pos c28] at H; have c28b0 : decide (0 ≤ x48_3) = true := decide_eq_true c28; clear c28
                      by_cases c29 : x48_3 < (l1.length : Int)
                      · rw [if_pos c29] at H; have c29b0 : decide (x48_3 < (l1.length : Int)) = true := decide_eq_true c29; clear c29; replace H := Option.bind_eq_some_iff.mp H; obtain ⟨⟨t798, t801, t804, t807⟩, A300, H⟩ := H; replace H : (if (t801.length : Int) > 0 then (if x7_3.length < 17592186044416 then (impl_OutboxRun.l1 k3 (x7_3 ++ [rd l1 x48_3]) t798 l1 (l1.length : Int) (wrap64 (x48_3 + 1))) else (none)) else (impl_OutboxRun.l1 k3 x7_3 t798 l1 (l1.length : Int) (wrap64 (x48_3 + 1)))) = some r := H; have A30 := Aside0.mk A300; clear A300; have p797 : 0 ≤ (x48_3 : Int) := oa; have q797 : x48_3 < (l1.length : Int) := oa; obtain ⟨ad797, e797, hx797_0⟩ := Kd.at_int HR1.out x48_3 p797 q797
                        cases e797
                        replace hx797_0 := cb HB hx797_0; replace p797 := eq_true p797; replace q797 := eq_true q797; obtain ⟨Ao31, co31, eo31⟩ := Kd.R_slice HO_8.out; subst eo31
                        try go_wp2_with (fail)
                        go_at_call 20; (with_reducible refine (impl_OutboxTick.calls k3 _ _ x8_3 (rd l1 x48_3) t798 t801 t804 t807 _ ?side1 ?side2 A30.out).mono ?_); (case side1 => repeat (first | exact (Kd.R_reads' HO_8.out).2.2 | (with_reducible refine Kd.C_alloc ?_ _) | (with_reducible refine Kd.C_drewN ?_ _) | (with_reducible refine Kd.C_drew ?_))); (case side2 => exact (Kd.R_reads' HO_8.out).2.1); rintro e w32 ⟨v799, v802, v805, rfl, ho0, ho1, ho2, hb⟩; replace HO_7 := Aside0.mk (Kd.R_below (rs HO_7) hb); have HO800 := Aside0.mk (Kd.R_lower (Kd.R_newB (Kd.R_new' ho0 (Kd.R_lt (rs HO_8))) (g := gb785) (o := .cells #[.string a0_0, .int .i64 a0_1, .string a0_2, .int .i64 a0_3, .int .i64 a0_4] 24 (0, 0)) (ks BK785)) (below_size (bs HB))); have HO803 := Aside0.mk (Kd.R_lower ho1 (below_size (bs HB))); have HO806 := Aside0.mk (Kd.R_lower (Kd.R_newB (Kd.R_new' ho2 (Kd.R_lt (rs HO_8))) (g := gb785) (o := .cells #[.string a0_0, .int .i64 a0_1, .string a0_2, .int .i64 a0_3, .int .i64 a0_4] 24 (0, 0)) (ks BK785)) (below_size (bs HB))); replace HO_8 := Aside0.mk (Kd.R_mono (Kd.R_told (Kd.R_told (Kd.R_old (rs HO_8) hb) (Kd.R_base ho0)) (Kd.R_base ho2)) (fun _ h_ => h_.1)); replace BK785 := Aside0.mk (blk_below (ks BK785) hb); replace HB := Aside0.mk (below_step (bs HB) hb); (try clear hb); (try clear hb2); (try clear hk); (try clear hi); (try clear ho0); (try clear ho1); (try clear ho2)
                        by_cases c33 : (t801.length : Int) > 0
                        · rw [if_pos c33] at H; have c33b0 : decide (0 < (t801.length : Int)) = true := decide_eq_true c33; have c33b1 : decide (0 < t801.length) = true := decide_eq_true (by omega); clear c33
                          by_cases c34 : x7_3.length < 17592186044416
                          · rw [if_pos c34] at H; have LMc34 := Aside0.mk c34; clear c34; obtain ⟨y809, hy809⟩ : ∃ y_ : List Int, y_ = (x7_3 ++ [rd l1 x48_3]) := ⟨_, rfl⟩
                            replace H : (impl_OutboxRun.l1 k3 y809 t798 l1 (l1.length : Int) (wrap64 (x48_3 + 1))) = some r := by first | (rw [hy809]; with_reducible exact H) | (have H2_ := (Option.bind_some _ _).symm.trans H; rw [hy809]; with_reducible exact H2_) | (have H2_ := (Option.bind_some _ _).symm.trans H; with_reducible exact H2_) | with_reducible exact H | (rw [hy809]; exact H) | exact H
                            have Ny809 := Aside0.mk hy809; clear hy809; have H' := Aside0.mk H; clear H
                            go_wp2_with (first | ((with_reducible refine gate_dst (N := 11) rfl ?_); refine bx 11 (cs := #[.slice none 0 0, .slice none 0 0, .slice none 0 0, .int .i64 0]) (t := 34) ?_; intro gb808 hg w35 hbox hb; replace HO_7 := Aside0.mk (Kd.R_below (rs HO_7) hb); replace HO_8 := Aside0.mk (Kd.R_below (rs HO_8) hb); replace HO800 := Aside0.mk (Kd.R_below (rs HO800) hb); replace HO803 := Aside0.mk (Kd.R_below (rs HO803) hb); replace HO806 := Aside0.mk (Kd.R_below (rs HO806) hb); have BK808 := Aside0.mk (hbox); have GW808 := Aside0.mk ((gs hg (bs HB))); have GE808 := Aside0.mk ((gs hg (bs HB))); replace HB := Aside0.mk (below_step (bs HB) hb); have NB785_808 := Aside0.mk ((gn hg (ks BK785))); have NB808_785 := Aside0.mk ((gm hg (ks BK785))); replace BK785 := Aside0.mk (blk_below (ks BK785) hb); clear hb hbox hg; obtain ⟨Ao36, co36, eo36⟩ := Kd.R_slice HO800.out; subst eo36; have hnb37 := NB808_785.out; have hnc37 := NB785_808.out; obtain ⟨hcz38_0, hcz38_1, hcz38_2, hcz38_3, hfz38_0, hfz38_1, hfz38_2, hfz38_3⟩ := cf4 BK808; obtain ⟨Ao39, co39, eo39⟩ := Kd.R_slice HO803.out; subst eo39; obtain ⟨Ao40, co40, eo40⟩ := Kd.R_slice HO806.out; subst eo40) | ((with_reducible refine gate_builtin (b := .append) (xs := #[.tmp 61, .tmp 63]) rfl ?_); at_builtin; refine Kd.R_append (Kd.int .i64) (w0 := w) w.heap.size rfl (.tmp 61) (.tmp 63) 25 2 (.int .i64 0) 8 rfl Try.underlying25 info2 rfl (by decide) (by omega) u7 x7_3 (rd l1 x48_3) [.int .i64 (rd l1 x48_3)] (fun _ => True) (fun _ => False) rfl (by first | (go_simp; done) | (go_simp; rfl)) ?aP (fun _ hk => hk.elim) ?aF ?aO ?aB ?aS ?aL ?_; (case aP => exact rfl); (case aB => exact (bs HB)); (case aF => exact (fun _ _ => trivial)); (case aO => exact (Kd.R_mono (rf (Kd.R_types HO_7.out BK808.out (by decide))) (fun _ hk => trivial))); (case aS => exact (below_size (bs HB))); (case aL => have := LMc34.out; omega); intro v810 w41 ho hb hg hat; rw [← Ny809.out] at ho; have n0_ := Aside0.mk (Kd.R_over' (by (with_reducible repeat (first | apply Kd.R_alloc | apply Kd.R_drewN | apply Kd.R_drew)); exact (Kd.R_mono (rf (Kd.R_types HO_8.out BK808.out (by decide))) (fun _ h_ => h_.1))) (Kd.R_typed (by (with_reducible repeat (first | apply Kd.R_alloc | apply Kd.R_drewN | apply Kd.R_drew)); exact (Kd.R_mono (rf (Kd.R_types HO_7.out BK808.out (by decide))) (fun _ h_ => h_.1)))) (by decide) hg); have n1_ := Aside0.mk (blk_grown (ks BK785) hg (Kd.R_ne HO_7.out BK785.out (by decide))); have n2_ := Aside0.mk (Kd.R_over' (by (with_reducible repeat (first | apply Kd.R_alloc | apply Kd.R_drewN | apply Kd.R_drew)); exact (Kd.R_mono (rf (Kd.R_types HO800.out BK808.out (by decide))) (fun _ h_ => h_.1))) (Kd.R_typed (by (with_reducible repeat (first | apply Kd.R_alloc | apply Kd.R_drewN | apply Kd.R_drew)); exact (Kd.R_mono (rf (Kd.R_types HO_7.out BK808.out (by decide))) (fun _ h_ => h_.1)))) (by decide) hg); have n3_ := Aside0.mk (Kd.R_over' (by (with_reducible repeat (first | apply Kd.R_alloc | apply Kd.R_drewN | apply Kd.R_drew)); exact (Kd.R_mono (rf (Kd.R_types HO803.out BK808.out (by decide))) (fun _ h_ => h_.1))) (Kd.R_typed (by (with_reducible repeat (first | apply Kd.R_alloc | apply Kd.R_drewN | apply Kd.R_drew)); exact (Kd.R_mono (rf (Kd.R_types HO_7.out BK808.out (by decide))) (fun _ h_ => h_.1)))) (by decide) hg); have n4_ := Aside0.mk (Kd.R_over' (by (with_reducible repeat (first | apply Kd.R_alloc | apply Kd.R_drewN | apply Kd.R_drew)); exact (Kd.R_mono (rf (Kd.R_types HO806.out BK808.out (by decide))) (fun _ h_ => h_.1))) (Kd.R_typed (by (with_reducible repeat (first | apply Kd.R_alloc | apply Kd.R_drewN | apply Kd.R_drew)); exact (Kd.R_mono (rf (Kd.R_types HO_7.out BK808.out (by decide))) (fun _ h_ => h_.1)))) (by decide) hg); have n5_ := Aside0.mk (blk_grown (g := gb808) (o := .cells #[.slice Ao36 t798.length co36, .slice Ao39 t801.length co39, .slice Ao40 t804.length co40, .int .i64 t807] 34 (0, 0)) (kp BK808) hg (Kd.R_ne HO_7.out BK808.out (by decide))); have n6_ := Aside0.mk (hb); have n7_ := Aside0.mk (ho); clear HO_8; clear BK785; clear HO800; clear HO803; clear HO806; clear BK808; clear HB; clear HO_7; have HO_8 := n0_; have BK785 := n1_; have HO800 := n2_; have HO803 := n3_; have HO806 := n4_; have BK808 := n5_; have HB := n6_; have HO811 := n7_; clear n0_ n1_ n2_ n3_ n4_ n5_ n6_ n7_; clear ho hb hg hat))
                            go_roundg k3
                            case measure => have := HJ2.out; have := HK2.out; have := HK3.out; omega
                            case rel => exact ⟨(y809), (t798), (wrap64 (x48_3 + 1)), fg, H', ⟨by have := HJ2.out; have := HK2.out; have := HK3.out; omega⟩, ⟨by (with_reducible repeat (first | apply Kd.R_alloc | apply Kd.R_drewN | apply Kd.R_drew)); exact HO811.out⟩, ⟨by (with_reducible repeat (first | apply Kd.R_alloc | apply Kd.R_drewN | apply Kd.R_drew)); exact Kd.R_mono HO800.out (fun _ hk => hk.2)⟩, ⟨ks BK785⟩, ⟨bs HB⟩⟩
                          · rw [if_neg c34] at H
                            exact absurd H (by simp)
                        · rw [if_neg c33] at H; have c33b0 : decide (0 < (t801.length : Int)) = false := decide_eq_false c33; have c33b1 : decide (0 < t801.length) = false := decide_eq_false (by omega); clear c33; have H' := Aside0.mk H; clear H
                          go_wp2_with (first | ((with_reducible refine gate_dst (N := 11) rfl ?_); refine bx 11 (cs := #[.slice none 0 0, .slice none 0 0, .slice none 0 0, .int .i64 0]) (t := 34) ?_; intro gb808 hg w42 hbox hb; replace HO_7 := Aside0.mk (Kd.R_below (rs HO_7) hb); replace HO_8 := Aside0.mk (Kd.R_below (rs HO_8) hb); replace HO800 := Aside0.mk (Kd.R_below (rs HO800) hb); replace HO803 := Aside0.mk (Kd.R_below (rs HO803) hb); replace HO806 := Aside0.mk (Kd.R_below (rs HO806) hb); have BK808 := Aside0.mk (hbox); have GW808 := Aside0.mk ((gs hg (bs HB))); have GE808 := Aside0.mk ((gs hg (bs HB))); replace HB := Aside0.mk (below_step (bs HB) hb); have NB785_808 := Aside0.mk ((gn hg (ks BK785))); have NB808_785 := Aside0.mk ((gm hg (ks BK785))); replace BK785 := Aside0.mk (blk_below (ks BK785) hb); clear hb hbox hg; obtain ⟨Ao43, co43, eo43⟩ := Kd.R_slice HO800.out; subst eo43; have hnb44 := NB808_785.out; have hnc44 := NB785_808.out; obtain ⟨hcz45_0, hcz45_1, hcz45_2, hcz45_3, hfz45_0, hfz45_1, hfz45_2, hfz45_3⟩ := cf4 BK808; obtain ⟨Ao46, co46, eo46⟩ := Kd.R_slice HO803.out; subst eo46; obtain ⟨Ao47, co47, eo47⟩ := Kd.R_slice HO806.out; subst eo47))
                          go_roundg k3
                          case measure => have := HJ2.out; have := HK2.out; have := HK3.out; omega
                          case rel => exact ⟨(x7_3), (t798), (wrap64 (x48_3 + 1)), fg, H', ⟨by have := HJ2.out; have := HK2.out; have := HK3.out; omega⟩, ⟨Kd.R_mono (rf (Kd.R_types HO_7.out BK808.out (by decide))) (fun _ hk => trivial)⟩, ⟨Kd.R_mono (rf (Kd.R_types HO800.out BK808.out (by decide))) (fun _ hk => hk.1.2)⟩, ⟨ks BK785⟩, ⟨bs HB⟩⟩
                      · rw [if_neg c29] at H
                        exact absurd H (by simp)
                    · rw [if_neg c28] at H
                      exact absurd H (by simp)
                  · rw [if_neg c27] at H; have c27b0 : decide (x48_3 < (l1.length : Int)) = false := decide_eq_false c27; clear c27; obtain rfl := Option.some.inj H
                    go_wp2
                    go_ret
                    exact ⟨_, ff, by (with_reducible repeat (first | apply Kd.R_alloc | apply Kd.R_drewN | apply Kd.R_drew)); exact HO_7.out, bs HB⟩
end Go.Proofs.Ytefmkmhjbfpelaa.QO
namespace Go.Proofs.Ytefmkmhjbfpelaa.QO
open Go.RowKit Go.Proofs.YtefmkmhjbfpelaaW.PrintWords Go.Proofs.YtefmkmhjbfpelaaW.PrintLast Go.Proofs.YtefmkmhjbfpelaaW.PrintMore
attribute [local go_sem] max2_int min2_int max_two min_two max_three min_three max_four min_four   -- for this text's walks alone
set_option linter.unusedVariables false
set_option linter.unusedSimpArgs false
set_option maxHeartbeats 8000000 in
set_option maxRecDepth 100000 in
theorem spec_l12Wrong.calls (a0 : Int) (r1 : List (S24)) (r2 : List (S105)) (r3 : List (S24)) (r4 : Int) (w : World) (h : spec_l12Wrong.f a0 = some (r1, r2, r3, r4)) :
    Calls Try.prog 77 #[.int .i64 a0] w fun e w' => ∃ v0_ v1_ v2_ : Value, e = .returned (.agg #[v0_, v1_, v2_, .int .i64 r4]) ∧ Kd.R k24 24 w' w.heap.size (fun k_ => some k_ ≠ (v2_ : Value).ownBlock) v0_ r1 ∧ Kd.R k105 105 w' w.heap.size (fun _ => True) v1_ r2 ∧ Kd.R k24 24 w' w.heap.size (fun k_ => some k_ ≠ (v0_ : Value).ownBlock) v2_ r3 ∧ Below w.heap.size w w' := by
  have hu34 := Try.underlying34; have HB := Aside0.mk (Below.refl w.heap.size w); have H : (some (([] : List (S24)), ([] : List (S105)), ([] : List (S24)), a0)) = some (r1, r2, r3, r4) := h; clear h; simp only [Option.some.injEq, Prod.mk.injEq] at H; obtain ⟨rfl, rfl, rfl, rfl⟩ := H
  go_enter Try.func77, Try.ntmps77
  go_wp2_with (first | ((with_reducible refine gate_dst (N := 2) rfl ?_); refine bx 2 (cs := #[.slice none 0 0, .slice none 0 0, .slice none 0 0, .int .i64 0]) (t := 34) ?_; intro gb117 hg w2 hbox hb; have BK117 := Aside0.mk (hbox); have GW117 := Aside0.mk ((gs hg (bs HB))); have GE117 := Aside0.mk ((gs hg (bs HB))); replace HB := Aside0.mk (below_step (bs HB) hb); clear hb hbox hg; obtain ⟨hcz3_0, hcz3_1, hcz3_2, hcz3_3, hfz3_0, hfz3_1, hfz3_2, hfz3_3⟩ := cf4 BK117))
  refine bodyPost_ret (results_cell_row rfl _ _ gb117 34 #[.slice none 0 0, .slice none 0 0, .slice none 0 0, .int .i64 a0] (0, 0) _ rfl (kp BK117) Try.underlying34 rfl (by kernel_rfl)) rfl ?_
  exact ⟨_, _, _, ff, by first | exact Kd.R_nil _ _ _ _ _ | exact Kd.N_nil _ _ _ _ _ | exact Kd.V_nil _ _ _ _ _ | exact Kd.Q_nil _ _ _ _ _ | exact Kd.S_nil _ _ _ _ _, by first | exact Kd.R_nil _ _ _ _ _ | exact Kd.N_nil _ _ _ _ _ | exact Kd.V_nil _ _ _ _ _ | exact Kd.Q_nil _ _ _ _ _ | exact Kd.S_nil _ _ _ _ _, by first | exact Kd.R_nil _ _ _ _ _ | exact Kd.N_nil _ _ _ _ _ | exact Kd.V_nil _ _ _ _ _ | exact Kd.Q_nil _ _ _ _ _ | exact Kd.S_nil _ _ _ _ _, bs HB⟩
end Go.Proofs.Ytefmkmhjbfpelaa.QO
namespace Go.Proofs.Ytefmkmhjbfpelaa.QO
open Go.RowKit Go.Proofs.YtefmkmhjbfpelaaW.PrintWords Go.Proofs.YtefmkmhjbfpelaaW.PrintLast Go.Proofs.YtefmkmhjbfpelaaW.PrintMore
attribute [local go_sem] max2_int min2_int max_two min_two max_three min_three max_four min_four   -- for this text's walks alone
set_option linter.unusedVariables false
set_option linter.unusedSimpArgs false
set_option maxHeartbeats 8000000 in
set_option maxRecDepth 100000 in
theorem spec_l01Name.calls (k : Nat) (a0 : ByteArray) (r : Bool) (w : World) (h : spec_l01Name.f k a0 = some r) :
    Calls Try.prog 118 #[.string a0] w fun e w' => e = .returned (.bool r) ∧ Drawn0 w w' := by
  have H : (if (a0.size : Int) < 1 then (spec_l01Name.j0 k a0 true) else (if (a0.size : Int) > 12 then (spec_l01Name.j0 k a0 true) else (if 0 < (a0.size : Int) then (if (bt a0 0) < 65 then (spec_l01Name.j0 k a0 true) else (spec_l01Name.j0 k a0 (decide ((bt a0 0) > 90)))) else (none)))) = some r := h; clear h; have HC2 := Aside0.mk H; clear H
  go_enter Try.func118, Try.ntmps118
  go_upto_region 1 with (fail)
  go_cut [22] (fun v22 wc => ∃ (kq : Nat) (x22_1 : Bool), v22 = .bool x22_1 ∧ Aside0 (spec_l01Name.j0 kq a0 x22_1 = some r) ∧ Aside0 (kq ≤ k) ∧ Drawn0 w wc)
  case first =>
    have H := HC2.out; clear HC2
    by_cases c3 : (a0.size : Int) < 1
    · rw [if_pos c3] at H; have c3b0 : decide ((a0.size : Int) < 1) = true := decide_eq_true c3; have c3b1 : decide (a0.size < 1) = true := decide_eq_true (by omega); clear c3
      (first | rw [c3b0] | (simp only [i64_w, i32_w]; rw [c3b0]) | skip)
      have H' := Aside0.mk H; clear H
      go_wp2
      go_meet
      case rel => exact ⟨_, (true), fg, H', ⟨fl⟩, by repeat (first | exact Drawn0.refl _ | apply Drawn0.step)⟩
    · rw [if_neg c3] at H; have c3b0 : decide ((a0.size : Int) < 1) = false := decide_eq_false c3; have c3b1 : decide (a0.size < 1) = false := decide_eq_false (by omega); clear c3
      (first | rw [c3b0] | (simp only [i64_w, i32_w]; rw [c3b0]) | skip)
      by_cases c4 : (a0.size : Int) > 12
      · rw [if_pos c4] at H; have c4b0 : decide (12 < (a0.size : Int)) = true := decide_eq_true c4; have c4b1 : decide (12 < a0.size) = true := decide_eq_true (by omega); clear c4; have H' := Aside0.mk H; clear H
        go_wp2
        go_meet
        case rel => exact ⟨_, (true), fg, H', ⟨fl⟩, by repeat (first | exact Drawn0.refl _ | apply Drawn0.step)⟩
      · rw [if_neg c4] at H; have c4b0 : decide (12 < (a0.size : Int)) = false := decide_eq_false c4; have c4b1 : decide (12 < a0.size) = false := decide_eq_false (by omega); clear c4
        by_cases c5 : 0 < (a0.size : Int)
        · rw [if_pos c5] at H; have c5b0 : decide (0 < (a0.size : Int)) = true := decide_eq_true c5; have c5b1 : decide (0 < a0.size) = true := decide_eq_true (by omega); clear c5
          by_cases c7 : (bt a0 0) < 65
          · rw [if_pos c7] at H; have c7b0 : decide ((bt a0 0) < 65) = true := decide_eq_true c7; clear c7; have H' := Aside0.mk H; clear H; have p6 : 0 ≤ (0 : Int) := (by omega); have q6 : 0 < a0.size := (by have : (0 : Int) < (a0.size : Int) := oa; omega); have hx6 : ∀ h : 0 < a0.size, ((a0[0]'h).toNat : Int) = bt a0 0 := bt_at a0 0; clear p6; have qi6 : (0 < (a0.size : Int)) = True := eq_true (oa); replace q6 := eq_true q6
            go_wp2
            go_meet
            case rel => exact ⟨_, (true), fg, H', ⟨fl⟩, by repeat (first | exact Drawn0.refl _ | apply Drawn0.step)⟩
          · rw [if_neg c7] at H; have c7b0 : decide ((bt a0 0) < 65) = false := decide_eq_false c7; clear c7; have H' := Aside0.mk H; clear H; have p6 : 0 ≤ (0 : Int) := (by omega); have q6 : 0 < a0.size := (by have : (0 : Int) < (a0.size : Int) := oa; omega); have hx6 : ∀ h : 0 < a0.size, ((a0[0]'h).toNat : Int) = bt a0 0 := bt_at a0 0; clear p6; have qi6 : (0 < (a0.size : Int)) = True := eq_true (oa); replace q6 := eq_true q6; have p8 : 0 ≤ (0 : Int) := (by omega); have q8 : 0 < a0.size := (by have : (0 : Int) < (a0.size : Int) := oa; omega); have hx8 : ∀ h : 0 < a0.size, ((a0[0]'h).toNat : Int) = bt a0 0 := bt_at a0 0; clear p8; have qi8 : (0 < (a0.size : Int)) = True := eq_true (oa); replace q8 := eq_true q8
            go_wp2
            go_meet
            case rel => exact ⟨_, (decide ((bt a0 0) > 90)), fg, H', ⟨fl⟩, by repeat (first | exact Drawn0.refl _ | apply Drawn0.step)⟩
        · rw [if_neg c5] at H
          exact absurd H (by simp)
  case rest =>
    clear HC2
    try clear c1
    try clear p2
    try clear c3
    try clear c3b0
    try clear c3b1
    try clear c4
    try clear c4b0
    try clear c4b1
    try clear c5
    try clear c5b0
    try clear c5b1
    try clear p6
    try clear q6
    try clear hx6
    try clear qi6
    try clear c7
    try clear c7b0
    try clear p8
    try clear q8
    try clear hx8
    try clear qi8
    try clear p6
    try clear p8
    try clear q6
    try clear q8
    obtain ⟨kq, x22_1, rfl, HA, HJ1, ⟨mc1, rfl⟩⟩ := hcut
    cases kq with
    | zero => exact absurd HA.out (by simp [spec_l01Name.j0])
    | succ kj1 =>
      have H := HA.out; clear HA; simp only [spec_l01Name.j0] at H
      by_cases c9 : x22_1 = true
      · subst c9
        have H1 : (some false) = some r := by rw [if_pos rfl] at H; exact H
        clear H; have H := H1; clear H1; obtain rfl := Option.some.inj H
        go_wp2
        go_ret
        exact ⟨fg, by repeat (first | exact Drawn0.refl _ | apply Drawn0.step)⟩
      · replace c9 := Bool.eq_false_iff.mpr c9; subst c9
        have H1 : (spec_l01Name.l0 kj1 a0 0) = some r := by rw [if_neg (show ¬ (false = true) by decide)] at H; exact H
        clear H; have H := H1; clear H1; have H' := Aside0.mk H; clear H
        go_wp2
        go_loopg [3] kj1 (fun kq v3 w' => ∃ (x3_2 : Int), v3 = .int .i64 x3_2 ∧ Aside0 (spec_l01Name.l0 kq a0 x3_2 = some r) ∧ Aside0 (kq ≤ kj1) ∧ Drawn0 w w')
        case atStart => exact ⟨(0), fg, H', ⟨Nat.le_refl _⟩, by repeat (first | exact Drawn0.refl _ | apply Drawn0.step)⟩
        case round =>
          clear H'
          try clear c1
          try clear p2
          try clear c3
          try clear c3b0
          try clear c3b1
          try clear c4
          try clear c4b0
          try clear c4b1
          try clear c5
          try clear c5b0
          try clear c5b1
          try clear p6
          try clear q6
          try clear hx6
          try clear qi6
          try clear c7
          try clear c7b0
          try clear p8
          try clear q8
          try clear hx8
          try clear qi8
          try clear c9
          try clear p2
          try clear p6
          try clear p8
          try clear q6
          try clear q8
          obtain ⟨x3_2, rfl, HA, HK2, ⟨m2, rfl⟩⟩ := hrel
          cases gk with
          | zero => exact absurd HA.out (by simp [spec_l01Name.l0])
          | succ k2 =>
            have H := HA.out; clear HA; simp only [spec_l01Name.l0] at H
            by_cases c10 : x3_2 < (a0.size : Int)
            · rw [if_pos c10] at H; have c10b0 : decide (x3_2 < (a0.size : Int)) = true := decide_eq_true c10; clear c10
              by_cases c11 : 0 ≤ x3_2
              · rw [if_pos c11] at H; have c11b0 : decide (0 ≤ x3_2) = true := decide_eq_true c11; clear c11
                by_cases c13 : (bt a0 x3_2) ≥ 65
                · rw [if_pos c13] at H; have c13b0 : decide (65 ≤ (bt a0 x3_2)) = true := decide_eq_true c13; clear c13
                  by_cases c14 : (bt a0 x3_2) ≤ 90
                  · rw [if_pos c14] at H; have c14b0 : decide ((bt a0 x3_2) ≤ 90) = true := decide_eq_true c14; clear c14; have H' := Aside0.mk H; clear H; have p12 : 0 ≤ (x3_2 : Int) := oa; have q12 : x3_2 < (a0.size : Int) := oa; have hx12 := bt_at a0 x3_2; replace p12 := eq_true p12; replace q12 := eq_true q12
                    go_wp2
                    go_roundg k2
                    case measure => have := HJ1.out; have := HK2.out; omega
                    case rel => exact ⟨(wrap64 (x3_2 + 1)), fg, H', ⟨by have := HJ1.out; have := HK2.out; omega⟩, by repeat (first | exact Drawn0.refl _ | apply Drawn0.step)⟩
                  · rw [if_neg c14] at H; have c14b0 : decide ((bt a0 x3_2) ≤ 90) = false := decide_eq_false c14; clear c14
                    by_cases c15 : (bt a0 x3_2) ≥ 48
                    · rw [if_pos c15] at H; have c15b0 : decide (48 ≤ (bt a0 x3_2)) = true := decide_eq_true c15; clear c15
                      by_cases c16 : (bt a0 x3_2) ≤ 57
                      · rw [if_pos c16] at H; have c16b0 : decide ((bt a0 x3_2) ≤ 57) = true := decide_eq_true c16; clear c16; have H' := Aside0.mk H; clear H; have p12 : 0 ≤ (x3_2 : Int) := oa; have q12 : x3_2 < (a0.size : Int) := oa; have hx12 := bt_at a0 x3_2; replace p12 := eq_true p12; replace q12 := eq_true q12
                        go_wp2
                        go_roundg k2
                        case measure => have := HJ1.out; have := HK2.out; omega
                        case rel => exact ⟨(wrap64 (x3_2 + 1)), fg, H', ⟨by have := HJ1.out; have := HK2.out; omega⟩, by repeat (first | exact Drawn0.refl _ | apply Drawn0.step)⟩
                      · rw [if_neg c16] at H; have c16b0 : decide ((bt a0 x3_2) ≤ 57) = false := decide_eq_false c16; clear c16
                        by_cases c17 : ((bt a0 x3_2) = 45)
                        · rw [if_pos c17] at H; have c17b0 : ((bt a0 x3_2) == 45) = true := beq_iff_eq.mpr c17; have c17b1 : ((bt a0 x3_2) != 45) = false := bne_eq_false_iff_eq.mpr c17; clear c17; have H' := Aside0.mk H; clear H; have p12 : 0 ≤ (x3_2 : Int) := oa; have q12 : x3_2 < (a0.size : Int) := oa; have hx12 := bt_at a0 x3_2; replace p12 := eq_true p12; replace q12 := eq_true q12
                          go_wp2
                          go_roundg k2
                          case measure => have := HJ1.out; have := HK2.out; omega
                          case rel => exact ⟨(wrap64 (x3_2 + 1)), fg, H', ⟨by have := HJ1.out; have := HK2.out; omega⟩, by repeat (first | exact Drawn0.refl _ | apply Drawn0.step)⟩
                        · rw [if_neg c17] at H; have c17b0 : ((bt a0 x3_2) == 45) = false := beq_eq_false_iff_ne.mpr c17; have c17b1 : ((bt a0 x3_2) != 45) = true := bne_iff_ne.mpr c17; obtain rfl := Option.some.inj H; have p12 : 0 ≤ (x3_2 : Int) := oa; have q12 : x3_2 < (a0.size : Int) := oa; have hx12 := bt_at a0 x3_2; replace p12 := eq_true p12; replace q12 := eq_true q12
                          go_wp2
                          go_ret
                          exact ⟨fg, by repeat (first | exact Drawn0.refl _ | apply Drawn0.step)⟩
                    · rw [if_neg c15] at H; have c15b0 : decide (48 ≤ (bt a0 x3_2)) = false := decide_eq_false c15; clear c15
                      by_cases c18 : ((bt a0 x3_2) = 45)
                      · rw [if_pos c18] at H; have c18b0 : ((bt a0 x3_2) == 45) = true := beq_iff_eq.mpr c18; have c18b1 : ((bt a0 x3_2) != 45) = false := bne_eq_false_iff_eq.mpr c18; clear c18; have H' := Aside0.mk H; clear H; have p12 : 0 ≤ (x3_2 : Int) := oa; have q12 : x3_2 < (a0.size : Int) := oa; have hx12 := bt_at a0 x3_2; replace p12 := eq_true p12; replace q12 := eq_true q12
                        go_wp2
                        go_roundg k2
                        case measure => have := HJ1.out; have := HK2.out; omega
                        case rel => exact ⟨(wrap64 (x3_2 + 1)), fg, H', ⟨by have := HJ1.out; have := HK2.out; omega⟩, by repeat (first | exact Drawn0.refl _ | apply Drawn0.step)⟩
                      · rw [if_neg c18] at H; have c18b0 : ((bt a0 x3_2) == 45) = false := beq_eq_false_iff_ne.mpr c18; have c18b1 : ((bt a0 x3_2) != 45) = true := bne_iff_ne.mpr c18; obtain rfl := Option.some.inj H; have p12 : 0 ≤ (x3_2 : Int) := oa; have q12 : x3_2 < (a0.size : Int) := oa; have hx12 := bt_at a0 x3_2; replace p12 := eq_true p12; replace q12 := eq_true q12
                        go_wp2
                        go_ret
                        exact ⟨fg, by repeat (first | exact Drawn0.refl _ | apply Drawn0.step)⟩
                · rw [if_neg c13] at H; have c13b0 : decide (65 ≤ (bt a0 x3_2)) = false := decide_eq_false c13; clear c13
                  by_cases c19 : (bt a0 x3_2) ≥ 48
                  · rw [if_pos c19] at H; have c19b0 : decide (48 ≤ (bt a0 x3_2)) = true := decide_eq_true c19; clear c19
                    by_cases c20 : (bt a0 x3_2) ≤ 57
                    · rw [if_pos c20] at H; have c20b0 : decide ((bt a0 x3_2) ≤ 57) = true := decide_eq_true c20; clear c20; have H' := Aside0.mk H; clear H; have p12 : 0 ≤ (x3_2 : Int) := oa; have q12 : x3_2 < (a0.size : Int) := oa; have hx12 := bt_at a0 x3_2; replace p12 := eq_true p12; replace q12 := eq_true q12
                      go_wp2
                      go_roundg k2
                      case measure => have := HJ1.out; have := HK2.out; omega
                      case rel => exact ⟨(wrap64 (x3_2 + 1)), fg, H', ⟨by have := HJ1.out; have := HK2.out; omega⟩, by repeat (first | exact Drawn0.refl _ | apply Drawn0.step)⟩
                    · rw [if_neg c20] at H; have c20b0 : decide ((bt a0 x3_2) ≤ 57) = false := decide_eq_false c20; clear c20
                      by_cases c21 : ((bt a0 x3_2) = 45)
                      · rw [if_pos c21] at H; have c21b0 : ((bt a0 x3_2) == 45) = true := beq_iff_eq.mpr c21; have c21b1 : ((bt a0 x3_2) != 45) = false := bne_eq_false_iff_eq.mpr c21; clear c21; have H' := Aside0.mk H; clear H; have p12 : 0 ≤ (x3_2 : Int) := oa; have q12 : x3_2 < (a0.size : Int) := oa; have hx12 := bt_at a0 x3_2; replace p12 := eq_true p12; replace q12 := eq_true q12
                        go_wp2
                        go_roundg k2
                        case measure => have := HJ1.out; have := HK2.out; omega
                        case rel => exact ⟨(wrap64 (x3_2 + 1)), fg, H', ⟨by have := HJ1.out; have := HK2.out; omega⟩, by repeat (first | exact Drawn0.refl _ | apply Drawn0.step)⟩
                      · rw [if_neg c21] at H; have c21b0 : ((bt a0 x3_2) == 45) = false := beq_eq_false_iff_ne.mpr c21; have c21b1 : ((bt a0 x3_2) != 45) = true := bne_iff_ne.mpr c21; obtain rfl := Option.some.inj H; have p12 : 0 ≤ (x3_2 : Int) := oa; have q12 : x3_2 < (a0.size : Int) := oa; have hx12 := bt_at a0 x3_2; replace p12 := eq_true p12; replace q12 := eq_true q12
                        go_wp2
                        go_ret
                        exact ⟨fg, by repeat (first | exact Drawn0.refl _ | apply Drawn0.step)⟩
                  · rw [if_neg c19] at H; have c19b0 : decide (48 ≤ (bt a0 x3_2)) = false := decide_eq_false c19; clear c19
                    by_cases c22 : ((bt a0 x3_2) = 45)
                    · rw [if_pos c22] at H; have c22b0 : ((bt a0 x3_2) == 45) = true := beq_iff_eq.mpr c22; have c22b1 : ((bt a0 x3_2) != 45) = false := bne_eq_false_iff_eq.mpr c22; clear c22; have H' := Aside0.mk H; clear H; have p12 : 0 ≤ (x3_2 : Int) := oa; have q12 : x3_2 < (a0.size : Int) := oa; have hx12 := bt_at a0 x3_2; replace p12 := eq_true p12; replace q12 := eq_true q12
                      go_wp2
                      go_roundg k2
                      case measure => have := HJ1.out; have := HK2.out; omega
                      case rel => exact ⟨(wrap64 (x3_2 + 1)), fg, H', ⟨by have := HJ1.out; have := HK2.out; omega⟩, by repeat (first | exact Drawn0.refl _ | apply Drawn0.step)⟩
                    · rw [if_neg c22] at H; have c22b0 : ((bt a0 x3_2) == 45) = false := beq_eq_false_iff_ne.mpr c22; have c22b1 : ((bt a0 x3_2) != 45) = true := bne_iff_ne.mpr c22; obtain rfl := Option.some.inj H; have p12 : 0 ≤ (x3_2 : Int) := oa; have q12 : x3_2 < (a0.size : Int) := oa; have hx12 := bt_at a0 x3_2; replace p12 := eq_true p12; replace q12 := eq_true q12
                      go_wp2
                      go_ret
                      exact ⟨fg, by repeat (first | exact Drawn0.refl _ | apply Drawn0.step)⟩
              · rw [if_neg c11] at H
                exact absurd H (by simp)
            · rw [if_neg c10] at H; have c10b0 : decide (x3_2 < (a0.size : Int)) = false := decide_eq_false c10; clear c10; obtain rfl := Option.some.inj H
              go_wp2
              go_ret
              exact ⟨fg, by repeat (first | exact Drawn0.refl _ | apply Drawn0.step)⟩
end Go.Proofs.Ytefmkmhjbfpelaa.QO
namespace Go.Proofs.Ytefmkmhjbfpelaa.QO
open Go.RowKit Go.Proofs.YtefmkmhjbfpelaaW.PrintWords Go.Proofs.YtefmkmhjbfpelaaW.PrintLast Go.Proofs.YtefmkmhjbfpelaaW.PrintMore
attribute [local go_sem] max2_int min2_int max_two min_two max_three min_three max_four min_four   -- for this text's walks alone
set_option linter.unusedVariables false
set_option linter.unusedSimpArgs false
set_option maxHeartbeats 8000000 in
set_option maxRecDepth 100000 in
theorem spec_l01Control.calls (a0 : Int) (r : Bool) (w : World) (h : spec_l01Control.f a0 = some r) :
    Calls Try.prog 128 #[.int .i64 a0] w fun e w' => e = .returned (.bool r) ∧ Drawn0 w w' := by
  have H : (if a0 ≥ 1 then (some (decide (a0 ≤ 999999))) else (some false)) = some r := h; clear h
  by_cases c2 : a0 ≥ 1
  · rw [if_pos c2] at H; have c2b0 : decide (1 ≤ a0) = true := decide_eq_true c2; clear c2; obtain rfl := Option.some.inj H
    go_enter Try.func128, Try.ntmps128
    go_wp2
    go_ret
    exact ⟨fg, by repeat (first | exact Drawn0.refl _ | apply Drawn0.step)⟩
  · rw [if_neg c2] at H; have c2b0 : decide (1 ≤ a0) = false := decide_eq_false c2; clear c2; obtain rfl := Option.some.inj H
    go_enter Try.func128, Try.ntmps128
    go_wp2
    go_ret
    exact ⟨fg, by repeat (first | exact Drawn0.refl _ | apply Drawn0.step)⟩
set_option maxHeartbeats 8000000 in
set_option maxRecDepth 100000 in
theorem spec_l01Day.calls (a0 : Int) (r : Bool) (w : World) (h : spec_l01Day.f a0 = some r) :
    Calls Try.prog 75 #[.int .i64 a0] w fun e w' => e = .returned (.bool r) ∧ Drawn0 w w' := by
  have H : (if a0 ≥ 0 then (some (decide (a0 ≤ 100000))) else (some false)) = some r := h; clear h
  by_cases c2 : a0 ≥ 0
  · rw [if_pos c2] at H; have c2b0 : decide (0 ≤ a0) = true := decide_eq_true c2; clear c2; obtain rfl := Option.some.inj H
    go_enter Try.func75, Try.ntmps75
    go_wp2
    go_ret
    exact ⟨fg, by repeat (first | exact Drawn0.refl _ | apply Drawn0.step)⟩
  · rw [if_neg c2] at H; have c2b0 : decide (0 ≤ a0) = false := decide_eq_false c2; clear c2; obtain rfl := Option.some.inj H
    go_enter Try.func75, Try.ntmps75
    go_wp2
    go_ret
    exact ⟨fg, by repeat (first | exact Drawn0.refl _ | apply Drawn0.step)⟩
set_option maxHeartbeats 8000000 in
set_option maxRecDepth 100000 in
theorem spec_l12Out.calls (k : Nat) (a0_0 : ByteArray) (a0_1 : Int) (a0_2 : ByteArray) (a0_3 : Int) (a0_4 : Int) (r : Bool) (w : World) (h : spec_l12Out.f k a0_0 a0_1 a0_2 a0_3 a0_4 = some r) :
    Calls Try.prog 74 #[.agg #[.string a0_0, .int .i64 a0_1, .string a0_2, .int .i64 a0_3, .int .i64 a0_4]] w fun e w' => e = .returned (.bool r) ∧ Below w.heap.size w w' := by
  have hu24 := Try.underlying24; have HB := Aside0.mk (Below.refl w.heap.size w); have H : ((spec_l01Name.f k a0_0).bind fun t119 => (if t119 = true then ((spec_l01Control.f a0_1).bind fun t120 => (if t120 = true then (if (a0_2.size : Int) ≥ 1 then (if (a0_2.size : Int) ≤ 20000 then (if a0_3 ≥ 0 then (if a0_3 ≤ 5 then ((spec_l01Day.f a0_4).bind fun t121 => (some t121)) else (some false)) else (some false)) else (some false)) else (some false)) else (some false))) else (some false))) = some r := h; clear h; replace H := Option.bind_eq_some_iff.mp H; obtain ⟨t119, A20, H⟩ := H; replace H : (if t119 = true then ((spec_l01Control.f a0_1).bind fun t120 => (if t120 = true then (if (a0_2.size : Int) ≥ 1 then (if (a0_2.size : Int) ≤ 20000 then (if a0_3 ≥ 0 then (if a0_3 ≤ 5 then ((spec_l01Day.f a0_4).bind fun t121 => (some t121)) else (some false)) else (some false)) else (some false)) else (some false)) else (some false))) else (some false)) = some r := H; have A2 := Aside0.mk A20; clear A20
  go_enter Try.func74, Try.ntmps74
  try go_wp2_with (first | ((with_reducible refine gate_dst (N := 1) rfl ?_); (try (refine gate_guard (by rfl) ?_; dsimp only)); refine bx 1 (cs := #[.string a0_0, .int .i64 a0_1, .string a0_2, .int .i64 a0_3, .int .i64 a0_4]) (t := 24) ?_; intro gb118 hg w3 hbox hb; have BK118 := Aside0.mk (hbox); have GW118 := Aside0.mk ((gs hg (bs HB))); have GE118 := Aside0.mk ((gs hg (bs HB))); replace HB := Aside0.mk (below_step (bs HB) hb); clear hb hbox hg; obtain ⟨hcz4_0, hcz4_1, hcz4_2, hcz4_3, hcz4_4, hfz4_0, hfz4_1, hfz4_2, hfz4_3, hfz4_4⟩ := cf5 BK118))
  go_at_call 118; (with_reducible refine (spec_l01Name.calls k a0_0 t119 _ A2.out).mono ?_); rintro e w' ⟨rfl, ⟨nd, rfl⟩⟩
  by_cases c5 : t119 = true
  · subst c5
    have H1 : ((spec_l01Control.f a0_1).bind fun t120 => (if t120 = true then (if (a0_2.size : Int) ≥ 1 then (if (a0_2.size : Int) ≤ 20000 then (if a0_3 ≥ 0 then (if a0_3 ≤ 5 then ((spec_l01Day.f a0_4).bind fun t121 => (some t121)) else (some false)) else (some false)) else (some false)) else (some false)) else (some false))) = some r := by rw [if_pos rfl] at H; exact H
    clear H; have H := H1; clear H1; replace H := Option.bind_eq_some_iff.mp H; obtain ⟨t120, A60, H⟩ := H; replace H : (if t120 = true then (if (a0_2.size : Int) ≥ 1 then (if (a0_2.size : Int) ≤ 20000 then (if a0_3 ≥ 0 then (if a0_3 ≤ 5 then ((spec_l01Day.f a0_4).bind fun t121 => (some t121)) else (some false)) else (some false)) else (some false)) else (some false)) else (some false)) = some r := H; have A6 := Aside0.mk A60; clear A60; obtain ⟨hcz7_0, hcz7_1, hcz7_2, hcz7_3, hcz7_4, hfz7_0, hfz7_1, hfz7_2, hfz7_3, hfz7_4⟩ := cf5 BK118
    try go_wp2_with (fail)
    go_at_call 128; (with_reducible refine (spec_l01Control.calls a0_1 t120 _ A6.out).mono ?_); rintro e w' ⟨rfl, ⟨nd, rfl⟩⟩
    by_cases c8 : t120 = true
    · subst c8
      have H1 : (if (a0_2.size : Int) ≥ 1 then (if (a0_2.size : Int) ≤ 20000 then (if a0_3 ≥ 0 then (if a0_3 ≤ 5 then ((spec_l01Day.f a0_4).bind fun t121 => (some t121)) else (some false)) else (some false)) else (some false)) else (some false)) = some r := by rw [if_pos rfl] at H; exact H
      clear H; have H := H1; clear H1
      by_cases c9 : (a0_2.size : Int) ≥ 1
      · rw [if_pos c9] at H; have c9b0 : decide (1 ≤ (a0_2.size : Int)) = true := decide_eq_true c9; have c9b1 : decide (1 ≤ a0_2.size) = true := decide_eq_true (by omega); clear c9
        by_cases c10 : (a0_2.size : Int) ≤ 20000
        · rw [if_pos c10] at H; have c10b0 : decide ((a0_2.size : Int) ≤ 20000) = true := decide_eq_true c10; have c10b1 : decide (a0_2.size ≤ 20000) = true := decide_eq_true (by omega); clear c10
          by_cases c11 : a0_3 ≥ 0
          · rw [if_pos c11] at H; have c11b0 : decide (0 ≤ a0_3) = true := decide_eq_true c11; clear c11
            by_cases c12 : a0_3 ≤ 5
            · rw [if_pos c12] at H; have c12b0 : decide (a0_3 ≤ 5) = true := decide_eq_true c12; clear c12; replace H := Option.bind_eq_some_iff.mp H; obtain ⟨t121, A130, H⟩ := H; replace H : (some t121) = some r := H; have A13 := Aside0.mk A130; clear A130; obtain rfl := Option.some.inj H; obtain ⟨hcz14_0, hcz14_1, hcz14_2, hcz14_3, hcz14_4, hfz14_0, hfz14_1, hfz14_2, hfz14_3, hfz14_4⟩ := cf5 BK118
              go_wp2_with (first | (go_at_call 75; (with_reducible refine (spec_l01Day.calls a0_4 t121 _ A13.out).mono ?_); rintro e w' ⟨rfl, ⟨nd, rfl⟩⟩))
              go_ret
              exact ⟨ff, bs HB⟩
            · rw [if_neg c12] at H; have c12b0 : decide (a0_3 ≤ 5) = false := decide_eq_false c12; clear c12; obtain rfl := Option.some.inj H; obtain ⟨hcz15_0, hcz15_1, hcz15_2, hcz15_3, hcz15_4, hfz15_0, hfz15_1, hfz15_2, hfz15_3, hfz15_4⟩ := cf5 BK118
              go_wp2
              go_ret
              exact ⟨ff, bs HB⟩
          · rw [if_neg c11] at H; have c11b0 : decide (0 ≤ a0_3) = false := decide_eq_false c11; clear c11; obtain rfl := Option.some.inj H; obtain ⟨hcz16_0, hcz16_1, hcz16_2, hcz16_3, hcz16_4, hfz16_0, hfz16_1, hfz16_2, hfz16_3, hfz16_4⟩ := cf5 BK118
            go_wp2
            go_ret
            exact ⟨ff, bs HB⟩
        · rw [if_neg c10] at H; have c10b0 : decide ((a0_2.size : Int) ≤ 20000) = false := decide_eq_false c10; have c10b1 : decide (a0_2.size ≤ 20000) = false := decide_eq_false (by omega); clear c10; obtain rfl := Option.some.inj H; obtain ⟨hcz17_0, hcz17_1, hcz17_2, hcz17_3, hcz17_4, hfz17_0, hfz17_1, hfz17_2, hfz17_3, hfz17_4⟩ := cf5 BK118
          go_wp2
          go_ret
          exact ⟨ff, bs HB⟩
      · rw [if_neg c9] at H; have c9b0 : decide (1 ≤ (a0_2.size : Int)) = false := decide_eq_false c9; have c9b1 : decide (1 ≤ a0_2.size) = false := decide_eq_false (by omega); clear c9; obtain rfl := Option.some.inj H; obtain ⟨hcz18_0, hcz18_1, hcz18_2, hcz18_3, hcz18_4, hfz18_0, hfz18_1, hfz18_2, hfz18_3, hfz18_4⟩ := cf5 BK118
        go_wp2
        go_ret
        exact ⟨ff, bs HB⟩
    · replace c8 := Bool.eq_false_iff.mpr c8; subst c8
      have H1 : (some false) = some r := by rw [if_neg (show ¬ (false = true) by decide)] at H; exact H
      clear H; have H := H1; clear H1; obtain rfl := Option.some.inj H
      go_wp2
      go_ret
      exact ⟨ff, bs HB⟩
  · replace c5 := Bool.eq_false_iff.mpr c5; subst c5
    have H1 : (some false) = some r := by rw [if_neg (show ¬ (false = true) by decide)] at H; exact H
    clear H; have H := H1; clear H1; obtain rfl := Option.some.inj H
    go_wp2
    go_ret
    exact ⟨ff, bs HB⟩
end Go.Proofs.Ytefmkmhjbfpelaa.QO
