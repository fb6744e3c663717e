-- Merged by a program of this session (wip/tool/pack.py) out of its own texts for this claim.
import Derived.Test.YtefmkmhjbfpelaaKFnMoves0
import Derived.Test.YtefmkmhjbfpelaaKFnMoves1
import Derived.Test.YtefmkmhjbfpelaaKFnMoves2
import Derived.Test.YtefmkmhjbfpelaaKFnMoves3
import Derived.Test.YtefmkmhjbfpelaaKFnMoves8
import Derived.Test.YtefmkmhjbfpelaaKFnMoves10
import Derived.Test.YtefmkmhjbfpelaaKFnMoves12
import Derived.Test.YtefmkmhjbfpelaaKFnMoves17
namespace Go.Proofs.Ytefmkmhjbfpelaa.QM
open Go.RowKit Go.Proofs.YtefmkmhjbfpelaaW.PrintWords Go.Proofs.YtefmkmhjbfpelaaW.PrintLast Go.Proofs.YtefmkmhjbfpelaaW.PrintMore
attribute [local go_sem] max2_int min2_int max_two min_two max_three min_three max_four min_four   -- for this text's walks alone
set_option linter.unusedVariables false
set_option linter.unusedSimpArgs false
attribute [local go_sem high] eqA54 eqA117
set_option maxHeartbeats 8000000 in
set_option maxRecDepth 100000 in
theorem laws_lwBook.calls (k : Nat) (A0_0 : Option Addr) (c0_0 : Nat) (l0_0 : List (S117)) (A0_1 : Option Addr) (c0_1 : Nat) (l0_1 : List (S54)) (A1_0 : Option Addr) (c1_0 : Nat) (l1_0 : List (S117)) (A1_1 : Option Addr) (c1_1 : Nat) (l1_1 : List (S54)) (r : Bool) (w : World) (hr0_0 : Kd.C k117 w A0_0 l0_0.length l0_0) (hc0_0 : l0_0.length ≤ c0_0) (hr0_1 : Kd.C k54 w A0_1 l0_1.length l0_1) (hc0_1 : l0_1.length ≤ c0_1) (hr1_0 : Kd.C k117 w A1_0 l1_0.length l1_0) (hc1_0 : l1_0.length ≤ c1_0) (hr1_1 : Kd.C k54 w A1_1 l1_1.length l1_1) (hc1_1 : l1_1.length ≤ c1_1) (h : laws_lwBook.f k l0_0 l0_1 l1_0 l1_1 = some r) :
    Calls Try.prog 63 #[.agg #[.slice A0_0 l0_0.length c0_0, .slice A0_1 l0_1.length c0_1], .agg #[.slice A1_0 l1_0.length c1_0, .slice A1_1 l1_1.length c1_1]] w fun e w' => e = .returned (.bool r) ∧ Below w.heap.size w w' := by
  have hu47 := Try.underlying47; have hu117 := Try.underlying117; have hu54 := Try.underlying54; have HR0_0 := Aside0.mk hr0_0; have HC0_0 := Aside0.mk hc0_0; clear hr0_0 hc0_0; have HR0_1 := Aside0.mk hr0_1; have HC0_1 := Aside0.mk hc0_1; clear hr0_1 hc0_1; have HR1_0 := Aside0.mk hr1_0; have HC1_0 := Aside0.mk hc1_0; clear hr1_0 hc1_0; have HR1_1 := Aside0.mk hr1_1; have HC1_1 := Aside0.mk hc1_1; clear hr1_1 hc1_1; have HB := Aside0.mk (Below.refl w.heap.size w); have H : (if (l0_0.length : Int) = (l1_0.length : Int) then (laws_lwBook.j0 k ((l0_1.length : Int) != (l1_1.length : Int)) l0_0 l0_1 l1_0 l1_1) else (laws_lwBook.j0 k true l0_0 l0_1 l1_0 l1_1)) = some r := h; clear h; have HC3 := Aside0.mk H; clear H
  go_enter Try.func63, Try.ntmps63
  go_upto_region 1 with (first | ((with_reducible refine gate_dst (N := 2) rfl ?_); (try (refine gate_guard (by rfl) ?_; dsimp only)); refine bx 2 (cs := #[.slice A0_0 l0_0.length c0_0, .slice A0_1 l0_1.length c0_1]) (t := 47) ?_; intro gb707 hg w4 hbox hb; have BK707 := Aside0.mk (hbox); have GW707 := Aside0.mk ((gs hg (bs HB))); have GE707 := Aside0.mk ((gs hg (bs HB))); replace HB := Aside0.mk (below_step (bs HB) hb); clear hb hbox hg) | ((with_reducible refine gate_dst (N := 3) rfl ?_); (try (refine gate_guard (by rfl) ?_; dsimp only)); refine bx 3 (cs := #[.slice A1_0 l1_0.length c1_0, .slice A1_1 l1_1.length c1_1]) (t := 47) ?_; intro gb708 hg w5 hbox hb; have BK708 := Aside0.mk (hbox); have GW708 := Aside0.mk ((gs hg (bs HB))); have GE708 := Aside0.mk ((gs hg (bs HB))); replace HB := Aside0.mk (below_step (bs HB) hb); have NB707_708 := Aside0.mk ((gn hg (ks BK707))); have NB708_707 := Aside0.mk ((gm hg (ks BK707))); replace BK707 := Aside0.mk (blk_below (ks BK707) hb); clear hb hbox hg))
  repeat (go_quiet (first | ((with_reducible refine gate_dst (N := 2) rfl ?_); (try (refine gate_guard (by rfl) ?_; dsimp only)); refine bx 2 (cs := #[.slice A0_0 l0_0.length c0_0, .slice A0_1 l0_1.length c0_1]) (t := 47) ?_; intro gb707 hg w4 hbox hb; have BK707 := Aside0.mk (hbox); have GW707 := Aside0.mk ((gs hg (bs HB))); have GE707 := Aside0.mk ((gs hg (bs HB))); replace HB := Aside0.mk (below_step (bs HB) hb); clear hb hbox hg) | ((with_reducible refine gate_dst (N := 3) rfl ?_); (try (refine gate_guard (by rfl) ?_; dsimp only)); refine bx 3 (cs := #[.slice A1_0 l1_0.length c1_0, .slice A1_1 l1_1.length c1_1]) (t := 47) ?_; intro gb708 hg w5 hbox hb; have BK708 := Aside0.mk (hbox); have GW708 := Aside0.mk ((gs hg (bs HB))); have GE708 := Aside0.mk ((gs hg (bs HB))); replace HB := Aside0.mk (below_step (bs HB) hb); have NB707_708 := Aside0.mk ((gn hg (ks BK707))); have NB708_707 := Aside0.mk ((gm hg (ks BK707))); replace BK707 := Aside0.mk (blk_below (ks BK707) hb); clear hb hbox hg)); go_upto_region 1 with (first | ((with_reducible refine gate_dst (N := 2) rfl ?_); (try (refine gate_guard (by rfl) ?_; dsimp only)); refine bx 2 (cs := #[.slice A0_0 l0_0.length c0_0, .slice A0_1 l0_1.length c0_1]) (t := 47) ?_; intro gb707 hg w4 hbox hb; have BK707 := Aside0.mk (hbox); have GW707 := Aside0.mk ((gs hg (bs HB))); have GE707 := Aside0.mk ((gs hg (bs HB))); replace HB := Aside0.mk (below_step (bs HB) hb); clear hb hbox hg) | ((with_reducible refine gate_dst (N := 3) rfl ?_); (try (refine gate_guard (by rfl) ?_; dsimp only)); refine bx 3 (cs := #[.slice A1_0 l1_0.length c1_0, .slice A1_1 l1_1.length c1_1]) (t := 47) ?_; intro gb708 hg w5 hbox hb; have BK708 := Aside0.mk (hbox); have GW708 := Aside0.mk ((gs hg (bs HB))); have GE708 := Aside0.mk ((gs hg (bs HB))); replace HB := Aside0.mk (below_step (bs HB) hb); have NB707_708 := Aside0.mk ((gn hg (ks BK707))); have NB708_707 := Aside0.mk ((gm hg (ks BK707))); replace BK707 := Aside0.mk (blk_below (ks BK707) hb); clear hb hbox hg)))
  (try simp only [Act.put, List.setIfInBounds_toArray, List.set_cons_zero, List.set_cons_succ])
  go_cut [22] (fun v22 wc => ∃ (kq : Nat) (x22_2 : Bool), v22 = .bool x22_2 ∧ Aside0 (laws_lwBook.j0 kq x22_2 l0_0 l0_1 l1_0 l1_1 = some r) ∧ Aside0 (kq ≤ k) ∧ Aside0 (wc.heap[gb707]? = some (.cells #[(.slice A0_0 l0_0.length c0_0), (.slice A0_1 l0_1.length c0_1)] 47 (0, 0))) ∧ Aside0 (wc.heap[gb708]? = some (.cells #[(.slice A1_0 l1_0.length c1_0), (.slice A1_1 l1_1.length c1_1)] 47 (0, 0))) ∧ Aside0 (Below w.heap.size w wc))
  case first =>
    have H := HC3.out; clear HC3
    by_cases c6 : (l0_0.length : Int) = (l1_0.length : Int)
    · rw [if_pos c6] at H; have c6b0 : ((l0_0.length : Int) == (l1_0.length : Int)) = true := beq_iff_eq.mpr c6; have c6b1 : ((l0_0.length : Int) != (l1_0.length : Int)) = false := bne_eq_false_iff_eq.mpr c6
      have c6b2 : (l0_0.length == l1_0.length) = true := by first | simpa using c6 | (simp at c6 ⊢; omega)
      clear c6
      (first | rw [c6b0] | (simp only [i64_w, i32_w]; rw [c6b0]) | skip)
      have H' := Aside0.mk H; clear H; have hnb7 := NB707_708.out; have hnc7 := NB708_707.out; obtain ⟨hcz8_0, hcz8_1, hfz8_0, hfz8_1⟩ := cf2 BK707; obtain ⟨hcz9_0, hcz9_1, hfz9_0, hfz9_1⟩ := cf2 BK708
      go_wp2
      repeat (go_quiet (fail); try go_wp2)
      go_meet
      case rel => exact ⟨_, (((l0_1.length : Int) != (l1_1.length : Int))), fg, H', ⟨fl⟩, ⟨ks BK707⟩, ⟨ks BK708⟩, ⟨bs HB⟩⟩
    · rw [if_neg c6] at H; have c6b0 : ((l0_0.length : Int) == (l1_0.length : Int)) = false := beq_eq_false_iff_ne.mpr c6; have c6b1 : ((l0_0.length : Int) != (l1_0.length : Int)) = true := bne_iff_ne.mpr c6
      have c6b2 : (l0_0.length == l1_0.length) = false := by first | simpa using c6 | (simp at c6 ⊢; omega)
      (first | rw [c6b0] | (simp only [i64_w, i32_w]; rw [c6b0]) | skip)
      have H' := Aside0.mk H; clear H; have hnb10 := NB707_708.out; have hnc10 := NB708_707.out; obtain ⟨hcz11_0, hcz11_1, hfz11_0, hfz11_1⟩ := cf2 BK707; obtain ⟨hcz12_0, hcz12_1, hfz12_0, hfz12_1⟩ := cf2 BK708
      go_wp2
      repeat (go_quiet (fail); try go_wp2)
      go_meet
      case rel => exact ⟨_, (true), fg, H', ⟨fl⟩, ⟨ks BK707⟩, ⟨ks BK708⟩, ⟨bs HB⟩⟩
  case rest =>
    clear HC3
    try clear c1
    try clear p2
    try clear c6
    try clear c6b0
    try clear c6b1
    try clear c6b2
    try clear c7
    try clear c10
    try clear hcz11_0
    try clear hcz11_1
    try clear hcz12_0
    try clear hcz12_1
    try clear hcz8_0
    try clear hcz8_1
    try clear hcz9_0
    try clear hcz9_1
    try clear hfz11_0
    try clear hfz11_1
    try clear hfz12_0
    try clear hfz12_1
    try clear hfz8_0
    try clear hfz8_1
    try clear hfz9_0
    try clear hfz9_1
    obtain ⟨kq, x22_2, rfl, HA, HJ2, BK707, BK708, HB⟩ := hcut
    cases kq with
    | zero => exact absurd HA.out (by simp [laws_lwBook.j0])
    | succ kj2 =>
      have H := HA.out; clear HA; simp only [laws_lwBook.j0] at H
      by_cases c13 : x22_2 = true
      · subst c13
        have H1 : (some false) = some r := by rw [if_pos rfl] at H; exact H
        clear H; have H := H1; clear H1; obtain rfl := Option.some.inj H
        go_wp2
        repeat (go_quiet (fail); try go_wp2)
        go_ret
        exact ⟨ff, bs HB⟩
      · replace c13 := Bool.eq_false_iff.mpr c13; subst c13
        have H1 : (laws_lwBook.l0 kj2 0 l0_0 l0_1 l1_0 l1_1) = some r := by rw [if_neg (show ¬ (false = true) by decide)] at H; exact H
        clear H; have H := H1; clear H1; have H' := Aside0.mk H; clear H
        go_wp2
        repeat (go_quiet (fail); try go_wp2)
        go_loopg [5] kj2 (fun kq v5 w' => ∃ (x5_2 : Int), v5 = .int .i64 x5_2 ∧ Aside0 (laws_lwBook.l0 kq x5_2 l0_0 l0_1 l1_0 l1_1 = some r) ∧ Aside0 (kq ≤ kj2) ∧ Aside0 (w'.heap[gb707]? = some (.cells #[(.slice A0_0 l0_0.length c0_0), (.slice A0_1 l0_1.length c0_1)] 47 (0, 0))) ∧ Aside0 (w'.heap[gb708]? = some (.cells #[(.slice A1_0 l1_0.length c1_0), (.slice A1_1 l1_1.length c1_1)] 47 (0, 0))) ∧ Aside0 (Below w.heap.size w w'))
        case atStart => exact ⟨(0), fg, H', ⟨Nat.le_refl _⟩, ⟨ks BK707⟩, ⟨ks BK708⟩, ⟨bs HB⟩⟩
        case round =>
          clear H'
          try clear c1
          try clear p2
          try clear c6
          try clear c6b0
          try clear c6b1
          try clear c6b2
          try clear c7
          try clear c10
          try clear c13
          try clear hcz11_0
          try clear hcz11_1
          try clear hcz12_0
          try clear hcz12_1
          try clear hcz8_0
          try clear hcz8_1
          try clear hcz9_0
          try clear hcz9_1
          try clear hfz11_0
          try clear hfz11_1
          try clear hfz12_0
          try clear hfz12_1
          try clear hfz8_0
          try clear hfz8_1
          try clear hfz9_0
          try clear hfz9_1
          try clear p2
          obtain ⟨x5_2, rfl, HA, HK2, BK707, BK708, HB⟩ := hrel
          cases gk with
          | zero => exact absurd HA.out (by simp [laws_lwBook.l0])
          | succ k2 =>
            have H := HA.out; clear HA; simp only [laws_lwBook.l0] at H
            by_cases c14 : x5_2 < (l0_0.length : Int)
            · rw [if_pos c14] at H; have c14b0 : decide (x5_2 < (l0_0.length : Int)) = true := decide_eq_true c14; clear c14
              by_cases c15 : 0 ≤ x5_2
              · rw [if_pos c15] at H; have c15b0 : decide (0 ≤ x5_2) = true := decide_eq_true c15; clear c15
                by_cases c16 : x5_2 < (l1_0.length : Int)
                · rw [if_pos c16] at H; have c16b0 : decide (x5_2 < (l1_0.length : Int)) = true := decide_eq_true c16; clear c16
                  by_cases c17 : (!((((rd_T117 l0_0 x5_2).f0).toList) == (((rd_T117 l1_0 x5_2).f0).toList)) || (!(((rd_T117 l0_0 x5_2).f1) == ((rd_T117 l1_0 x5_2).f1)))) = true
                  · rw [if_pos c17] at H; have c17b0 : (!((((rd_T117 l0_0 x5_2).f0).toList) == (((rd_T117 l1_0 x5_2).f0).toList)) || (!(((rd_T117 l0_0 x5_2).f1) == ((rd_T117 l1_0 x5_2).f1)))) = true := c17; clear c17; obtain rfl := Option.some.inj H; have hnb18 := NB707_708.out; have hnc18 := NB708_707.out; obtain ⟨hcz19_0, hcz19_1, hfz19_0, hfz19_1⟩ := cf2 BK707; have p709 : 0 ≤ (x5_2 : Int) := oa; have q709 : x5_2 < (l0_0.length : Int) := oa; obtain ⟨ad709, e709, hx709_0, hx709_1⟩ := at_T117 HR0_0.out x5_2 p709 q709
                    cases e709
                    replace hx709_0 := cb HB hx709_0; replace hx709_1 := cb HB hx709_1; replace p709 := eq_true p709; replace q709 := eq_true q709; obtain ⟨hcz20_0, hcz20_1, hfz20_0, hfz20_1⟩ := cf2 BK708; have p710 : 0 ≤ (x5_2 : Int) := oa; have q710 : x5_2 < (l1_0.length : Int) := oa; obtain ⟨ad710, e710, hx710_0, hx710_1⟩ := at_T117 HR1_0.out x5_2 p710 q710
                    cases e710
                    replace hx710_0 := cb HB hx710_0; replace hx710_1 := cb HB hx710_1; replace p710 := eq_true p710; replace q710 := eq_true q710
                    go_wp2
                    repeat (go_quiet (fail); try go_wp2)
                    go_ret
                    exact ⟨ff, bs HB⟩
                  · rw [if_neg c17] at H
                    have c17b0 : (!((((rd_T117 l0_0 x5_2).f0).toList) == (((rd_T117 l1_0 x5_2).f0).toList)) || (!(((rd_T117 l0_0 x5_2).f1) == ((rd_T117 l1_0 x5_2).f1)))) = false := by simpa using c17
                    clear c17; have H' := Aside0.mk H; clear H; have hnb21 := NB707_708.out; have hnc21 := NB708_707.out; obtain ⟨hcz22_0, hcz22_1, hfz22_0, hfz22_1⟩ := cf2 BK707; have p709 : 0 ≤ (x5_2 : Int) := oa; have q709 : x5_2 < (l0_0.length : Int) := oa; obtain ⟨ad709, e709, hx709_0, hx709_1⟩ := at_T117 HR0_0.out x5_2 p709 q709
                    cases e709
                    replace hx709_0 := cb HB hx709_0; replace hx709_1 := cb HB hx709_1; replace p709 := eq_true p709; replace q709 := eq_true q709; obtain ⟨hcz23_0, hcz23_1, hfz23_0, hfz23_1⟩ := cf2 BK708; have p710 : 0 ≤ (x5_2 : Int) := oa; have q710 : x5_2 < (l1_0.length : Int) := oa; obtain ⟨ad710, e710, hx710_0, hx710_1⟩ := at_T117 HR1_0.out x5_2 p710 q710
                    cases e710
                    replace hx710_0 := cb HB hx710_0; replace hx710_1 := cb HB hx710_1; replace p710 := eq_true p710; replace q710 := eq_true q710
                    go_wp2
                    repeat (go_quiet (fail); try go_wp2)
                    go_roundg k2
                    case measure => have := HJ2.out; have := HK2.out; omega
                    case rel => exact ⟨(wrap64 (x5_2 + 1)), fg, H', ⟨by have := HJ2.out; have := HK2.out; omega⟩, ⟨ks BK707⟩, ⟨ks BK708⟩, ⟨bs HB⟩⟩
                · rw [if_neg c16] at H
                  exact absurd H (by simp)
              · rw [if_neg c15] at H
                exact absurd H (by simp)
            · rw [if_neg c14] at H; have c14b0 : decide (x5_2 < (l0_0.length : Int)) = false := decide_eq_false c14; clear c14; have H' := Aside0.mk H; clear H; have hnb24 := NB707_708.out; have hnc24 := NB708_707.out; obtain ⟨hcz25_0, hcz25_1, hfz25_0, hfz25_1⟩ := cf2 BK707
              go_wp2
              repeat (go_quiet (fail); try go_wp2)
              go_loopg [6] k2 (fun kq v6 w' => ∃ (x6_3 : Int), v6 = .int .i64 x6_3 ∧ Aside0 (laws_lwBook.l1 kq x6_3 l0_0 l0_1 l1_0 l1_1 = some r) ∧ Aside0 (kq ≤ k2) ∧ Aside0 (w'.heap[gb707]? = some (.cells #[(.slice A0_0 l0_0.length c0_0), (.slice A0_1 l0_1.length c0_1)] 47 (0, 0))) ∧ Aside0 (w'.heap[gb708]? = some (.cells #[(.slice A1_0 l1_0.length c1_0), (.slice A1_1 l1_1.length c1_1)] 47 (0, 0))) ∧ Aside0 (Below w.heap.size w w'))
              case atStart => exact ⟨(0), fg, H', ⟨Nat.le_refl _⟩, ⟨ks BK707⟩, ⟨ks BK708⟩, ⟨bs HB⟩⟩
              case round =>
                clear H'
                try clear c1
                try clear c2
                try clear p2
                try clear c6
                try clear c6b0
                try clear c6b1
                try clear c6b2
                try clear p6
                try clear c7
                try clear p7
                try clear q7
                try clear hx7
                try clear c10
                try clear c13
                try clear c14
                try clear c14b0
                try clear c15
                try clear c15b0
                try clear c16
                try clear c16b0
                try clear c17
                try clear c17b0
                try clear c18
                try clear c21
                try clear c24
                try clear hcz11_0
                try clear hcz11_1
                try clear hcz12_0
                try clear hcz12_1
                try clear hcz19_0
                try clear hcz19_1
                try clear hcz20_0
                try clear hcz20_1
                try clear hcz22_0
                try clear hcz22_1
                try clear hcz23_0
                try clear hcz23_1
                try clear hcz25_0
                try clear hcz25_1
                try clear hcz8_0
                try clear hcz8_1
                try clear hcz9_0
                try clear hcz9_1
                try clear hfz11_0
                try clear hfz11_1
                try clear hfz12_0
                try clear hfz12_1
                try clear hfz19_0
                try clear hfz19_1
                try clear hfz20_0
                try clear hfz20_1
                try clear hfz22_0
                try clear hfz22_1
                try clear hfz23_0
                try clear hfz23_1
                try clear hfz25_0
                try clear hfz25_1
                try clear hfz8_0
                try clear hfz8_1
                try clear hfz9_0
                try clear hfz9_1
                try clear hx709_0
                try clear hx709_1
                try clear hx710_0
                try clear hx710_1
                try clear p2
                try clear p709
                try clear p710
                try clear q709
                try clear q710
                obtain ⟨x6_3, rfl, HA, HK3, BK707, BK708, HB⟩ := hrel
                cases gk with
                | zero => exact absurd HA.out (by simp [laws_lwBook.l1])
                | succ k3 =>
                  have H := HA.out; clear HA; simp only [laws_lwBook.l1] at H
                  by_cases c26 : x6_3 < (l0_1.length : Int)
                  · rw [if_pos c26] at H; have c26b0 : decide (x6_3 < (l0_1.length : Int)) = true := decide_eq_true c26; clear c26
                    by_cases c27 : 0 ≤ x6_3
                    · rw [if_pos c27] at H; have c27b0 : decide (0 ≤ x6_3) = true := decide_eq_true c27; clear c27
                      by_cases c28 : x6_3 < (l1_1.length : Int)
                      · rw [if_pos c28] at H; have c28b0 : decide (x6_3 < (l1_1.length : Int)) = true := decide_eq_true c28; clear c28
                        by_cases c29 : (!((((rd_T54 l0_1 x6_3).f0).toList) == (((rd_T54 l1_1 x6_3).f0).toList)) || (!((((rd_T54 l0_1 x6_3).f1).toList) == (((rd_T54 l1_1 x6_3).f1).toList)) || (!(((rd_T54 l0_1 x6_3).f2) == ((rd_T54 l1_1 x6_3).f2)) || (!((((rd_T54 l0_1 x6_3).f3).toList) == (((rd_T54 l1_1 x6_3).f3).toList)) || (!(((rd_T54 l0_1 x6_3).f4) == ((rd_T54 l1_1 x6_3).f4)) || (!(((rd_T54 l0_1 x6_3).f5) == ((rd_T54 l1_1 x6_3).f5)) || (!(((rd_T54 l0_1 x6_3).f6) == ((rd_T54 l1_1 x6_3).f6)) || (!(((rd_T54 l0_1 x6_3).f7) == ((rd_T54 l1_1 x6_3).f7)))))))))) = true
                        · rw [if_pos c29] at H; have c29b0 : (!((((rd_T54 l0_1 x6_3).f0).toList) == (((rd_T54 l1_1 x6_3).f0).toList)) || (!((((rd_T54 l0_1 x6_3).f1).toList) == (((rd_T54 l1_1 x6_3).f1).toList)) || (!(((rd_T54 l0_1 x6_3).f2) == ((rd_T54 l1_1 x6_3).f2)) || (!((((rd_T54 l0_1 x6_3).f3).toList) == (((rd_T54 l1_1 x6_3).f3).toList)) || (!(((rd_T54 l0_1 x6_3).f4) == ((rd_T54 l1_1 x6_3).f4)) || (!(((rd_T54 l0_1 x6_3).f5) == ((rd_T54 l1_1 x6_3).f5)) || (!(((rd_T54 l0_1 x6_3).f6) == ((rd_T54 l1_1 x6_3).f6)) || (!(((rd_T54 l0_1 x6_3).f7) == ((rd_T54 l1_1 x6_3).f7)))))))))) = true := c29; clear c29; obtain rfl := Option.some.inj H; have hnb30 := NB707_708.out; have hnc30 := NB708_707.out; obtain ⟨hcz31_0, hcz31_1, hfz31_0, hfz31_1⟩ := cf2 BK707; have p711 : 0 ≤ (x6_3 : Int) := oa; have q711 : x6_3 < (l0_1.length : Int) := oa; obtain ⟨ad711, e711, hx711_0, hx711_1, hx711_2, hx711_3, hx711_4, hx711_5, hx711_6, hx711_7⟩ := at_T54 HR0_1.out x6_3 p711 q711
                          cases e711
                          replace hx711_0 := cb HB hx711_0; replace hx711_1 := cb HB hx711_1; replace hx711_2 := cb HB hx711_2; replace hx711_3 := cb HB hx711_3; replace hx711_4 := cb HB hx711_4; replace hx711_5 := cb HB hx711_5; replace hx711_6 := cb HB hx711_6; replace hx711_7 := cb HB hx711_7; replace p711 := eq_true p711; replace q711 := eq_true q711; obtain ⟨hcz32_0, hcz32_1, hfz32_0, hfz32_1⟩ := cf2 BK708; have p712 : 0 ≤ (x6_3 : Int) := oa; have q712 : x6_3 < (l1_1.length : Int) := oa; obtain ⟨ad712, e712, hx712_0, hx712_1, hx712_2, hx712_3, hx712_4, hx712_5, hx712_6, hx712_7⟩ := at_T54 HR1_1.out x6_3 p712 q712
                          cases e712
                          replace hx712_0 := cb HB hx712_0; replace hx712_1 := cb HB hx712_1; replace hx712_2 := cb HB hx712_2; replace hx712_3 := cb HB hx712_3; replace hx712_4 := cb HB hx712_4; replace hx712_5 := cb HB hx712_5; replace hx712_6 := cb HB hx712_6; replace hx712_7 := cb HB hx712_7; replace p712 := eq_true p712; replace q712 := eq_true q712
                          go_wp2
                          repeat (go_quiet (fail); try go_wp2)
                          go_ret
                          exact ⟨ff, bs HB⟩
                        · rw [if_neg c29] at H
                          have c29b0 : (!((((rd_T54 l0_1 x6_3).f0).toList) == (((rd_T54 l1_1 x6_3).f0).toList)) || (!((((rd_T54 l0_1 x6_3).f1).toList) == (((rd_T54 l1_1 x6_3).f1).toList)) || (!(((rd_T54 l0_1 x6_3).f2) == ((rd_T54 l1_1 x6_3).f2)) || (!((((rd_T54 l0_1 x6_3).f3).toList) == (((rd_T54 l1_1 x6_3).f3).toList)) || (!(((rd_T54 l0_1 x6_3).f4) == ((rd_T54 l1_1 x6_3).f4)) || (!(((rd_T54 l0_1 x6_3).f5) == ((rd_T54 l1_1 x6_3).f5)) || (!(((rd_T54 l0_1 x6_3).f6) == ((rd_T54 l1_1 x6_3).f6)) || (!(((rd_T54 l0_1 x6_3).f7) == ((rd_T54 l1_1 x6_3).f7)))))))))) = false := by simpa using c29
                          clear c29; have H' := Aside0.mk H; clear H; have hnb33 := NB707_708.out; have hnc33 := NB708_707.out; obtain ⟨hcz34_0, hcz34_1, hfz34_0, hfz34_1⟩ := cf2 BK707; have p711 : 0 ≤ (x6_3 : Int) := oa; have q711 : x6_3 < (l0_1.length : Int) := oa; obtain ⟨ad711, e711, hx711_0, hx711_1, hx711_2, hx711_3, hx711_4, hx711_5, hx711_6, hx711_7⟩ := at_T54 HR0_1.out x6_3 p711 q711
                          cases e711
                          replace hx711_0 := cb HB hx711_0; replace hx711_1 := cb HB hx711_1; replace hx711_2 := cb HB hx711_2; replace hx711_3 := cb HB hx711_3; replace hx711_4 := cb HB hx711_4; replace hx711_5 := cb HB hx711_5; replace hx711_6 := cb HB hx711_6; replace hx711_7 := cb HB hx711_7; replace p711 := eq_true p711; replace q711 := eq_true q711; obtain ⟨hcz35_0, hcz35_1, hfz35_0, hfz35_1⟩ := cf2 BK708; have p712 : 0 ≤ (x6_3 : Int) := oa; have q712 : x6_3 < (l1_1.length : Int) := oa; obtain ⟨ad712, e712, hx712_0, hx712_1, hx712_2, hx712_3, hx712_4, hx712_5, hx712_6, hx712_7⟩ := at_T54 HR1_1.out x6_3 p712 q712
                          cases e712
                          replace hx712_0 := cb HB hx712_0; replace hx712_1 := cb HB hx712_1; replace hx712_2 := cb HB hx712_2; replace hx712_3 := cb HB hx712_3; replace hx712_4 := cb HB hx712_4; replace hx712_5 := cb HB hx712_5; replace hx712_6 := cb HB hx712_6; replace hx712_7 := cb HB hx712_7; replace p712 := eq_true p712; replace q712 := eq_true q712
                          go_wp2
                          repeat (go_quiet (fail); try go_wp2)
                          go_roundg k3
                          case measure => have := HJ2.out; have := HK2.out; have := HK3.out; omega
                          case rel => exact ⟨(wrap64 (x6_3 + 1)), fg, H', ⟨by have := HJ2.out; have := HK2.out; have := HK3.out; omega⟩, ⟨ks BK707⟩, ⟨ks BK708⟩, ⟨bs HB⟩⟩
                      · rw [if_neg c28] at H
                        exact absurd H (by simp)
                    · rw [if_neg c27] at H
                      exact absurd H (by simp)
                  · rw [if_neg c26] at H; have c26b0 : decide (x6_3 < (l0_1.length : Int)) = false := decide_eq_false c26; clear c26; obtain rfl := Option.some.inj H; have hnb36 := NB707_708.out; have hnc36 := NB708_707.out; obtain ⟨hcz37_0, hcz37_1, hfz37_0, hfz37_1⟩ := cf2 BK707
                    go_wp2
                    repeat (go_quiet (fail); try go_wp2)
                    go_ret
                    exact ⟨ff, bs HB⟩
end Go.Proofs.Ytefmkmhjbfpelaa.QM
namespace Go.Proofs.Ytefmkmhjbfpelaa.QM
open Go.RowKit Go.Proofs.YtefmkmhjbfpelaaW.PrintWords Go.Proofs.YtefmkmhjbfpelaaW.PrintLast Go.Proofs.YtefmkmhjbfpelaaW.PrintMore
attribute [local go_sem] max2_int min2_int max_two min_two max_three min_three max_four min_four   -- for this text's walks alone
set_option linter.unusedVariables false
set_option linter.unusedSimpArgs false
def IsS47 (w0 W : World) (g : Nat) (f0 : List (S117)) (f1 : List (S54)) : Prop := ∃ A0 c0, ∃ A1 c1, W.heap[g]? = some (.cells #[.slice A0 f0.length c0, .slice A1 f1.length c1] 47 (0, 0)) ∧ w0.heap.size ≤ g ∧ (Kd.C k117 w0 A0 f0.length f0 ∧ f0.length ≤ c0) ∧ (Kd.C k54 w0 A1 f1.length f1 ∧ f1.length ≤ c1)
theorem IsS47.grown {w0 W : World} {g : Nat} {f0 : List (S117)} {f1 : List (S54)} {W1 : World} {row : Option Nat} (h : IsS47 w0 W g f0 f1) (hw : W.grownBy W1 row) (hne : some g ≠ row) : IsS47 w0 W1 g f0 f1 := by
  obtain ⟨A0, c0, A1, c1, hb, hg, hr0, hr1⟩ := h
  exact ⟨A0, c0, A1, c1, blk_grown hb hw hne, hg, hr0, hr1⟩
theorem IsS47.kept {w0 W : World} {g : Nat} {f0 : List (S117)} {f1 : List (S54)} {W1 : World} {S : Nat → Prop} (h : IsS47 w0 W g f0 f1) (hk : Kept W W1 S) (hne : ¬ S g) : IsS47 w0 W1 g f0 f1 := by
  obtain ⟨A0, c0, A1, c1, hb, hg, hr0, hr1⟩ := h
  exact ⟨A0, c0, A1, c1, blk_kept hb hk hne, hg, hr0, hr1⟩
theorem IsS47.below {w0 W : World} {g : Nat} {f0 : List (S117)} {f1 : List (S54)} {W1 : World} (h : IsS47 w0 W g f0 f1) (hw : Below W.heap.size W W1) : IsS47 w0 W1 g f0 f1 := h.grown (grown_of_below hw none) (by simp)
theorem IsS47.alloc {w0 W : World} {g : Nat} {f0 : List (S117)} {f1 : List (S54)} (h : IsS47 w0 W g f0 f1) (o : Obj) : IsS47 w0 (W.alloc o) g f0 f1 := h.below (below_alloc (Below.refl _ _) o)
theorem IsS47.drewN {w0 W : World} {g : Nat} {f0 : List (S117)} {f1 : List (S54)} (h : IsS47 w0 W g f0 f1) (m : Nat) : IsS47 w0 (W.drewN m) g f0 f1 := h
theorem IsS47.drew {w0 W : World} {g : Nat} {f0 : List (S117)} {f1 : List (S54)} (h : IsS47 w0 W g f0 f1) : IsS47 w0 W.drew g f0 f1 := h
theorem IsS47.at_ {w0 W : World} {g : Nat} {f0 : List (S117)} {f1 : List (S54)} {w' : World} {m : Nat} (hq : W.drewN m = w') (h : IsS47 w0 W g f0 f1) : IsS47 w0 w' g f0 f1 := by subst hq; exact IsS47.drewN h m
theorem IsS47.apart {w0 W : World} {g : Nat} {f0 : List (S117)} {f1 : List (S54)} {α : Type} {d : Kd α} {e : Nat} {base : Nat} {ok : Nat → Prop} {v : Value} {xs : List α} (h : IsS47 w0 W g f0 f1) (ho : d.R e W base ok v xs) (ht : ∀ q, q ∈ e :: d.E → q ≠ 47) : d.R e W base (fun k => ok k ∧ k ≠ g) v xs := by
  obtain ⟨A0, c0, A1, c1, hb, hg, hr0, hr1⟩ := h
  exact Kd.R_types ho hb ht
theorem IsS47.own_ne {w0 W : World} {g : Nat} {f0 : List (S117)} {f1 : List (S54)} {α : Type} {d : Kd α} {e : Nat} {base : Nat} {ok : Nat → Prop} {v : Value} {xs : List α} (h : IsS47 w0 W g f0 f1) (ho : d.R e W base ok v xs) (ht : e ≠ 47) : some g ≠ v.ownBlock := by
  obtain ⟨A0, c0, A1, c1, hb, hg, hr0, hr1⟩ := h
  exact Kd.R_ne ho hb ht
theorem IsS47.lt {w0 W : World} {g : Nat} {f0 : List (S117)} {f1 : List (S54)} (h : IsS47 w0 W g f0 f1) : g < W.heap.size := by
  obtain ⟨A0, c0, A1, c1, hb, hg, hr0, hr1⟩ := h
  exact blk_lt hb
theorem IsS47.ge {w0 W : World} {g : Nat} {f0 : List (S117)} {f1 : List (S54)} (h : IsS47 w0 W g f0 f1) : w0.heap.size ≤ g := by
  obtain ⟨A0, c0, A1, c1, hb, hg, hr0, hr1⟩ := h
  exact hg
theorem IsS47.ne_blk {w0 W : World} {g : Nat} {f0 : List (S117)} {f1 : List (S54)} {a : Nat} {cs : Array Value} {t : TypeId} {fr : Nat × Nat} (h : IsS47 w0 W g f0 f1) (hb2 : W.heap[a]? = some (.cells cs t fr)) (ht : t ≠ 47) : g ≠ a := by
  obtain ⟨A0, c0, A1, c1, hb, hg, hr0, hr1⟩ := h; rintro rfl
  rw [hb] at hb2
  injection hb2 with hb2
  injection hb2 with _ ht2
  exact ht ht2.symm
theorem IsS47.far {w0 W : World} {g : Nat} {f0 : List (S117)} {f1 : List (S54)} {p : Addr} (h : IsS47 w0 W g f0 f1) (hne : g ≠ p.block) (u : Value) : IsS47 w0 (W.setCell p u) g f0 f1 := by
  obtain ⟨A0, c0, A1, c1, hb, hg, hr0, hr1⟩ := h
  exact ⟨A0, c0, A1, c1, blk_far hb hne u, hg, hr0, hr1⟩
theorem cellS47_0 {W : World} {g : Nat} {A0 : Option Addr} {c0 : Nat} {A1 : Option Addr} {c1 : Nat} {f0 : List (S117)} {f1 : List (S54)} (h : W.heap[g]? = some (.cells #[.slice A0 f0.length c0, .slice A1 f1.length c1] 47 (0, 0))) : W.cell? ⟨g, 0, none⟩ = some (.slice A0 f0.length c0) := (blk_cell h 0).trans rfl
theorem cellS47_1 {W : World} {g : Nat} {A0 : Option Addr} {c0 : Nat} {A1 : Option Addr} {c1 : Nat} {f0 : List (S117)} {f1 : List (S54)} (h : W.heap[g]? = some (.cells #[.slice A0 f0.length c0, .slice A1 f1.length c1] 47 (0, 0))) : W.cell? ⟨g, 1, none⟩ = some (.slice A1 f1.length c1) := (blk_cell h 1).trans rfl
set_option maxHeartbeats 8000000 in
set_option maxRecDepth 100000 in
theorem impl_Book_hand.calls (k : Nat) (g : Nat) (s0_0 : List (S117)) (s0_1 : List (S54)) (a1 : ByteArray) (r : Int) (w0 w : World) (hI : IsS47 w0 w g s0_0 s0_1) (hB : Below w0.heap.size w0 w) (h : impl_Book_hand.f k s0_0 s0_1 a1 = some r) :
    Calls Try.prog 91 #[.pointer (some ⟨g, 0, none⟩), .string a1] w fun e w' => e = .returned (.int .i64 r) ∧ IsS47 w0 w' g s0_0 s0_1 ∧ Below w0.heap.size w0 w' ∧ KeepBut w w' g none := by
  have HI0 := Aside0.mk hI; have HK := Aside0.mk (KeepBut.refl w g none); have HL := Aside0.mk hB.size; clear hI; have HW0 := Aside0.mk hB.size; have HB := Aside0.mk hB; clear hB; have H : ((impl_Stock_string_impl_stockOrder.f k s0_0 a1).bind fun bt283 => (if bt283.2 = true then (if 0 ≤ bt283.1 then (if bt283.1 < (s0_0.length : Int) then (some ((rd_T117 s0_0 bt283.1).f1)) else (none)) else (none)) else (some 0))) = some r := h; clear h; replace H := Option.bind_eq_some_iff.mp H; obtain ⟨⟨t283, t284⟩, A30, H⟩ := H; replace H : (if t284 = true then (if 0 ≤ t283 then (if t283 < (s0_0.length : Int) then (some ((rd_T117 s0_0 t283).f1)) else (none)) else (none)) else (some 0)) = some r := H; have A3 := Aside0.mk A30; clear A30; obtain ⟨ASz4_0, cSz4_0, ASz4_1, cSz4_1, HGz4, hgz4, HSz4_0, HSz4_1⟩ := HI0.out; have hcz4_0 := cellS47_0 HGz4; have hcz4_1 := cellS47_1 HGz4; clear HGz4 hgz4; have HCz4_0 := HSz4_0.2; have HCz4_1 := HSz4_1.2; replace HSz4_0 := HSz4_0.1; replace HSz4_1 := HSz4_1.1
  go_enter Try.func91, Try.ntmps91
  try go_wp2_with (fail)
  go_at_call 141; (with_reducible refine (impl_Stock_string_impl_stockOrder.calls k _ _ s0_0 a1  t283 t284 _ ?side1 ?side2 A3.out).mono ?_); (case side1 => first | exact (Kd.C_below HSz4_0 (by repeat (first | (with_reducible first | exact HB.out | apply below_alloc | apply pw_below_drewN | apply below_drew1 | refine below_set ?_ (IsS47.ge HI0.out)) | exact HB.out)))); (case side2 => first | exact HCz4_0); rintro e w5 ⟨rfl, hb⟩; replace HK := Aside0.mk (KeepBut.trans (by repeat (first | (with_reducible first | exact HK.out | apply KeepBut.set_ | apply keep_drewN | apply keep_drew | apply keep_alloc) | exact HK.out)) (KeepBut.of_below hb g none) (.inl rfl)); replace HB := Aside0.mk (below_step (by repeat (first | (with_reducible first | exact HB.out | apply below_alloc | apply pw_below_drewN | apply below_drew1 | refine below_set ?_ (IsS47.ge HI0.out)) | exact HB.out)) hb); replace HI0 := Aside0.mk (IsS47.below (by repeat (first | (with_reducible first | exact HI0.out | apply IsS47.alloc | apply IsS47.drewN | apply IsS47.drew) | exact HI0.out)) hb); (try clear hb); (try clear hb2); (try clear hk); (try clear hi)
  by_cases c6 : t284 = true
  · subst c6
    have H1 : (if 0 ≤ t283 then (if t283 < (s0_0.length : Int) then (some ((rd_T117 s0_0 t283).f1)) else (none)) else (none)) = some r := by rw [if_pos rfl] at H; exact H
    clear H; have H := H1; clear H1
    by_cases c7 : 0 ≤ t283
    · rw [if_pos c7] at H; have c7b0 : decide (0 ≤ t283) = true := decide_eq_true c7; clear c7
      by_cases c8 : t283 < (s0_0.length : Int)
      · rw [if_pos c8] at H; have c8b0 : decide (t283 < (s0_0.length : Int)) = true := decide_eq_true c8; clear c8; obtain rfl := Option.some.inj H; obtain ⟨ASz9_0, cSz9_0, ASz9_1, cSz9_1, HGz9, hgz9, HSz9_0, HSz9_1⟩ := HI0.out; have hcz9_0 := cellS47_0 HGz9; have hcz9_1 := cellS47_1 HGz9; clear HGz9 hgz9; have HCz9_0 := HSz9_0.2; have HCz9_1 := HSz9_1.2; replace HSz9_0 := HSz9_0.1; replace HSz9_1 := HSz9_1.1; have p285 : 0 ≤ (t283 : Int) := oa; have q285 : t283 < (s0_0.length : Int) := oa; obtain ⟨ad285, e285, hx285_0, hx285_1⟩ := at_T117 HSz9_0 t283 p285 q285
        (try (obtain ⟨adb285, eb285, hxb285_0, hxb285_1⟩ := at_T117 HSz4_0 t283 p285 q285; cases eb285; replace hxb285_0 := pw_cell_below HB.out hxb285_0; replace hxb285_1 := pw_cell_below HB.out hxb285_1))
        cases e285
        replace hx285_0 := pw_cell_below HB.out hx285_0; replace hx285_1 := pw_cell_below HB.out hx285_1; replace p285 := eq_true p285; replace q285 := eq_true q285
        go_wp2
        go_ret
        exact ⟨ff, by repeat (first | (with_reducible first | exact HI0.out | apply IsS47.alloc | apply IsS47.drewN | apply IsS47.drew) | exact HI0.out), by repeat (first | (with_reducible first | exact HB.out | apply below_alloc | apply pw_below_drewN | apply below_drew1 | refine below_set ?_ (IsS47.ge HI0.out)) | exact HB.out), by repeat (first | (with_reducible first | exact HK.out | apply KeepBut.set_ | apply keep_drewN | apply keep_drew | apply keep_alloc) | exact HK.out)⟩
      · rw [if_neg c8] at H
        exact absurd H (by simp)
    · rw [if_neg c7] at H
      exact absurd H (by simp)
  · replace c6 := Bool.eq_false_iff.mpr c6; subst c6
    have H1 : (some 0) = some r := by rw [if_neg (show ¬ (false = true) by decide)] at H; exact H
    clear H; have H := H1; clear H1; obtain rfl := Option.some.inj H
    go_wp2
    go_ret
    exact ⟨ff, by repeat (first | (with_reducible first | exact HI0.out | apply IsS47.alloc | apply IsS47.drewN | apply IsS47.drew) | exact HI0.out), by repeat (first | (with_reducible first | exact HB.out | apply below_alloc | apply pw_below_drewN | apply below_drew1 | refine below_set ?_ (IsS47.ge HI0.out)) | exact HB.out), by repeat (first | (with_reducible first | exact HK.out | apply KeepBut.set_ | apply keep_drewN | apply keep_drew | apply keep_alloc) | exact HK.out)⟩
end Go.Proofs.Ytefmkmhjbfpelaa.QM
namespace Go.Proofs.Ytefmkmhjbfpelaa.QM
open Go.RowKit Go.Proofs.YtefmkmhjbfpelaaW.PrintWords Go.Proofs.YtefmkmhjbfpelaaW.PrintLast Go.Proofs.YtefmkmhjbfpelaaW.PrintMore
attribute [local go_sem] max2_int min2_int max_two min_two max_three min_three max_four min_four   -- for this text's walks alone
set_option linter.unusedVariables false
set_option linter.unusedSimpArgs false
set_option maxHeartbeats 8000000 in
set_option maxRecDepth 100000 in
theorem impl_BookHand.calls (k : Nat) (A0_0 : Option Addr) (c0_0 : Nat) (l0_0 : List (S117)) (A0_1 : Option Addr) (c0_1 : Nat) (l0_1 : List (S54)) (a1 : ByteArray) (r : Int) (w : World) (hr0_0 : Kd.C k117 w A0_0 l0_0.length l0_0) (hc0_0 : l0_0.length ≤ c0_0) (hr0_1 : Kd.C k54 w A0_1 l0_1.length l0_1) (hc0_1 : l0_1.length ≤ c0_1) (h : impl_BookHand.f k l0_0 l0_1 a1 = some r) :
    Calls Try.prog 30 #[.agg #[.slice A0_0 l0_0.length c0_0, .slice A0_1 l0_1.length c0_1], .string a1] w fun e w' => e = .returned (.int .i64 r) ∧ Below w.heap.size w w' := by
  have hu47 := Try.underlying47; have HR0_0 := Aside0.mk hr0_0; have HC0_0 := Aside0.mk hc0_0; clear hr0_0 hc0_0; have HR0_1 := Aside0.mk hr0_1; have HC0_1 := Aside0.mk hc0_1; clear hr0_1 hc0_1; have HB := Aside0.mk (Below.refl w.heap.size w); have H : ((impl_longText.f k (([a1] : List ByteArray))).bind fun t717 => (if t717 = true then (some 0) else ((impl_BookRight.f k l0_0 l0_1).bind fun t718 => (if t718 = true then ((impl_Book_hand.f k l0_0 l0_1 a1).bind fun t719 => (some t719)) else (some 0))))) = some r := h; clear h; obtain ⟨y714, hy714⟩ : ∃ y_ : List ByteArray, y_ = (([a1] : List ByteArray)) := ⟨_, rfl⟩
  replace H : ((impl_longText.f k y714).bind fun t717 => (if t717 = true then (some 0) else ((impl_BookRight.f k l0_0 l0_1).bind fun t718 => (if t718 = true then ((impl_Book_hand.f k l0_0 l0_1 a1).bind fun t719 => (some t719)) else (some 0))))) = some r := by first | (rw [hy714]; with_reducible exact H) | (have H2_ := (Option.bind_some _ _).symm.trans H; rw [hy714]; with_reducible exact H2_) | (have H2_ := (Option.bind_some _ _).symm.trans H; with_reducible exact H2_) | with_reducible exact H | (rw [hy714]; exact H) | exact H
  have Ny714 := Aside0.mk hy714; clear hy714; replace H := Option.bind_eq_some_iff.mp H; obtain ⟨t717, A30, H⟩ := H; replace H : (if t717 = true then (some 0) else ((impl_BookRight.f k l0_0 l0_1).bind fun t718 => (if t718 = true then ((impl_Book_hand.f k l0_0 l0_1 a1).bind fun t719 => (some t719)) else (some 0)))) = some r := H; have A3 := Aside0.mk A30; clear A30
  go_enter Try.func30, Try.ntmps30
  try go_wp2_with (first | ((with_reducible refine gate_dst (N := 2) rfl ?_); refine bx 2 (cs := #[.slice A0_0 l0_0.length c0_0, .slice A0_1 l0_1.length c0_1]) (t := 47) ?_; intro gb713 hg w4 hbox hb; have GW713 := Aside0.mk ((gs hg (bs HB))); have GE713 := Aside0.mk ((gs hg (bs HB))); have HI713 := Aside0.mk ((show IsS47 w w4 gb713 l0_0 l0_1 from ⟨_, _, _, _, hbox, (gs hg (bs HB)), ⟨HR0_0.out, HC0_0.out⟩, ⟨HR0_1.out, HC0_1.out⟩⟩)); replace HB := Aside0.mk (below_step (bs HB) hb); clear hb hbox hg) | ((with_reducible refine gate_dst (N := 6) rfl ?_); refine Kd.R_lit Kd.string _ 9 ?hg (N := 6) ?hd (xs := ([a1] : List ByteArray)) (inner := [.string a1]) (ok := fun _ => True) (okp := fun _ => True) ?hr ?hp (fun _ hk => hk) trivial (Below.refl _ _) (Nat.le_refl _) (by simp) ?_; (case hd => rfl); (case hg => rfl); (case hr => first | (go_simp; done) | (go_simp; rfl)); (case hp => exact (Reps.one (show Kd.M Kd.string _ _ _ a1 [.string a1] from rfl) (Reps.none _ _))); intro v715 w5 ho6 hb hg_ hnew_; clear hg_ hnew_; (first | rw [← Ny714.out] at ho6 | (simp only [Int.reduceToNat] at ho6; rw [← Ny714.out] at ho6)); have HO716 := Aside0.mk (Kd.R_lower ho6 (below_size (by repeat (first | (with_reducible first | exact HB.out | apply below_alloc | apply pw_below_drewN | apply below_drew1 | refine below_set ?_ (IsS47.ge HI713.out)) | exact HB.out)))); replace HB := Aside0.mk (below_step (by repeat (first | (with_reducible first | exact HB.out | apply below_alloc | apply pw_below_drewN | apply below_drew1 | refine below_set ?_ (IsS47.ge HI713.out)) | exact HB.out)) hb); replace HI713 := Aside0.mk (IsS47.below (by repeat (first | (with_reducible first | exact HI713.out | apply IsS47.alloc | apply IsS47.drewN | apply IsS47.drew) | exact HI713.out)) hb); clear hb ho6; obtain ⟨Ao7, co7, eo7⟩ := Kd.R_slice HO716.out; subst eo7))
  go_at_call 85; (with_reducible refine (impl_longText.calls k _ _ y714 t717 _ ?side1 ?side2 A3.out).mono ?_); (case side1 => repeat (first | exact (Kd.R_reads' HO716.out).2.2 | (with_reducible refine Kd.C_alloc ?_ _) | (with_reducible refine Kd.C_drewN ?_ _) | (with_reducible refine Kd.C_drew ?_))); (case side2 => exact (Kd.R_reads' HO716.out).2.1); rintro e w' ⟨rfl, ⟨nd, rfl⟩⟩
  by_cases c8 : t717 = true
  · subst c8
    have H1 : (some 0) = some r := by rw [if_pos rfl] at H; exact H
    clear H; have H := H1; clear H1; obtain rfl := Option.some.inj H
    go_wp2
    go_ret
    exact ⟨ff, by repeat (first | (with_reducible first | exact HB.out | apply below_alloc | apply pw_below_drewN | apply below_drew1 | refine below_set ?_ (IsS47.ge HI713.out)) | exact HB.out)⟩
  · replace c8 := Bool.eq_false_iff.mpr c8; subst c8
    have H1 : ((impl_BookRight.f k l0_0 l0_1).bind fun t718 => (if t718 = true then ((impl_Book_hand.f k l0_0 l0_1 a1).bind fun t719 => (some t719)) else (some 0))) = some r := by rw [if_neg (show ¬ (false = true) by decide)] at H; exact H
    clear H; have H := H1; clear H1; replace H := Option.bind_eq_some_iff.mp H; obtain ⟨t718, A90, H⟩ := H; replace H : (if t718 = true then ((impl_Book_hand.f k l0_0 l0_1 a1).bind fun t719 => (some t719)) else (some 0)) = some r := H; have A9 := Aside0.mk A90; clear A90; obtain ⟨ASz10_0, cSz10_0, ASz10_1, cSz10_1, HGz10, hgz10, HSz10_0, HSz10_1⟩ := HI713.out; have hcz10_0 := cellS47_0 HGz10; have hcz10_1 := cellS47_1 HGz10; clear HGz10 hgz10; have HCz10_0 := HSz10_0.2; have HCz10_1 := HSz10_1.2; replace HSz10_0 := HSz10_0.1; replace HSz10_1 := HSz10_1.1
    try go_wp2_with (fail)
    go_at_call 64; (with_reducible refine (impl_BookRight.calls k _ _ l0_0 _ _ l0_1 t718 _ ?side1 ?side2 ?side3 ?side4 A9.out).mono ?_); (case side1 => first | exact (Kd.C_below HSz10_0 (by repeat (first | (with_reducible first | exact HB.out | apply below_alloc | apply pw_below_drewN | apply below_drew1 | refine below_set ?_ (IsS47.ge HI713.out)) | exact HB.out)))); (case side2 => first | exact HCz10_0); (case side3 => first | exact (Kd.C_below HSz10_1 (by repeat (first | (with_reducible first | exact HB.out | apply below_alloc | apply pw_below_drewN | apply below_drew1 | refine below_set ?_ (IsS47.ge HI713.out)) | exact HB.out)))); (case side4 => first | exact HCz10_1); rintro e w11 ⟨rfl, hb⟩; replace HO716 := Aside0.mk (Kd.R_below (rs HO716) hb); replace HB := Aside0.mk (below_step (by repeat (first | (with_reducible first | exact HB.out | apply below_alloc | apply pw_below_drewN | apply below_drew1 | refine below_set ?_ (IsS47.ge HI713.out)) | exact HB.out)) hb); replace HI713 := Aside0.mk (IsS47.below (by repeat (first | (with_reducible first | exact HI713.out | apply IsS47.alloc | apply IsS47.drewN | apply IsS47.drew) | exact HI713.out)) hb); (try clear hb); (try clear hb2); (try clear hk); (try clear hi)
    by_cases c12 : t718 = true
    · subst c12
      have H1 : ((impl_Book_hand.f k l0_0 l0_1 a1).bind fun t719 => (some t719)) = some r := by rw [if_pos rfl] at H; exact H
      clear H; have H := H1; clear H1; replace H := Option.bind_eq_some_iff.mp H; obtain ⟨t719, A130, H⟩ := H; replace H : (some t719) = some r := H; have A13 := Aside0.mk A130; clear A130; obtain rfl := Option.some.inj H
      go_wp2_with (first | ((first | ((with_reducible refine gate_callee (f := 91) rfl ?_); refine goesL_ (some 14) rfl rfl Try.func91 (by kernel_rfl) rfl #[.pointer (some ⟨gb713, 0, none⟩), .string a1] rfl (by (try simp only [List.map_toArray, List.map_cons, List.map_nil]); first | done | rfl | (simp only [List.length_drop, List.length_take]; rfl)) ?_; (with_reducible refine (impl_Book_hand.calls k gb713 l0_0 l0_1 a1 t719 w _ ?side1 ?side2 A13.out).mono ?_); (case side1 => repeat (first | (with_reducible first | exact HI713.out | apply IsS47.alloc | apply IsS47.drewN | apply IsS47.drew) | exact HI713.out)); (case side2 => repeat (first | (with_reducible first | exact HB.out | apply below_alloc | apply pw_below_drewN | apply below_drew1 | refine below_set ?_ (IsS47.ge HI713.out)) | exact HB.out)); rintro e w14 ⟨rfl, hi, hb, hk⟩; refine ⟨_, rfl, ?_⟩) | (go_at_call 91; (with_reducible refine (impl_Book_hand.calls k gb713 l0_0 l0_1 a1 t719 w _ ?side1 ?side2 A13.out).mono ?_); (case side1 => repeat (first | (with_reducible first | exact HI713.out | apply IsS47.alloc | apply IsS47.drewN | apply IsS47.drew) | exact HI713.out)); (case side2 => repeat (first | (with_reducible first | exact HB.out | apply below_alloc | apply pw_below_drewN | apply below_drew1 | refine below_set ?_ (IsS47.ge HI713.out)) | exact HB.out)); rintro e w14 ⟨rfl, hi, hb, hk⟩)); replace HO716 := Aside0.mk (Kd.R_mono (Kd.R_keep (IsS47.apart (show IsS47 w _ gb713 l0_0 l0_1 from by repeat (first | (with_reducible first | exact HI713.out | apply IsS47.alloc | apply IsS47.drewN | apply IsS47.drew) | exact HI713.out)) (rs HO716) (by decide)) hk (fun _ h => h.2)) (fun _ h => h.1)); replace HB := Aside0.mk (hb); replace HI713 := Aside0.mk (hi); (try clear hb); (try clear hb2); (try clear hk); (try clear hi)))
      go_ret
      exact ⟨ff, by repeat (first | (with_reducible first | exact HB.out | apply below_alloc | apply pw_below_drewN | apply below_drew1 | refine below_set ?_ (IsS47.ge HI713.out)) | exact HB.out)⟩
    · replace c12 := Bool.eq_false_iff.mpr c12; subst c12
      have H1 : (some 0) = some r := by rw [if_neg (show ¬ (false = true) by decide)] at H; exact H
      clear H; have H := H1; clear H1; obtain rfl := Option.some.inj H
      go_wp2
      go_ret
      exact ⟨ff, by repeat (first | (with_reducible first | exact HB.out | apply below_alloc | apply pw_below_drewN | apply below_drew1 | refine below_set ?_ (IsS47.ge HI713.out)) | exact HB.out)⟩
end Go.Proofs.Ytefmkmhjbfpelaa.QM
