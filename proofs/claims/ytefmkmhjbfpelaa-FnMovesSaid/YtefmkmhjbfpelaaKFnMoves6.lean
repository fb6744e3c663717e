-- Merged by a program of this session (wip/tool/pack.py) out of its own texts for this claim.
import Derived.Test.YtefmkmhjbfpelaaKFnMoves0
import Derived.Test.YtefmkmhjbfpelaaKFnMoves1
import Derived.Test.YtefmkmhjbfpelaaKFnMoves2
import Derived.Test.YtefmkmhjbfpelaaKFnMoves3
import Derived.Test.YtefmkmhjbfpelaaKFnMoves5
namespace Go.Proofs.Ytefmkmhjbfpelaa.QM
open Go.RowKit Go.Proofs.YtefmkmhjbfpelaaW.PrintWords Go.Proofs.YtefmkmhjbfpelaaW.PrintLast Go.Proofs.YtefmkmhjbfpelaaW.PrintMore
attribute [local go_sem] max2_int min2_int max_two min_two max_three min_three max_four min_four   -- for this text's walks alone
set_option linter.unusedVariables false
set_option linter.unusedSimpArgs false
def spec_BookHand.T3 : Bool × List (List Nat × List Nat) := (true, [([], []), ([0], [0]), ([], []), ([], []), ([2, 3], [2, 3]), ([1, 4], [1, 4]), ([5], [5]), ([6], [6]), ([7, 4, 0, 1, 2, 3, 4, 5, 6, 7], [7])])
def spec_BookHand.B3 : List Nat := [0, 1, 0, 0, 12, 31, 63, 127, 255]
theorem spec_BookHand.tab3 : rtab .any (opsOf Try.f29 3) = spec_BookHand.T3 := by kernel_rfl
theorem spec_BookHand.bits3 : waitsOk spec_BookHand.T3.2 spec_BookHand.B3 = true := by kernel_rfl
set_option maxHeartbeats 8000000 in
set_option maxRecDepth 100000 in
theorem spec_BookHand.calls (k : Nat) (A0_0 : Option Addr) (c0_0 : Nat) (l0_0 : List (S117)) (A0_1 : Option Addr) (c0_1 : Nat) (l0_1 : List (S54)) (a1 : ByteArray) (r : Int) (w : World) (hr0_0 : Kd.C k117 w A0_0 l0_0.length l0_0) (hc0_0 : l0_0.length ≤ c0_0) (hr0_1 : Kd.C k54 w A0_1 l0_1.length l0_1) (hc0_1 : l0_1.length ≤ c0_1) (h : spec_BookHand.f k l0_0 l0_1 a1 = some r) :
    Calls Try.prog 29 #[.agg #[.slice A0_0 l0_0.length c0_0, .slice A0_1 l0_1.length c0_1], .string a1] w fun e w' => e = .returned (.int .i64 r) ∧ Below w.heap.size w w' := by
  have hu47 := Try.underlying47; have HR0_0 := Aside0.mk hr0_0; have HC0_0 := Aside0.mk hc0_0; clear hr0_0 hc0_0; have HR0_1 := Aside0.mk hr0_1; have HC0_1 := Aside0.mk hc0_1; clear hr0_1 hc0_1; have HB := Aside0.mk (Below.refl w.heap.size w); have H : (if (a1.size : Int) > 20000 then (some 0) else ((spec_BookRight.f k l0_0 l0_1).bind fun t180 => (if t180 = true then ((spec_l10Stock.f k l0_0 l0_1 a1).bind fun t181 => (if t181 < 0 then (some 0) else ((spec_l10Stock.f k l0_0 l0_1 a1).bind fun t182 => (if 0 ≤ t182 then (if t182 < (l0_0.length : Int) then (some ((rd_T117 l0_0 t182).f1)) else (none)) else (none))))) else (some 0)))) = some r := h; clear h
  by_cases c3 : (a1.size : Int) > 20000
  · rw [if_pos c3] at H; have c3b0 : decide (20000 < (a1.size : Int)) = true := decide_eq_true c3; have c3b1 : decide (20000 < a1.size) = true := decide_eq_true (by omega); clear c3; obtain rfl := Option.some.inj H
    go_enter Try.func29, Try.ntmps29
    go_wp2_with (first | ((with_reducible refine gate_dst (N := 2) rfl ?_); refine bx 2 (cs := #[.slice A0_0 l0_0.length c0_0, .slice A0_1 l0_1.length c0_1]) (t := 47) ?_; intro gb179 hg w4 hbox hb; have BK179 := Aside0.mk (hbox); have GW179 := Aside0.mk ((gs hg (bs HB))); have GE179 := Aside0.mk ((gs hg (bs HB))); replace HB := Aside0.mk (below_step (bs HB) hb); clear hb hbox hg))
    go_ret
    exact ⟨ff, bs HB⟩
  · rw [if_neg c3] at H; have c3b0 : decide (20000 < (a1.size : Int)) = false := decide_eq_false c3; have c3b1 : decide (20000 < a1.size) = false := decide_eq_false (by omega); clear c3; replace H := Option.bind_eq_some_iff.mp H; obtain ⟨t180, A50, H⟩ := H; replace H : (if t180 = true then ((spec_l10Stock.f k l0_0 l0_1 a1).bind fun t181 => (if t181 < 0 then (some 0) else ((spec_l10Stock.f k l0_0 l0_1 a1).bind fun t182 => (if 0 ≤ t182 then (if t182 < (l0_0.length : Int) then (some ((rd_T117 l0_0 t182).f1)) else (none)) else (none))))) else (some 0)) = some r := H; have A5 := Aside0.mk A50; clear A50
    go_enter Try.func29, Try.ntmps29
    try go_wp2_with (first | ((with_reducible refine gate_dst (N := 2) rfl ?_); refine bx 2 (cs := #[.slice A0_0 l0_0.length c0_0, .slice A0_1 l0_1.length c0_1]) (t := 47) ?_; intro gb179 hg w6 hbox hb; have BK179 := Aside0.mk (hbox); have GW179 := Aside0.mk ((gs hg (bs HB))); have GE179 := Aside0.mk ((gs hg (bs HB))); replace HB := Aside0.mk (below_step (bs HB) hb); clear hb hbox hg; obtain ⟨hcz7_0, hcz7_1, hfz7_0, hfz7_1⟩ := cf2 BK179))
    go_at_call 60; (with_reducible refine (spec_BookRight.calls k _ _ l0_0 _ _ l0_1 t180 _ (Kd.C_below HR0_0.out (bs HB)) HC0_0.out (Kd.C_below HR0_1.out (bs HB)) HC0_1.out A5.out).mono ?_); rintro e w8 ⟨rfl, hb⟩; replace BK179 := Aside0.mk (blk_below (ks BK179) hb); replace HB := Aside0.mk (below_step (bs HB) hb); (try clear hb); (try clear hb2); (try clear hk); (try clear hi)
    by_cases c9 : t180 = true
    · subst c9
      have H1 : ((spec_l10Stock.f k l0_0 l0_1 a1).bind fun t181 => (if t181 < 0 then (some 0) else ((spec_l10Stock.f k l0_0 l0_1 a1).bind fun t182 => (if 0 ≤ t182 then (if t182 < (l0_0.length : Int) then (some ((rd_T117 l0_0 t182).f1)) else (none)) else (none))))) = some r := by rw [if_pos rfl] at H; exact H
      clear H; have H := H1; clear H1; replace H := Option.bind_eq_some_iff.mp H; obtain ⟨t181, A100, H⟩ := H; replace H : (if t181 < 0 then (some 0) else ((spec_l10Stock.f k l0_0 l0_1 a1).bind fun t182 => (if 0 ≤ t182 then (if t182 < (l0_0.length : Int) then (some ((rd_T117 l0_0 t182).f1)) else (none)) else (none)))) = some r := H; have A10 := Aside0.mk A100; clear A100; obtain ⟨hcz11_0, hcz11_1, hfz11_0, hfz11_1⟩ := cf2 BK179
      try go_wp2_with (fail)
      go_at_call 90; (with_reducible refine (spec_l10Stock.calls k _ _ l0_0 _ _ l0_1 a1 t181 _ (Kd.C_below HR0_0.out (bs HB)) HC0_0.out (Kd.C_below HR0_1.out (bs HB)) HC0_1.out A10.out).mono ?_); rintro e w12 ⟨rfl, hb⟩; replace BK179 := Aside0.mk (blk_below (ks BK179) hb); replace HB := Aside0.mk (below_step (bs HB) hb); (try clear hb); (try clear hb2); (try clear hk); (try clear hi)
      by_cases c13 : t181 < 0
      · rw [if_pos c13] at H; have c13b0 : decide (t181 < 0) = true := decide_eq_true c13; clear c13; obtain rfl := Option.some.inj H
        go_wp2
        go_ret
        exact ⟨ff, bs HB⟩
      · rw [if_neg c13] at H; have c13b0 : decide (t181 < 0) = false := decide_eq_false c13; clear c13; replace H := Option.bind_eq_some_iff.mp H; obtain ⟨t182, A140, H⟩ := H; replace H : (if 0 ≤ t182 then (if t182 < (l0_0.length : Int) then (some ((rd_T117 l0_0 t182).f1)) else (none)) else (none)) = some r := H; have A14 := Aside0.mk A140; clear A140
        by_cases c15 : 0 ≤ t182
        · rw [if_pos c15] at H; have c15b0 : decide (0 ≤ t182) = true := decide_eq_true c15; clear c15
          by_cases c16 : t182 < (l0_0.length : Int)
          · rw [if_pos c16] at H; have c16b0 : decide (t182 < (l0_0.length : Int)) = true := decide_eq_true c16; clear c16; obtain rfl := Option.some.inj H
            try go_wp2
            replace BK179 := Aside0.mk (blk_drew BK179.out); replace HB := Aside0.mk (below_drew1 HB.out); have p183 : 0 ≤ (t182 : Int) := oa; have q183 : t182 < (l0_0.length : Int) := oa; obtain ⟨ad183, e183, hx183_0, hx183_1⟩ := at_T117 HR0_0.out t182 p183 q183; have hw183_1 := hx183_1; have hw183_0 := hx183_0
            cases e183
            replace hx183_0 := cb HB hx183_0; replace hx183_1 := cb HB hx183_1; replace p183 := eq_true p183; replace q183 := eq_true q183; refine start_ (n := 9) (S := fun w' => w'.cell? ⟨gb179, 0, none⟩ = some (.slice (some ad183) l0_0.length c0_0) ∧ w'.cell? ⟨gb179, 1, none⟩ = some (.slice A0_1 l0_1.length c0_1) ∧ w'.cell? (ad183.add ((t182).toNat * 2)) = some (.string ((rd_T117 l0_0 t182).f0)) ∧ w'.cell? ⟨(ad183.add ((t182).toNat * 2)).block, (ad183.add ((t182).toNat * 2)).off + 1, none⟩ = some (.int .i64 ((rd_T117 l0_0 t182).f1))) (ds := []) #[false, false, false, false, false, false, false, false, false] (by kernel_rfl) rfl rfl ⟨(blk_cell BK179.out 0).trans rfl, (blk_cell BK179.out 1).trans rfl, ((cb HB hw183_0).trans rfl), ((cb HB hw183_1).trans rfl)⟩ (fun hHeld => ?_); refine with_tabW spec_BookHand.tab3 spec_BookHand.bits3 (fun HT_ HW_ => ?_)
            generalize w12.drew = w17 at BK179 HB hx183_0 hx183_1 hHeld ⊢
            refine pA 0 19 HT_ ?_; refine pA 3 22 HT_ ?_; refine tA 1 20 HT_ HW_ hHeld ?_; refine tA 2 21 HT_ HW_ hHeld ?_; refine oA 4 23 HT_ (fun K hK => ?_); refine gA Try.func90 #[.agg #[.slice (some ad183) l0_0.length c0_0, .slice A0_1 l0_1.length c0_1], .string a1] ?_; (with_reducible refine (spec_l10Stock.calls k _ _ l0_0 _ _ l0_1 a1 t182 _ ?side1 ?side2 ?side3 ?side4 A14.out).mono ?_)
            (case side1 => repeat (first | exact (Kd.C_below HR0_0.out HB.out) | (with_reducible refine Kd.C_alloc ?_ _) | (with_reducible refine Kd.C_drewN ?_ _) | (with_reducible refine Kd.C_drew ?_)))
            (case side2 => exact HC0_0.out)
            (case side3 => repeat (first | exact (Kd.C_below HR0_1.out HB.out) | (with_reducible refine Kd.C_alloc ?_ _) | (with_reducible refine Kd.C_drewN ?_ _) | (with_reducible refine Kd.C_drew ?_)))
            (case side4 => exact HC0_1.out)
            rintro e w18 ⟨rfl, hb⟩; refine ⟨_, rfl, ?_⟩; replace BK179 := Aside0.mk (blk_below (ks BK179) hb); replace HB := Aside0.mk (below_step (bs HB) hb); (try clear hb); (try clear hb2); (try clear hk); (try clear hi); refine hK.out _ _ ⟨(blk_cell BK179.out 0).trans rfl, (blk_cell BK179.out 1).trans rfl, ((cb HB hw183_0).trans rfl), ((cb HB hw183_1).trans rfl)⟩ (fun hHeld => ?_); clear hK K; refine nA 23 ?_; refine pA 5 24 HT_ ?_; refine pA 6 25 HT_ ?_; refine tA 7 26 HT_ HW_ hHeld ?_; refine pA 8 4 HT_ ?_; refine done_ (done_of HT_.out (by kernel_rfl)) ?_
            try go_wp2
            go_ret
            exact ⟨ff, bs HB⟩
          · rw [if_neg c16] at H
            exact absurd H (by simp)
        · rw [if_neg c15] at H
          exact absurd H (by simp)
    · replace c9 := Bool.eq_false_iff.mpr c9; subst c9
      have H1 : (some 0) = some r := by rw [if_neg (show ¬ (false = true) by decide)] at H; exact H
      clear H; have H := H1; clear H1; obtain rfl := Option.some.inj H
      go_wp2
      go_ret
      exact ⟨ff, bs HB⟩
end Go.Proofs.Ytefmkmhjbfpelaa.QM
