-- Merged by a program of this session (wip/tool/pack.py) out of its own texts for this claim.
import Derived.Test.YtefmkmhjbfpelaaKFnExactBookMove0
import Derived.Test.YtefmkmhjbfpelaaKFnExactBookMove1
import Derived.Test.YtefmkmhjbfpelaaKFnExactBookMove2
import Derived.Test.YtefmkmhjbfpelaaKFnExactBookMove3
import Derived.Test.YtefmkmhjbfpelaaKFnExactBookMove15
import Derived.Test.YtefmkmhjbfpelaaKFnExactBookMove16
namespace Go.Proofs.Ytefmkmhjbfpelaa.QM
open Go.RowKit Go.Proofs.YtefmkmhjbfpelaaW.PrintWords Go.Proofs.YtefmkmhjbfpelaaW.PrintLast Go.Proofs.YtefmkmhjbfpelaaW.PrintMore
attribute [local go_sem] max2_int min2_int max_two min_two max_three min_three max_four min_four   -- for this text's walks alone
set_option linter.unusedVariables false
set_option linter.unusedSimpArgs false
set_option maxHeartbeats 8000000 in
set_option maxRecDepth 100000 in
theorem laws_heldBook.calls (k : Nat) (A0_0 : Option Addr) (c0_0 : Nat) (l0_0 : List (S117)) (A0_1 : Option Addr) (c0_1 : Nat) (l0_1 : List (S54)) (a1 : Int) (r : Int) (w : World) (hr0_0 : Kd.C k117 w A0_0 l0_0.length l0_0) (hc0_0 : l0_0.length ≤ c0_0) (hr0_1 : Kd.C k54 w A0_1 l0_1.length l0_1) (hc0_1 : l0_1.length ≤ c0_1) (h : laws_heldBook.f k l0_0 l0_1 a1 = some r) :
    Calls Try.prog 66 #[.agg #[.slice A0_0 l0_0.length c0_0, .slice A0_1 l0_1.length c0_1], .int .i64 a1] w fun e w' => e = .returned (.int .i64 r) ∧ Below w.heap.size w w' := by
  have hu47 := Try.underlying47; have HR0_0 := Aside0.mk hr0_0; have HC0_0 := Aside0.mk hc0_0; clear hr0_0 hc0_0; have HR0_1 := Aside0.mk hr0_1; have HC0_1 := Aside0.mk hc0_1; clear hr0_1 hc0_1; have HB := Aside0.mk (Below.refl w.heap.size w); have H : ((laws_heldStockS.f k l0_0 a1).bind fun t337 => (if t337 < 0 then (some (-1)) else ((laws_heldOrderLineS.f k l0_1 t337).bind fun t338 => (if t338 < 0 then (some (-1)) else (some t338))))) = some r := h; clear h; replace H := Option.bind_eq_some_iff.mp H; obtain ⟨t337, A30, H⟩ := H; replace H : (if t337 < 0 then (some (-1)) else ((laws_heldOrderLineS.f k l0_1 t337).bind fun t338 => (if t338 < 0 then (some (-1)) else (some t338)))) = some r := H; have A3 := Aside0.mk A30; clear A30
  go_enter Try.func66, Try.ntmps66
  try go_wp2_with (first | ((with_reducible refine gate_dst (N := 2) rfl ?_); refine bx 2 (cs := #[.slice A0_0 l0_0.length c0_0, .slice A0_1 l0_1.length c0_1]) (t := 47) ?_; intro gb336 hg w4 hbox hb; have BK336 := Aside0.mk (hbox); have GW336 := Aside0.mk ((gs hg (bs HB))); have GE336 := Aside0.mk ((gs hg (bs HB))); replace HB := Aside0.mk (below_step (bs HB) hb); clear hb hbox hg; obtain ⟨hcz5_0, hcz5_1, hfz5_0, hfz5_1⟩ := cf2 BK336))
  go_at_call 125; (with_reducible refine (laws_heldStockS.calls k _ _ l0_0 a1 t337 _ (Kd.C_below HR0_0.out (bs HB)) HC0_0.out A3.out).mono ?_); rintro e w6 ⟨rfl, hb⟩; replace BK336 := Aside0.mk (blk_below (ks BK336) hb); replace HB := Aside0.mk (below_step (bs HB) hb); (try clear hb); (try clear hb2); (try clear hk); (try clear hi)
  by_cases c7 : t337 < 0
  · rw [if_pos c7] at H; have c7b0 : decide (t337 < 0) = true := decide_eq_true c7; clear c7; obtain rfl := Option.some.inj H
    go_wp2
    go_ret
    exact ⟨ff, bs HB⟩
  · rw [if_neg c7] at H; have c7b0 : decide (t337 < 0) = false := decide_eq_false c7; clear c7; replace H := Option.bind_eq_some_iff.mp H; obtain ⟨t338, A80, H⟩ := H; replace H : (if t338 < 0 then (some (-1)) else (some t338)) = some r := H; have A8 := Aside0.mk A80; clear A80; obtain ⟨hcz9_0, hcz9_1, hfz9_0, hfz9_1⟩ := cf2 BK336
    try go_wp2_with (fail)
    go_at_call 56; (with_reducible refine (laws_heldOrderLineS.calls k _ _ l0_1 t337 t338 _ (Kd.C_below HR0_1.out (bs HB)) HC0_1.out A8.out).mono ?_); rintro e w10 ⟨rfl, hb⟩; replace BK336 := Aside0.mk (blk_below (ks BK336) hb); replace HB := Aside0.mk (below_step (bs HB) hb); (try clear hb); (try clear hb2); (try clear hk); (try clear hi)
    by_cases c11 : t338 < 0
    · rw [if_pos c11] at H; have c11b0 : decide (t338 < 0) = true := decide_eq_true c11; clear c11; obtain rfl := Option.some.inj H
      go_wp2
      go_ret
      exact ⟨ff, bs HB⟩
    · rw [if_neg c11] at H; have c11b0 : decide (t338 < 0) = false := decide_eq_false c11; clear c11; obtain rfl := Option.some.inj H
      go_wp2
      go_ret
      exact ⟨ff, bs HB⟩
end Go.Proofs.Ytefmkmhjbfpelaa.QM
