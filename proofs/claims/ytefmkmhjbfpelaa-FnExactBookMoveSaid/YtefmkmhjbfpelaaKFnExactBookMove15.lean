-- Merged by a program of this session (wip/tool/pack.py) out of its own texts for this claim.
import Derived.Test.YtefmkmhjbfpelaaKFnExactBookMove0
import Derived.Test.YtefmkmhjbfpelaaKFnExactBookMove1
import Derived.Test.YtefmkmhjbfpelaaKFnExactBookMove2
import Derived.Test.YtefmkmhjbfpelaaKFnExactBookMove3
import Derived.Test.YtefmkmhjbfpelaaKFnExactBookMove13
namespace Go.Proofs.Ytefmkmhjbfpelaa.QM
open Go.RowKit Go.Proofs.YtefmkmhjbfpelaaW.PrintWords Go.Proofs.YtefmkmhjbfpelaaW.PrintLast Go.Proofs.YtefmkmhjbfpelaaW.PrintMore
attribute [local go_sem] max2_int min2_int max_two min_two max_three min_three max_four min_four   -- for this text's walks alone
set_option linter.unusedVariables false
set_option linter.unusedSimpArgs false
def laws_heldStockS.T4 : Bool × List (List Nat × List Nat) := (true, [([], []), ([], []), ([0, 1], [0, 1]), ([2], [2]), ([3], [3]), ([], []), ([5], [5]), ([4, 6], [4, 6])])
def laws_heldStockS.B4 : List Nat := [0, 0, 3, 7, 15, 0, 32, 127]
theorem laws_heldStockS.tab4 : rtab .any (opsOf Try.f125 4) = laws_heldStockS.T4 := by kernel_rfl
theorem laws_heldStockS.bits4 : waitsOk laws_heldStockS.T4.2 laws_heldStockS.B4 = true := by kernel_rfl
set_option maxHeartbeats 8000000 in
set_option maxRecDepth 100000 in
theorem laws_heldStockS.calls (k : Nat) (A0 : Option Addr) (c0 : Nat) (l0 : List (S117)) (a1 : Int) (r : Int) (w : World) (hr0 : Kd.C k117 w A0 l0.length l0) (hc0 : l0.length ≤ c0) (h : laws_heldStockS.f k l0 a1 = some r) :
    Calls Try.prog 125 #[.slice A0 l0.length c0, .int .i64 a1] w fun e w' => e = .returned (.int .i64 r) ∧ Below w.heap.size w w' := by
  have HR0 := Aside0.mk hr0; have HC0 := Aside0.mk hc0; clear hr0 hc0; have HB := Aside0.mk (Below.refl w.heap.size w); have H : (laws_heldStockS.l0 k l0 a1 0) = some r := h; clear h; have H' := Aside0.mk H; clear H
  go_enter Try.func125, Try.ntmps125
  go_wp2
  go_loopg [1, 5] k (fun kq v1 v5 w' => ∃ (x1_1 : Int) (x5_1 : Int), v1 = .int .i64 x1_1 ∧ v5 = .int .i64 x5_1 ∧ Aside0 (laws_heldStockS.l0 kq l0 x1_1 x5_1 = some r) ∧ Aside0 (kq ≤ k) ∧ Aside0 (Below w.heap.size w w'))
  case atStart => exact ⟨(a1), (0), fg, fg, H', ⟨Nat.le_refl _⟩, ⟨bs HB⟩⟩
  case round =>
    clear H'
    try clear c1
    try clear p2
    obtain ⟨x1_1, x5_1, rfl, rfl, HA, HK1, HB⟩ := hrel
    cases gk with
    | zero => exact absurd HA.out (by simp [laws_heldStockS.l0])
    | succ k1 =>
      have H := HA.out; clear HA; simp only [laws_heldStockS.l0] at H
      by_cases c3 : x5_1 < (l0.length : Int)
      · rw [if_pos c3] at H; have c3b0 : decide (x5_1 < (l0.length : Int)) = true := decide_eq_true c3; clear c3
        by_cases c4 : 0 ≤ x5_1
        · rw [if_pos c4] at H; have c4b0 : decide (0 ≤ x5_1) = true := decide_eq_true c4; clear c4; replace H := Option.bind_eq_some_iff.mp H; obtain ⟨t323, A50, H⟩ := H; replace H : (if ((rd_T117 l0 x5_1).f0).toList = t323.toList then (if ((rd_T117 l0 x5_1).f1) = (wrap64 (x1_1 + 1)) then (laws_heldStockS.l0 k1 l0 (wrap64 ((wrap64 (x1_1 + 1)) + 1)) (wrap64 (x5_1 + 1))) else (some (-1))) else (some (-1))) = some r := H; have A5 := Aside0.mk A50; clear A50
          by_cases c6 : ((rd_T117 l0 x5_1).f0).toList = t323.toList
          · rw [if_pos c6] at H; have c6b0 : (((rd_T117 l0 x5_1).f0).toList == t323.toList) = true := beq_iff_eq.mpr c6; have c6b1 : (((rd_T117 l0 x5_1).f0).toList != t323.toList) = false := bne_eq_false_iff_eq.mpr c6; clear c6
            by_cases c7 : ((rd_T117 l0 x5_1).f1) = (wrap64 (x1_1 + 1))
            · rw [if_pos c7] at H; have c7b0 : (((rd_T117 l0 x5_1).f1) == (wrap64 (x1_1 + 1))) = true := beq_iff_eq.mpr c7; have c7b1 : (((rd_T117 l0 x5_1).f1) != (wrap64 (x1_1 + 1))) = false := bne_eq_false_iff_eq.mpr c7; clear c7; have H' := Aside0.mk H; clear H
              try go_wp2
              replace HB := Aside0.mk (below_drew1 HB.out); have p322 : 0 ≤ (x5_1 : Int) := oa; have q322 : x5_1 < (l0.length : Int) := oa; obtain ⟨ad322, e322, hx322_0, hx322_1⟩ := at_T117 HR0.out x5_1 p322 q322; have hw322_1 := hx322_1; have hw322_0 := hx322_0
              cases e322
              replace hx322_0 := cb HB hx322_0; replace hx322_1 := cb HB hx322_1; replace p322 := eq_true p322; replace q322 := eq_true q322; refine start_ (n := 8) (S := fun w' => w'.cell? (ad322.add ((x5_1).toNat * 2)) = some (.string ((rd_T117 l0 x5_1).f0)) ∧ w'.cell? ⟨(ad322.add ((x5_1).toNat * 2)).block, (ad322.add ((x5_1).toNat * 2)).off + 1, none⟩ = some (.int .i64 ((rd_T117 l0 x5_1).f1))) (ds := []) #[false, false, false, false, false, false, false, false] (by kernel_rfl) rfl rfl ⟨((cb HB hw322_0).trans rfl), ((cb HB hw322_1).trans rfl)⟩ (fun hHeld => ?_); refine with_tabW laws_heldStockS.tab4 laws_heldStockS.bits4 (fun HT_ HW_ => ?_)
              generalize wr.drew = w8 at HB hx322_0 hx322_1 hHeld ⊢
              refine pA 0 12 HT_ ?_; refine pA 1 13 HT_ ?_; refine pA 2 14 HT_ ?_; refine pA 3 15 HT_ ?_; refine pA 5 17 HT_ ?_; refine tA 4 16 HT_ HW_ hHeld ?_; refine oA 6 18 HT_ (fun K hK => ?_); refine gA Try.func105 #[.int .i64 x1_1] ?_; (with_reducible refine (laws_markText.calls k1 x1_1 t323 _ A5.out).mono ?_); rintro e w9 ⟨rfl, hb⟩; refine ⟨_, rfl, ?_⟩; replace HB := Aside0.mk (below_step (bs HB) hb); (try clear hb); (try clear hb2); (try clear hk); (try clear hi); refine hK.out _ _ ⟨((cb HB hw322_0).trans rfl), ((cb HB hw322_1).trans rfl)⟩ (fun hHeld => ?_); clear hK K; refine nA 18 ?_; refine pA 7 19 HT_ ?_; refine done_ (done_of HT_.out (by kernel_rfl)) ?_; have p324 : 0 ≤ (x5_1 : Int) := oa; have q324 : x5_1 < (l0.length : Int) := oa; obtain ⟨ad324, e324, hx324_0, hx324_1⟩ := at_T117 HR0.out x5_1 p324 q324; obtain rfl : ad322 = ad324 := (by injection e324); replace hx324_0 := cb HB hx324_0; replace hx324_1 := cb HB hx324_1; replace p324 := eq_true p324; replace q324 := eq_true q324
              try go_wp2
              go_roundg k1
              case measure => have := HK1.out; omega
              case rel => exact ⟨(wrap64 ((wrap64 (x1_1 + 1)) + 1)), (wrap64 (x5_1 + 1)), fg, fg, H', ⟨by have := HK1.out; omega⟩, ⟨bs HB⟩⟩
            · rw [if_neg c7] at H; have c7b0 : (((rd_T117 l0 x5_1).f1) == (wrap64 (x1_1 + 1))) = false := beq_eq_false_iff_ne.mpr c7; have c7b1 : (((rd_T117 l0 x5_1).f1) != (wrap64 (x1_1 + 1))) = true := bne_iff_ne.mpr c7; obtain rfl := Option.some.inj H
              try go_wp2
              replace HB := Aside0.mk (below_drew1 HB.out); have p322 : 0 ≤ (x5_1 : Int) := oa; have q322 : x5_1 < (l0.length : Int) := oa; obtain ⟨ad322, e322, hx322_0, hx322_1⟩ := at_T117 HR0.out x5_1 p322 q322; have hw322_1 := hx322_1; have hw322_0 := hx322_0
              cases e322
              replace hx322_0 := cb HB hx322_0; replace hx322_1 := cb HB hx322_1; replace p322 := eq_true p322; replace q322 := eq_true q322; refine start_ (n := 8) (S := fun w' => w'.cell? (ad322.add ((x5_1).toNat * 2)) = some (.string ((rd_T117 l0 x5_1).f0)) ∧ w'.cell? ⟨(ad322.add ((x5_1).toNat * 2)).block, (ad322.add ((x5_1).toNat * 2)).off + 1, none⟩ = some (.int .i64 ((rd_T117 l0 x5_1).f1))) (ds := []) #[false, false, false, false, false, false, false, false] (by kernel_rfl) rfl rfl ⟨((cb HB hw322_0).trans rfl), ((cb HB hw322_1).trans rfl)⟩ (fun hHeld => ?_); refine with_tabW laws_heldStockS.tab4 laws_heldStockS.bits4 (fun HT_ HW_ => ?_)
              generalize wr.drew = w10 at HB hx322_0 hx322_1 hHeld ⊢
              refine pA 0 12 HT_ ?_; refine pA 1 13 HT_ ?_; refine pA 2 14 HT_ ?_; refine pA 3 15 HT_ ?_; refine pA 5 17 HT_ ?_; refine tA 4 16 HT_ HW_ hHeld ?_; refine oA 6 18 HT_ (fun K hK => ?_); refine gA Try.func105 #[.int .i64 x1_1] ?_; (with_reducible refine (laws_markText.calls k1 x1_1 t323 _ A5.out).mono ?_); rintro e w11 ⟨rfl, hb⟩; refine ⟨_, rfl, ?_⟩; replace HB := Aside0.mk (below_step (bs HB) hb); (try clear hb); (try clear hb2); (try clear hk); (try clear hi); refine hK.out _ _ ⟨((cb HB hw322_0).trans rfl), ((cb HB hw322_1).trans rfl)⟩ (fun hHeld => ?_); clear hK K; refine nA 18 ?_; refine pA 7 19 HT_ ?_; refine done_ (done_of HT_.out (by kernel_rfl)) ?_; have p324 : 0 ≤ (x5_1 : Int) := oa; have q324 : x5_1 < (l0.length : Int) := oa; obtain ⟨ad324, e324, hx324_0, hx324_1⟩ := at_T117 HR0.out x5_1 p324 q324; obtain rfl : ad322 = ad324 := (by injection e324); replace hx324_0 := cb HB hx324_0; replace hx324_1 := cb HB hx324_1; replace p324 := eq_true p324; replace q324 := eq_true q324
              try go_wp2
              go_ret
              exact ⟨ff, bs HB⟩
          · rw [if_neg c6] at H; have c6b0 : (((rd_T117 l0 x5_1).f0).toList == t323.toList) = false := beq_eq_false_iff_ne.mpr c6; have c6b1 : (((rd_T117 l0 x5_1).f0).toList != t323.toList) = true := bne_iff_ne.mpr c6; obtain rfl := Option.some.inj H
            try go_wp2
            replace HB := Aside0.mk (below_drew1 HB.out); have p322 : 0 ≤ (x5_1 : Int) := oa; have q322 : x5_1 < (l0.length : Int) := oa; obtain ⟨ad322, e322, hx322_0, hx322_1⟩ := at_T117 HR0.out x5_1 p322 q322; have hw322_1 := hx322_1; have hw322_0 := hx322_0
            cases e322
            replace hx322_0 := cb HB hx322_0; replace hx322_1 := cb HB hx322_1; replace p322 := eq_true p322; replace q322 := eq_true q322; refine start_ (n := 8) (S := fun w' => w'.cell? (ad322.add ((x5_1).toNat * 2)) = some (.string ((rd_T117 l0 x5_1).f0)) ∧ w'.cell? ⟨(ad322.add ((x5_1).toNat * 2)).block, (ad322.add ((x5_1).toNat * 2)).off + 1, none⟩ = some (.int .i64 ((rd_T117 l0 x5_1).f1))) (ds := []) #[false, false, false, false, false, false, false, false] (by kernel_rfl) rfl rfl ⟨((cb HB hw322_0).trans rfl), ((cb HB hw322_1).trans rfl)⟩ (fun hHeld => ?_); refine with_tabW laws_heldStockS.tab4 laws_heldStockS.bits4 (fun HT_ HW_ => ?_)
            generalize wr.drew = w12 at HB hx322_0 hx322_1 hHeld ⊢
            refine pA 0 12 HT_ ?_; refine pA 1 13 HT_ ?_; refine pA 2 14 HT_ ?_; refine pA 3 15 HT_ ?_; refine pA 5 17 HT_ ?_; refine tA 4 16 HT_ HW_ hHeld ?_; refine oA 6 18 HT_ (fun K hK => ?_); refine gA Try.func105 #[.int .i64 x1_1] ?_; (with_reducible refine (laws_markText.calls k1 x1_1 t323 _ A5.out).mono ?_); rintro e w13 ⟨rfl, hb⟩; refine ⟨_, rfl, ?_⟩; replace HB := Aside0.mk (below_step (bs HB) hb); (try clear hb); (try clear hb2); (try clear hk); (try clear hi); refine hK.out _ _ ⟨((cb HB hw322_0).trans rfl), ((cb HB hw322_1).trans rfl)⟩ (fun hHeld => ?_); clear hK K; refine nA 18 ?_; refine pA 7 19 HT_ ?_; refine done_ (done_of HT_.out (by kernel_rfl)) ?_
            try go_wp2
            go_ret
            exact ⟨ff, bs HB⟩
        · rw [if_neg c4] at H
          exact absurd H (by simp)
      · rw [if_neg c3] at H; have c3b0 : decide (x5_1 < (l0.length : Int)) = false := decide_eq_false c3; clear c3; obtain rfl := Option.some.inj H
        go_wp2
        go_ret
        exact ⟨ff, bs HB⟩
end Go.Proofs.Ytefmkmhjbfpelaa.QM
