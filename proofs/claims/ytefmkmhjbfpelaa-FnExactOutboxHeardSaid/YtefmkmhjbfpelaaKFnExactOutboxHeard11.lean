-- Merged by a program of this session (wip/tool/pack.py) out of its own texts for this claim.
import Derived.Test.YtefmkmhjbfpelaaKFnExactOutboxHeard0
import Derived.Test.YtefmkmhjbfpelaaKFnExactOutboxHeard1
import Derived.Test.YtefmkmhjbfpelaaKFnExactOutboxHeard2
import Derived.Test.YtefmkmhjbfpelaaKFnExactOutboxHeard9
import Derived.Test.YtefmkmhjbfpelaaKFnExactOutboxHeard10
namespace Go.Proofs.Ytefmkmhjbfpelaa.QO
open Go.RowKit Go.Proofs.YtefmkmhjbfpelaaW.PrintWords Go.Proofs.YtefmkmhjbfpelaaW.PrintLast Go.Proofs.YtefmkmhjbfpelaaW.PrintMore
attribute [local go_sem] max2_int min2_int max_two min_two max_three min_three max_four min_four   -- for this text's walks alone
set_option linter.unusedVariables false
set_option linter.unusedSimpArgs false
def laws_heldSentS.T4 : Bool × List (List Nat × List Nat) := (true, [([], []), ([], []), ([0, 1], [0, 1]), ([2], [2]), ([3], [3]), ([], []), ([5], [5]), ([4, 6], [4, 6])])
def laws_heldSentS.B4 : List Nat := [0, 0, 3, 7, 15, 0, 32, 127]
theorem laws_heldSentS.tab4 : rtab .any (opsOf Try.f108 4) = laws_heldSentS.T4 := by kernel_rfl
theorem laws_heldSentS.bits4 : waitsOk laws_heldSentS.T4.2 laws_heldSentS.B4 = true := by kernel_rfl
def laws_heldSentS.T10 : Bool × List (List Nat × List Nat) := (true, [([], []), ([], []), ([0, 1], [0, 1]), ([2], [2]), ([3], [3]), ([], []), ([5], [5]), ([4, 6], [4, 6])])
def laws_heldSentS.B10 : List Nat := [0, 0, 3, 7, 15, 0, 32, 127]
theorem laws_heldSentS.tab10 : rtab .any (opsOf Try.f108 10) = laws_heldSentS.T10 := by kernel_rfl
theorem laws_heldSentS.bits10 : waitsOk laws_heldSentS.T10.2 laws_heldSentS.B10 = true := by kernel_rfl
set_option maxHeartbeats 8000000 in
set_option maxRecDepth 100000 in
theorem laws_heldSentS.calls (k : Nat) (A0 : Option Addr) (c0 : Nat) (l0 : List (S105)) (a1 : Int) (r : Int) (w : World) (hr0 : Kd.C k105 w A0 l0.length l0) (hc0 : l0.length ≤ c0) (h : laws_heldSentS.f k l0 a1 = some r) :
    Calls Try.prog 108 #[.slice A0 l0.length c0, .int .i64 a1] w fun e w' => e = .returned (.int .i64 r) ∧ Below w.heap.size w w' := by
  have HR0 := Aside0.mk hr0; have HC0 := Aside0.mk hc0; clear hr0 hc0; have HB := Aside0.mk (Below.refl w.heap.size w); have H : (laws_heldSentS.l0 k l0 a1 0) = some r := h; clear h; have H' := Aside0.mk H; clear H
  go_enter Try.func108, Try.ntmps108
  go_wp2
  go_loopg [1, 5] k (fun kq v1 v5 w' => ∃ (x1_1 : Int) (x5_1 : Int), v1 = .int .i64 x1_1 ∧ v5 = .int .i64 x5_1 ∧ Aside0 (laws_heldSentS.l0 kq l0 x1_1 x5_1 = some r) ∧ Aside0 (kq ≤ k) ∧ Aside0 (Below w.heap.size w w'))
  case atStart => exact ⟨(a1), (0), fg, fg, H', ⟨Nat.le_refl _⟩, ⟨bs HB⟩⟩
  case round =>
    clear H'
    try clear c1
    try clear p2
    obtain ⟨x1_1, x5_1, rfl, rfl, HA, HK1, HB⟩ := hrel
    cases gk with
    | zero => exact absurd HA.out (by simp [laws_heldSentS.l0])
    | succ k1 =>
      have H := HA.out; clear HA; simp only [laws_heldSentS.l0] at H
      by_cases c3 : x5_1 < (l0.length : Int)
      · rw [if_pos c3] at H; have c3b0 : decide (x5_1 < (l0.length : Int)) = true := decide_eq_true c3; clear c3
        by_cases c4 : 0 ≤ x5_1
        · rw [if_pos c4] at H; have c4b0 : decide (0 ≤ x5_1) = true := decide_eq_true c4; clear c4; replace H := Option.bind_eq_some_iff.mp H; obtain ⟨t276, A50, H⟩ := H; replace H : (if ((rd_T105 l0 x5_1).f0).toList = t276.toList then (if ((rd_T105 l0 x5_1).f1) = (wrap64 (x1_1 + 1)) then ((laws_markText.f k1 (wrap64 ((wrap64 (x1_1 + 1)) + 1))).bind fun t279 => (if ((rd_T105 l0 x5_1).f2).toList = t279.toList then (laws_heldSentS.l0 k1 l0 (wrap64 ((wrap64 ((wrap64 (x1_1 + 1)) + 1)) + 1)) (wrap64 (x5_1 + 1))) else (some (-1)))) else (some (-1))) else (some (-1))) = some r := H; have A5 := Aside0.mk A50; clear A50
          by_cases c6 : ((rd_T105 l0 x5_1).f0).toList = t276.toList
          · rw [if_pos c6] at H; have c6b0 : (((rd_T105 l0 x5_1).f0).toList == t276.toList) = true := beq_iff_eq.mpr c6; have c6b1 : (((rd_T105 l0 x5_1).f0).toList != t276.toList) = false := bne_eq_false_iff_eq.mpr c6; clear c6
            by_cases c7 : ((rd_T105 l0 x5_1).f1) = (wrap64 (x1_1 + 1))
            · rw [if_pos c7] at H; have c7b0 : (((rd_T105 l0 x5_1).f1) == (wrap64 (x1_1 + 1))) = true := beq_iff_eq.mpr c7; have c7b1 : (((rd_T105 l0 x5_1).f1) != (wrap64 (x1_1 + 1))) = false := bne_eq_false_iff_eq.mpr c7; clear c7; replace H := Option.bind_eq_some_iff.mp H; obtain ⟨t279, A80, H⟩ := H; replace H : (if ((rd_T105 l0 x5_1).f2).toList = t279.toList then (laws_heldSentS.l0 k1 l0 (wrap64 ((wrap64 ((wrap64 (x1_1 + 1)) + 1)) + 1)) (wrap64 (x5_1 + 1))) else (some (-1))) = some r := H; have A8 := Aside0.mk A80; clear A80
              by_cases c9 : ((rd_T105 l0 x5_1).f2).toList = t279.toList
              · rw [if_pos c9] at H; have c9b0 : (((rd_T105 l0 x5_1).f2).toList == t279.toList) = true := beq_iff_eq.mpr c9; have c9b1 : (((rd_T105 l0 x5_1).f2).toList != t279.toList) = false := bne_eq_false_iff_eq.mpr c9; clear c9; have H' := Aside0.mk H; clear H
                try go_wp2
                replace HB := Aside0.mk (below_drew1 HB.out); have p275 : 0 ≤ (x5_1 : Int) := oa; have q275 : x5_1 < (l0.length : Int) := oa; obtain ⟨ad275, e275, hx275_0, hx275_1, hx275_2⟩ := at_T105 HR0.out x5_1 p275 q275; have hw275_2 := hx275_2; have hw275_1 := hx275_1; have hw275_0 := hx275_0
                cases e275
                replace hx275_0 := cb HB hx275_0; replace hx275_1 := cb HB hx275_1; replace hx275_2 := cb HB hx275_2; replace p275 := eq_true p275; replace q275 := eq_true q275; refine start_ (n := 8) (S := fun w' => w'.cell? (ad275.add ((x5_1).toNat * 3)) = some (.string ((rd_T105 l0 x5_1).f0)) ∧ w'.cell? ⟨(ad275.add ((x5_1).toNat * 3)).block, (ad275.add ((x5_1).toNat * 3)).off + 1, none⟩ = some (.int .i64 ((rd_T105 l0 x5_1).f1)) ∧ w'.cell? ⟨(ad275.add ((x5_1).toNat * 3)).block, (ad275.add ((x5_1).toNat * 3)).off + 2, none⟩ = some (.string ((rd_T105 l0 x5_1).f2))) (ds := []) #[false, false, false, false, false, false, false, false] (by kernel_rfl) rfl rfl ⟨((cb HB hw275_0).trans rfl), ((cb HB hw275_1).trans rfl), ((cb HB hw275_2).trans rfl)⟩ (fun hHeld => ?_); refine with_tabW laws_heldSentS.tab4 laws_heldSentS.bits4 (fun HT_ HW_ => ?_)
                generalize wr.drew = w10 at HB hx275_0 hx275_1 hx275_2 hHeld ⊢
                refine pA 0 12 HT_ ?_; refine pA 1 13 HT_ ?_; refine pA 2 14 HT_ ?_; refine pA 3 15 HT_ ?_; refine pA 5 17 HT_ ?_; refine tA 4 16 HT_ HW_ hHeld ?_; refine oA 6 18 HT_ (fun K hK => ?_); refine gA Try.func105 #[.int .i64 x1_1] ?_; (with_reducible refine (laws_markText.calls k1 x1_1 t276 _ A5.out).mono ?_); rintro e w11 ⟨rfl, hb⟩; refine ⟨_, rfl, ?_⟩; replace HB := Aside0.mk (below_step (bs HB) hb); (try clear hb); (try clear hb2); (try clear hk); (try clear hi); refine hK.out _ _ ⟨((cb HB hw275_0).trans rfl), ((cb HB hw275_1).trans rfl), ((cb HB hw275_2).trans rfl)⟩ (fun hHeld => ?_); clear hK K; refine nA 18 ?_; refine pA 7 19 HT_ ?_; refine done_ (done_of HT_.out (by kernel_rfl)) ?_; have p277 : 0 ≤ (x5_1 : Int) := oa; have q277 : x5_1 < (l0.length : Int) := oa; obtain ⟨ad277, e277, hx277_0, hx277_1, hx277_2⟩ := at_T105 HR0.out x5_1 p277 q277; obtain rfl : ad275 = ad277 := (by injection e277); replace hx277_0 := cb HB hx277_0; replace hx277_1 := cb HB hx277_1; replace hx277_2 := cb HB hx277_2; replace p277 := eq_true p277; replace q277 := eq_true q277
                try go_wp2
                replace HB := Aside0.mk (below_drew1 HB.out); have p278 : 0 ≤ (x5_1 : Int) := oa; have q278 : x5_1 < (l0.length : Int) := oa; obtain ⟨ad278, e278, hx278_0, hx278_1, hx278_2⟩ := at_T105 HR0.out x5_1 p278 q278; have hw278_2 := hx278_2; have hw278_1 := hx278_1; have hw278_0 := hx278_0; obtain rfl : ad275 = ad278 := (by injection e278); replace hx278_0 := cb HB hx278_0; replace hx278_1 := cb HB hx278_1; replace hx278_2 := cb HB hx278_2; replace p278 := eq_true p278; replace q278 := eq_true q278; refine start_ (n := 8) (S := fun w' => w'.cell? (ad275.add ((x5_1).toNat * 3)) = some (.string ((rd_T105 l0 x5_1).f0)) ∧ w'.cell? ⟨(ad275.add ((x5_1).toNat * 3)).block, (ad275.add ((x5_1).toNat * 3)).off + 1, none⟩ = some (.int .i64 ((rd_T105 l0 x5_1).f1)) ∧ w'.cell? ⟨(ad275.add ((x5_1).toNat * 3)).block, (ad275.add ((x5_1).toNat * 3)).off + 2, none⟩ = some (.string ((rd_T105 l0 x5_1).f2))) (ds := []) #[false, false, false, false, false, false, false, false] (by kernel_rfl) rfl rfl ⟨((cb HB hw278_0).trans rfl), ((cb HB hw278_1).trans rfl), ((cb HB hw278_2).trans rfl)⟩ (fun hHeld => ?_); refine with_tabW laws_heldSentS.tab10 laws_heldSentS.bits10 (fun HT_ HW_ => ?_)
                generalize w11.drew = w12 at HB hx278_0 hx278_1 hx278_2 hHeld ⊢
                refine pA 0 31 HT_ ?_; refine pA 1 32 HT_ ?_; refine pA 2 33 HT_ ?_; refine pA 3 34 HT_ ?_; refine pA 5 36 HT_ ?_; refine tA 4 35 HT_ HW_ hHeld ?_; refine oA 6 37 HT_ (fun K hK => ?_); refine gA Try.func105 #[.int .i64 (wrap64 ((wrap64 (x1_1 + 1)) + 1))] ?_; (with_reducible refine (laws_markText.calls k1 (wrap64 ((wrap64 (x1_1 + 1)) + 1)) t279 _ A8.out).mono ?_); rintro e w13 ⟨rfl, hb⟩; refine ⟨_, rfl, ?_⟩; replace HB := Aside0.mk (below_step (bs HB) hb); (try clear hb); (try clear hb2); (try clear hk); (try clear hi); refine hK.out _ _ ⟨((cb HB hw278_0).trans rfl), ((cb HB hw278_1).trans rfl), ((cb HB hw278_2).trans rfl)⟩ (fun hHeld => ?_); clear hK K; refine nA 37 ?_; refine pA 7 38 HT_ ?_; refine done_ (done_of HT_.out (by kernel_rfl)) ?_
                try go_wp2
                go_roundg k1
                case measure => have := HK1.out; omega
                case rel => exact ⟨(wrap64 ((wrap64 ((wrap64 (x1_1 + 1)) + 1)) + 1)), (wrap64 (x5_1 + 1)), fg, fg, H', ⟨by have := HK1.out; omega⟩, ⟨bs HB⟩⟩
              · rw [if_neg c9] at H; have c9b0 : (((rd_T105 l0 x5_1).f2).toList == t279.toList) = false := beq_eq_false_iff_ne.mpr c9; have c9b1 : (((rd_T105 l0 x5_1).f2).toList != t279.toList) = true := bne_iff_ne.mpr c9; obtain rfl := Option.some.inj H
                try go_wp2
                replace HB := Aside0.mk (below_drew1 HB.out); have p275 : 0 ≤ (x5_1 : Int) := oa; have q275 : x5_1 < (l0.length : Int) := oa; obtain ⟨ad275, e275, hx275_0, hx275_1, hx275_2⟩ := at_T105 HR0.out x5_1 p275 q275; have hw275_2 := hx275_2; have hw275_1 := hx275_1; have hw275_0 := hx275_0
                cases e275
                replace hx275_0 := cb HB hx275_0; replace hx275_1 := cb HB hx275_1; replace hx275_2 := cb HB hx275_2; replace p275 := eq_true p275; replace q275 := eq_true q275; refine start_ (n := 8) (S := fun w' => w'.cell? (ad275.add ((x5_1).toNat * 3)) = some (.string ((rd_T105 l0 x5_1).f0)) ∧ w'.cell? ⟨(ad275.add ((x5_1).toNat * 3)).block, (ad275.add ((x5_1).toNat * 3)).off + 1, none⟩ = some (.int .i64 ((rd_T105 l0 x5_1).f1)) ∧ w'.cell? ⟨(ad275.add ((x5_1).toNat * 3)).block, (ad275.add ((x5_1).toNat * 3)).off + 2, none⟩ = some (.string ((rd_T105 l0 x5_1).f2))) (ds := []) #[false, false, false, false, false, false, false, false] (by kernel_rfl) rfl rfl ⟨((cb HB hw275_0).trans rfl), ((cb HB hw275_1).trans rfl), ((cb HB hw275_2).trans rfl)⟩ (fun hHeld => ?_); refine with_tabW laws_heldSentS.tab4 laws_heldSentS.bits4 (fun HT_ HW_ => ?_)
                generalize wr.drew = w14 at HB hx275_0 hx275_1 hx275_2 hHeld ⊢
                refine pA 0 12 HT_ ?_; refine pA 1 13 HT_ ?_; refine pA 2 14 HT_ ?_; refine pA 3 15 HT_ ?_; refine pA 5 17 HT_ ?_; refine tA 4 16 HT_ HW_ hHeld ?_; refine oA 6 18 HT_ (fun K hK => ?_); refine gA Try.func105 #[.int .i64 x1_1] ?_; (with_reducible refine (laws_markText.calls k1 x1_1 t276 _ A5.out).mono ?_); rintro e w15 ⟨rfl, hb⟩; refine ⟨_, rfl, ?_⟩; replace HB := Aside0.mk (below_step (bs HB) hb); (try clear hb); (try clear hb2); (try clear hk); (try clear hi); refine hK.out _ _ ⟨((cb HB hw275_0).trans rfl), ((cb HB hw275_1).trans rfl), ((cb HB hw275_2).trans rfl)⟩ (fun hHeld => ?_); clear hK K; refine nA 18 ?_; refine pA 7 19 HT_ ?_; refine done_ (done_of HT_.out (by kernel_rfl)) ?_; have p277 : 0 ≤ (x5_1 : Int) := oa; have q277 : x5_1 < (l0.length : Int) := oa; obtain ⟨ad277, e277, hx277_0, hx277_1, hx277_2⟩ := at_T105 HR0.out x5_1 p277 q277; obtain rfl : ad275 = ad277 := (by injection e277); replace hx277_0 := cb HB hx277_0; replace hx277_1 := cb HB hx277_1; replace hx277_2 := cb HB hx277_2; replace p277 := eq_true p277; replace q277 := eq_true q277
                try go_wp2
                replace HB := Aside0.mk (below_drew1 HB.out); have p278 : 0 ≤ (x5_1 : Int) := oa; have q278 : x5_1 < (l0.length : Int) := oa; obtain ⟨ad278, e278, hx278_0, hx278_1, hx278_2⟩ := at_T105 HR0.out x5_1 p278 q278; have hw278_2 := hx278_2; have hw278_1 := hx278_1; have hw278_0 := hx278_0; obtain rfl : ad275 = ad278 := (by injection e278); replace hx278_0 := cb HB hx278_0; replace hx278_1 := cb HB hx278_1; replace hx278_2 := cb HB hx278_2; replace p278 := eq_true p278; replace q278 := eq_true q278; refine start_ (n := 8) (S := fun w' => w'.cell? (ad275.add ((x5_1).toNat * 3)) = some (.string ((rd_T105 l0 x5_1).f0)) ∧ w'.cell? ⟨(ad275.add ((x5_1).toNat * 3)).block, (ad275.add ((x5_1).toNat * 3)).off + 1, none⟩ = some (.int .i64 ((rd_T105 l0 x5_1).f1)) ∧ w'.cell? ⟨(ad275.add ((x5_1).toNat * 3)).block, (ad275.add ((x5_1).toNat * 3)).off + 2, none⟩ = some (.string ((rd_T105 l0 x5_1).f2))) (ds := []) #[false, false, false, false, false, false, false, false] (by kernel_rfl) rfl rfl ⟨((cb HB hw278_0).trans rfl), ((cb HB hw278_1).trans rfl), ((cb HB hw278_2).trans rfl)⟩ (fun hHeld => ?_); refine with_tabW laws_heldSentS.tab10 laws_heldSentS.bits10 (fun HT_ HW_ => ?_)
                generalize w15.drew = w16 at HB hx278_0 hx278_1 hx278_2 hHeld ⊢
                refine pA 0 31 HT_ ?_; refine pA 1 32 HT_ ?_; refine pA 2 33 HT_ ?_; refine pA 3 34 HT_ ?_; refine pA 5 36 HT_ ?_; refine tA 4 35 HT_ HW_ hHeld ?_; refine oA 6 37 HT_ (fun K hK => ?_); refine gA Try.func105 #[.int .i64 (wrap64 ((wrap64 (x1_1 + 1)) + 1))] ?_; (with_reducible refine (laws_markText.calls k1 (wrap64 ((wrap64 (x1_1 + 1)) + 1)) t279 _ A8.out).mono ?_); rintro e w17 ⟨rfl, hb⟩; refine ⟨_, rfl, ?_⟩; replace HB := Aside0.mk (below_step (bs HB) hb); (try clear hb); (try clear hb2); (try clear hk); (try clear hi); refine hK.out _ _ ⟨((cb HB hw278_0).trans rfl), ((cb HB hw278_1).trans rfl), ((cb HB hw278_2).trans rfl)⟩ (fun hHeld => ?_); clear hK K; refine nA 37 ?_; refine pA 7 38 HT_ ?_; refine done_ (done_of HT_.out (by kernel_rfl)) ?_
                try go_wp2
                go_ret
                exact ⟨ff, bs HB⟩
            · rw [if_neg c7] at H; have c7b0 : (((rd_T105 l0 x5_1).f1) == (wrap64 (x1_1 + 1))) = false := beq_eq_false_iff_ne.mpr c7; have c7b1 : (((rd_T105 l0 x5_1).f1) != (wrap64 (x1_1 + 1))) = true := bne_iff_ne.mpr c7; obtain rfl := Option.some.inj H
              try go_wp2
              replace HB := Aside0.mk (below_drew1 HB.out); have p275 : 0 ≤ (x5_1 : Int) := oa; have q275 : x5_1 < (l0.length : Int) := oa; obtain ⟨ad275, e275, hx275_0, hx275_1, hx275_2⟩ := at_T105 HR0.out x5_1 p275 q275; have hw275_2 := hx275_2; have hw275_1 := hx275_1; have hw275_0 := hx275_0
              cases e275
              replace hx275_0 := cb HB hx275_0; replace hx275_1 := cb HB hx275_1; replace hx275_2 := cb HB hx275_2; replace p275 := eq_true p275; replace q275 := eq_true q275; refine start_ (n := 8) (S := fun w' => w'.cell? (ad275.add ((x5_1).toNat * 3)) = some (.string ((rd_T105 l0 x5_1).f0)) ∧ w'.cell? ⟨(ad275.add ((x5_1).toNat * 3)).block, (ad275.add ((x5_1).toNat * 3)).off + 1, none⟩ = some (.int .i64 ((rd_T105 l0 x5_1).f1)) ∧ w'.cell? ⟨(ad275.add ((x5_1).toNat * 3)).block, (ad275.add ((x5_1).toNat * 3)).off + 2, none⟩ = some (.string ((rd_T105 l0 x5_1).f2))) (ds := []) #[false, false, false, false, false, false, false, false] (by kernel_rfl) rfl rfl ⟨((cb HB hw275_0).trans rfl), ((cb HB hw275_1).trans rfl), ((cb HB hw275_2).trans rfl)⟩ (fun hHeld => ?_); refine with_tabW laws_heldSentS.tab4 laws_heldSentS.bits4 (fun HT_ HW_ => ?_)
              generalize wr.drew = w18 at HB hx275_0 hx275_1 hx275_2 hHeld ⊢
              refine pA 0 12 HT_ ?_; refine pA 1 13 HT_ ?_; refine pA 2 14 HT_ ?_; refine pA 3 15 HT_ ?_; refine pA 5 17 HT_ ?_; refine tA 4 16 HT_ HW_ hHeld ?_; refine oA 6 18 HT_ (fun K hK => ?_); refine gA Try.func105 #[.int .i64 x1_1] ?_; (with_reducible refine (laws_markText.calls k1 x1_1 t276 _ A5.out).mono ?_); rintro e w19 ⟨rfl, hb⟩; refine ⟨_, rfl, ?_⟩; replace HB := Aside0.mk (below_step (bs HB) hb); (try clear hb); (try clear hb2); (try clear hk); (try clear hi); refine hK.out _ _ ⟨((cb HB hw275_0).trans rfl), ((cb HB hw275_1).trans rfl), ((cb HB hw275_2).trans rfl)⟩ (fun hHeld => ?_); clear hK K; refine nA 18 ?_; refine pA 7 19 HT_ ?_; refine done_ (done_of HT_.out (by kernel_rfl)) ?_; have p277 : 0 ≤ (x5_1 : Int) := oa; have q277 : x5_1 < (l0.length : Int) := oa; obtain ⟨ad277, e277, hx277_0, hx277_1, hx277_2⟩ := at_T105 HR0.out x5_1 p277 q277; obtain rfl : ad275 = ad277 := (by injection e277); replace hx277_0 := cb HB hx277_0; replace hx277_1 := cb HB hx277_1; replace hx277_2 := cb HB hx277_2; replace p277 := eq_true p277; replace q277 := eq_true q277
              try go_wp2
              go_ret
              exact ⟨ff, bs HB⟩
          · rw [if_neg c6] at H; have c6b0 : (((rd_T105 l0 x5_1).f0).toList == t276.toList) = false := beq_eq_false_iff_ne.mpr c6; have c6b1 : (((rd_T105 l0 x5_1).f0).toList != t276.toList) = true := bne_iff_ne.mpr c6; obtain rfl := Option.some.inj H
            try go_wp2
            replace HB := Aside0.mk (below_drew1 HB.out); have p275 : 0 ≤ (x5_1 : Int) := oa; have q275 : x5_1 < (l0.length : Int) := oa; obtain ⟨ad275, e275, hx275_0, hx275_1, hx275_2⟩ := at_T105 HR0.out x5_1 p275 q275; have hw275_2 := hx275_2; have hw275_1 := hx275_1; have hw275_0 := hx275_0
            cases e275
            replace hx275_0 := cb HB hx275_0; replace hx275_1 := cb HB hx275_1; replace hx275_2 := cb HB hx275_2; replace p275 := eq_true p275; replace q275 := eq_true q275; refine start_ (n := 8) (S := fun w' => w'.cell? (ad275.add ((x5_1).toNat * 3)) = some (.string ((rd_T105 l0 x5_1).f0)) ∧ w'.cell? ⟨(ad275.add ((x5_1).toNat * 3)).block, (ad275.add ((x5_1).toNat * 3)).off + 1, none⟩ = some (.int .i64 ((rd_T105 l0 x5_1).f1)) ∧ w'.cell? ⟨(ad275.add ((x5_1).toNat * 3)).block, (ad275.add ((x5_1).toNat * 3)).off + 2, none⟩ = some (.string ((rd_T105 l0 x5_1).f2))) (ds := []) #[false, false, false, false, false, false, false, false] (by kernel_rfl) rfl rfl ⟨((cb HB hw275_0).trans rfl), ((cb HB hw275_1).trans rfl), ((cb HB hw275_2).trans rfl)⟩ (fun hHeld => ?_); refine with_tabW laws_heldSentS.tab4 laws_heldSentS.bits4 (fun HT_ HW_ => ?_)
            generalize wr.drew = w20 at HB hx275_0 hx275_1 hx275_2 hHeld ⊢
            refine pA 0 12 HT_ ?_; refine pA 1 13 HT_ ?_; refine pA 2 14 HT_ ?_; refine pA 3 15 HT_ ?_; refine pA 5 17 HT_ ?_; refine tA 4 16 HT_ HW_ hHeld ?_; refine oA 6 18 HT_ (fun K hK => ?_); refine gA Try.func105 #[.int .i64 x1_1] ?_; (with_reducible refine (laws_markText.calls k1 x1_1 t276 _ A5.out).mono ?_); rintro e w21 ⟨rfl, hb⟩; refine ⟨_, rfl, ?_⟩; replace HB := Aside0.mk (below_step (bs HB) hb); (try clear hb); (try clear hb2); (try clear hk); (try clear hi); refine hK.out _ _ ⟨((cb HB hw275_0).trans rfl), ((cb HB hw275_1).trans rfl), ((cb HB hw275_2).trans rfl)⟩ (fun hHeld => ?_); clear hK K; refine nA 18 ?_; refine pA 7 19 HT_ ?_; refine done_ (done_of HT_.out (by kernel_rfl)) ?_
            try go_wp2
            go_ret
            exact ⟨ff, bs HB⟩
        · rw [if_neg c4] at H
          exact absurd H (by simp)
      · rw [if_neg c3] at H; have c3b0 : decide (x5_1 < (l0.length : Int)) = false := decide_eq_false c3; clear c3; obtain rfl := Option.some.inj H
        go_wp2
        go_ret
        exact ⟨ff, bs HB⟩
end Go.Proofs.Ytefmkmhjbfpelaa.QO
namespace Go.Proofs.Ytefmkmhjbfpelaa.QO
open Go.RowKit Go.Proofs.YtefmkmhjbfpelaaW.PrintWords Go.Proofs.YtefmkmhjbfpelaaW.PrintLast Go.Proofs.YtefmkmhjbfpelaaW.PrintMore
attribute [local go_sem] max2_int min2_int max_two min_two max_three min_three max_four min_four   -- for this text's walks alone
set_option linter.unusedVariables false
set_option linter.unusedSimpArgs false
set_option maxHeartbeats 8000000 in
set_option maxRecDepth 100000 in
theorem laws_heldOutboxOut.calls (k : Nat) (A0_0 : Option Addr) (c0_0 : Nat) (l0_0 : List (S24)) (A0_1 : Option Addr) (c0_1 : Nat) (l0_1 : List (S105)) (A0_2 : Option Addr) (c0_2 : Nat) (l0_2 : List (S24)) (a0_3 : Int) (a1 : Int) (r : Int) (w : World) (hr0_0 : Kd.C k24 w A0_0 l0_0.length l0_0) (hc0_0 : l0_0.length ≤ c0_0) (hr0_1 : Kd.C k105 w A0_1 l0_1.length l0_1) (hc0_1 : l0_1.length ≤ c0_1) (hr0_2 : Kd.C k24 w A0_2 l0_2.length l0_2) (hc0_2 : l0_2.length ≤ c0_2) (h : laws_heldOutboxOut.f k l0_0 l0_1 l0_2 a0_3 a1 = some r) :
    Calls Try.prog 43 #[.agg #[.slice A0_0 l0_0.length c0_0, .slice A0_1 l0_1.length c0_1, .slice A0_2 l0_2.length c0_2, .int .i64 a0_3], .int .i64 a1] w fun e w' => e = .returned (.int .i64 r) ∧ Below w.heap.size w w' := by
  have hu34 := Try.underlying34; have HR0_0 := Aside0.mk hr0_0; have HC0_0 := Aside0.mk hc0_0; clear hr0_0 hc0_0; have HR0_1 := Aside0.mk hr0_1; have HC0_1 := Aside0.mk hc0_1; clear hr0_1 hc0_1; have HR0_2 := Aside0.mk hr0_2; have HC0_2 := Aside0.mk hc0_2; clear hr0_2 hc0_2; have HB := Aside0.mk (Below.refl w.heap.size w); have H : ((laws_heldOutS.f k l0_0 a1).bind fun t281 => (if t281 < 0 then (some (-1)) else ((laws_heldSentS.f k l0_1 t281).bind fun t282 => (if t282 < 0 then (some (-1)) else ((laws_heldOutS.f k l0_2 t282).bind fun t283 => (if t283 < 0 then (some (-1)) else (some t283))))))) = some r := h; clear h; replace H := Option.bind_eq_some_iff.mp H; obtain ⟨t281, A30, H⟩ := H; replace H : (if t281 < 0 then (some (-1)) else ((laws_heldSentS.f k l0_1 t281).bind fun t282 => (if t282 < 0 then (some (-1)) else ((laws_heldOutS.f k l0_2 t282).bind fun t283 => (if t283 < 0 then (some (-1)) else (some t283)))))) = some r := H; have A3 := Aside0.mk A30; clear A30
  go_enter Try.func43, Try.ntmps43
  try go_wp2_with (first | ((with_reducible refine gate_dst (N := 2) rfl ?_); refine bx 2 (cs := #[.slice A0_0 l0_0.length c0_0, .slice A0_1 l0_1.length c0_1, .slice A0_2 l0_2.length c0_2, .int .i64 a0_3]) (t := 34) ?_; intro gb280 hg w4 hbox hb; have BK280 := Aside0.mk (hbox); have GW280 := Aside0.mk ((gs hg (bs HB))); have GE280 := Aside0.mk ((gs hg (bs HB))); replace HB := Aside0.mk (below_step (bs HB) hb); clear hb hbox hg; obtain ⟨hcz5_0, hcz5_1, hcz5_2, hcz5_3, hfz5_0, hfz5_1, hfz5_2, hfz5_3⟩ := cf4 BK280))
  go_at_call 107; (with_reducible refine (laws_heldOutS.calls k _ _ l0_0 a1 t281 _ (Kd.C_below HR0_0.out (bs HB)) HC0_0.out A3.out).mono ?_); rintro e w6 ⟨rfl, hb⟩; replace BK280 := Aside0.mk (blk_below (ks BK280) hb); replace HB := Aside0.mk (below_step (bs HB) hb); (try clear hb); (try clear hb2); (try clear hk); (try clear hi)
  by_cases c7 : t281 < 0
  · rw [if_pos c7] at H; have c7b0 : decide (t281 < 0) = true := decide_eq_true c7; clear c7; obtain rfl := Option.some.inj H
    go_wp2
    go_ret
    exact ⟨ff, bs HB⟩
  · rw [if_neg c7] at H; have c7b0 : decide (t281 < 0) = false := decide_eq_false c7; clear c7; replace H := Option.bind_eq_some_iff.mp H; obtain ⟨t282, A80, H⟩ := H; replace H : (if t282 < 0 then (some (-1)) else ((laws_heldOutS.f k l0_2 t282).bind fun t283 => (if t283 < 0 then (some (-1)) else (some t283)))) = some r := H; have A8 := Aside0.mk A80; clear A80; obtain ⟨hcz9_0, hcz9_1, hcz9_2, hcz9_3, hfz9_0, hfz9_1, hfz9_2, hfz9_3⟩ := cf4 BK280
    try go_wp2_with (fail)
    go_at_call 108; (with_reducible refine (laws_heldSentS.calls k _ _ l0_1 t281 t282 _ (Kd.C_below HR0_1.out (bs HB)) HC0_1.out A8.out).mono ?_); rintro e w10 ⟨rfl, hb⟩; replace BK280 := Aside0.mk (blk_below (ks BK280) hb); replace HB := Aside0.mk (below_step (bs HB) hb); (try clear hb); (try clear hb2); (try clear hk); (try clear hi)
    by_cases c11 : t282 < 0
    · rw [if_pos c11] at H; have c11b0 : decide (t282 < 0) = true := decide_eq_true c11; clear c11; obtain rfl := Option.some.inj H
      go_wp2
      go_ret
      exact ⟨ff, bs HB⟩
    · rw [if_neg c11] at H; have c11b0 : decide (t282 < 0) = false := decide_eq_false c11; clear c11; replace H := Option.bind_eq_some_iff.mp H; obtain ⟨t283, A120, H⟩ := H; replace H : (if t283 < 0 then (some (-1)) else (some t283)) = some r := H; have A12 := Aside0.mk A120; clear A120; obtain ⟨hcz13_0, hcz13_1, hcz13_2, hcz13_3, hfz13_0, hfz13_1, hfz13_2, hfz13_3⟩ := cf4 BK280
      try go_wp2_with (fail)
      go_at_call 107; (with_reducible refine (laws_heldOutS.calls k _ _ l0_2 t282 t283 _ (Kd.C_below HR0_2.out (bs HB)) HC0_2.out A12.out).mono ?_); rintro e w14 ⟨rfl, hb⟩; replace BK280 := Aside0.mk (blk_below (ks BK280) hb); replace HB := Aside0.mk (below_step (bs HB) hb); (try clear hb); (try clear hb2); (try clear hk); (try clear hi)
      by_cases c15 : t283 < 0
      · rw [if_pos c15] at H; have c15b0 : decide (t283 < 0) = true := decide_eq_true c15; clear c15; obtain rfl := Option.some.inj H
        go_wp2
        go_ret
        exact ⟨ff, bs HB⟩
      · rw [if_neg c15] at H; have c15b0 : decide (t283 < 0) = false := decide_eq_false c15; clear c15; obtain rfl := Option.some.inj H
        go_wp2
        go_ret
        exact ⟨ff, bs HB⟩
end Go.Proofs.Ytefmkmhjbfpelaa.QO
