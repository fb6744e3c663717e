-- Merged by a program of this session (wip/tool/pack.py) out of its own texts for this claim.
import Derived.Test.YtjjfjgdhloideaaKFnExactGateNew0
import Derived.Test.YtjjfjgdhloideaaKFnExactGateNew1
import Derived.Test.YtjjfjgdhloideaaKFnExactGateNew2
import Derived.Test.YtjjfjgdhloideaaKFnExactGateNew3
import Derived.Test.YtjjfjgdhloideaaKFnExactGateNew4
import Derived.Test.YtjjfjgdhloideaaKFnExactGateNew5
namespace Go.Proofs.Ytjjfjgdhloideaa.QG
open Go.RowKit Go.Proofs.YtjjfjgdhloideaaW.PrintWords Go.Proofs.YtjjfjgdhloideaaW.PrintLast Go.Proofs.YtjjfjgdhloideaaW.PrintMore
attribute [local go_sem] max2_int min2_int max_two min_two max_three min_three max_four min_four   -- for this text's walks alone
set_option linter.unusedVariables false
set_option linter.unusedSimpArgs false
def laws_eqOutS.T6 : Bool × List (List Nat × List Nat) := (true, [([], []), ([], []), ([0, 1], [0, 1]), ([2], [2]), ([], []), ([], []), ([4, 5], [4, 5]), ([6], [6]), ([3, 7], [3, 7]), ([8], [8])])
def laws_eqOutS.B6 : List Nat := [0, 0, 3, 7, 0, 0, 48, 112, 255, 511]
theorem laws_eqOutS.tab6 : rtab .any (opsOf Try.f29 6) = laws_eqOutS.T6 := by kernel_rfl
theorem laws_eqOutS.bits6 : waitsOk laws_eqOutS.T6.2 laws_eqOutS.B6 = true := by kernel_rfl
set_option maxHeartbeats 8000000 in
set_option maxRecDepth 100000 in
theorem laws_eqOutS.calls (k : Nat) (A0 : Option Addr) (c0 : Nat) (l0 : List (S108)) (A1 : Option Addr) (c1 : Nat) (l1 : List (S108)) (r : Bool) (w : World) (hr0 : Kd.C k108 w A0 l0.length l0) (hc0 : l0.length ≤ c0) (hr1 : Kd.C k108 w A1 l1.length l1) (hc1 : l1.length ≤ c1) (h : laws_eqOutS.f k l0 l1 = some r) :
    Calls Try.prog 29 #[.slice A0 l0.length c0, .slice A1 l1.length c1] w fun e w' => e = .returned (.bool r) ∧ Below w.heap.size w w' := by
  have hu108 := Try.underlying108; have HR0 := Aside0.mk hr0; have HC0 := Aside0.mk hc0; clear hr0 hc0; have HR1 := Aside0.mk hr1; have HC1 := Aside0.mk hc1; clear hr1 hc1; have HB := Aside0.mk (Below.refl w.heap.size w); have H : (if (l0.length : Int) = (l1.length : Int) then (laws_eqOutS.l0 k l0 l1 0) else (some false)) = some r := h; clear h
  by_cases c3 : (l0.length : Int) = (l1.length : Int)
  · rw [if_pos c3] at H; have c3b0 : ((l0.length : Int) == (l1.length : Int)) = true := beq_iff_eq.mpr c3; have c3b1 : ((l0.length : Int) != (l1.length : Int)) = false := bne_eq_false_iff_eq.mpr c3
    have c3b2 : (l0.length == l1.length) = true := by first | simpa using c3 | (simp at c3 ⊢; omega)
    clear c3; have H' := Aside0.mk H; clear H
    go_enter Try.func29, Try.ntmps29
    go_wp2
    go_loopg [5] k (fun kq v5 w' => ∃ (x5_1 : Int), v5 = .int .i64 x5_1 ∧ Aside0 (laws_eqOutS.l0 kq l0 l1 x5_1 = some r) ∧ Aside0 (kq ≤ k) ∧ Aside0 (Below w.heap.size w w'))
    case atStart => exact ⟨(0), fg, H', ⟨Nat.le_refl _⟩, ⟨bs HB⟩⟩
    case round =>
      clear H'
      try clear c1
      try clear c2
      try clear p2
      try clear c3
      try clear c3b0
      try clear c3b1
      try clear c3b2
      obtain ⟨x5_1, rfl, HA, HK1, HB⟩ := hrel
      cases gk with
      | zero => exact absurd HA.out (by simp [laws_eqOutS.l0])
      | succ k1 =>
        have H := HA.out; clear HA; simp only [laws_eqOutS.l0] at H
        by_cases c4 : x5_1 < (l0.length : Int)
        · rw [if_pos c4] at H; have c4b0 : decide (x5_1 < (l0.length : Int)) = true := decide_eq_true c4; clear c4
          by_cases c5 : 0 ≤ x5_1
          · rw [if_pos c5] at H; have c5b0 : decide (0 ≤ x5_1) = true := decide_eq_true c5; clear c5
            by_cases c6 : x5_1 < (l1.length : Int)
            · rw [if_pos c6] at H; have c6b0 : decide (x5_1 < (l1.length : Int)) = true := decide_eq_true c6; clear c6; replace H := Option.bind_eq_some_iff.mp H; obtain ⟨t147, A70, H⟩ := H; replace H : (if t147 = true then (laws_eqOutS.l0 k1 l0 l1 (wrap64 (x5_1 + 1))) else (some false)) = some r := H; have A7 := Aside0.mk A70; clear A70
              by_cases c8 : t147 = true
              · subst c8
                have H1 : (laws_eqOutS.l0 k1 l0 l1 (wrap64 (x5_1 + 1))) = some r := by rw [if_pos rfl] at H; exact H
                clear H; have H := H1; clear H1; have H' := Aside0.mk H; clear H
                try go_wp2
                replace HB := Aside0.mk (below_drew1 HB.out); have p145 : 0 ≤ (x5_1 : Int) := oa; have q145 : x5_1 < (l0.length : Int) := oa; obtain ⟨ad145, e145, hx145_0, hx145_1, hx145_2, hx145_3, hx145_4⟩ := at_T108 HR0.out x5_1 p145 q145; have hw145_4 := hx145_4; have hw145_3 := hx145_3; have hw145_2 := hx145_2; have hw145_1 := hx145_1; have hw145_0 := hx145_0
                cases e145
                replace hx145_0 := cb HB hx145_0; replace hx145_1 := cb HB hx145_1; replace hx145_2 := cb HB hx145_2; replace hx145_3 := cb HB hx145_3; replace hx145_4 := cb HB hx145_4; replace p145 := eq_true p145; replace q145 := eq_true q145; have p146 : 0 ≤ (x5_1 : Int) := oa; have q146 : x5_1 < (l1.length : Int) := oa; obtain ⟨ad146, e146, hx146_0, hx146_1, hx146_2, hx146_3, hx146_4⟩ := at_T108 HR1.out x5_1 p146 q146; have hw146_4 := hx146_4; have hw146_3 := hx146_3; have hw146_2 := hx146_2; have hw146_1 := hx146_1; have hw146_0 := hx146_0
                cases e146
                replace hx146_0 := cb HB hx146_0; replace hx146_1 := cb HB hx146_1; replace hx146_2 := cb HB hx146_2; replace hx146_3 := cb HB hx146_3; replace hx146_4 := cb HB hx146_4; replace p146 := eq_true p146; replace q146 := eq_true q146; refine start_ (n := 10) (S := fun w' => w'.cell? (ad145.add ((x5_1).toNat * 5)) = some (.string ((rd_T108 l0 x5_1).f0)) ∧ w'.cell? ⟨(ad145.add ((x5_1).toNat * 5)).block, (ad145.add ((x5_1).toNat * 5)).off + 1, none⟩ = some (.int .i64 ((rd_T108 l0 x5_1).f1)) ∧ w'.cell? ⟨(ad145.add ((x5_1).toNat * 5)).block, (ad145.add ((x5_1).toNat * 5)).off + 2, none⟩ = some (.string ((rd_T108 l0 x5_1).f2)) ∧ w'.cell? ⟨(ad145.add ((x5_1).toNat * 5)).block, (ad145.add ((x5_1).toNat * 5)).off + 3, none⟩ = some (.int .i64 ((rd_T108 l0 x5_1).f3)) ∧ w'.cell? ⟨(ad145.add ((x5_1).toNat * 5)).block, (ad145.add ((x5_1).toNat * 5)).off + 4, none⟩ = some (.int .i64 ((rd_T108 l0 x5_1).f4)) ∧ w'.cell? (ad146.add ((x5_1).toNat * 5)) = some (.string ((rd_T108 l1 x5_1).f0)) ∧ w'.cell? ⟨(ad146.add ((x5_1).toNat * 5)).block, (ad146.add ((x5_1).toNat * 5)).off + 1, none⟩ = some (.int .i64 ((rd_T108 l1 x5_1).f1)) ∧ w'.cell? ⟨(ad146.add ((x5_1).toNat * 5)).block, (ad146.add ((x5_1).toNat * 5)).off + 2, none⟩ = some (.string ((rd_T108 l1 x5_1).f2)) ∧ w'.cell? ⟨(ad146.add ((x5_1).toNat * 5)).block, (ad146.add ((x5_1).toNat * 5)).off + 3, none⟩ = some (.int .i64 ((rd_T108 l1 x5_1).f3)) ∧ w'.cell? ⟨(ad146.add ((x5_1).toNat * 5)).block, (ad146.add ((x5_1).toNat * 5)).off + 4, none⟩ = some (.int .i64 ((rd_T108 l1 x5_1).f4))) (ds := []) #[false, false, false, false, false, false, false, false, false, false] (by kernel_rfl) rfl rfl ⟨((cb HB hw145_0).trans rfl), ((cb HB hw145_1).trans rfl), ((cb HB hw145_2).trans rfl), ((cb HB hw145_3).trans rfl), ((cb HB hw145_4).trans rfl), ((cb HB hw146_0).trans rfl), ((cb HB hw146_1).trans rfl), ((cb HB hw146_2).trans rfl), ((cb HB hw146_3).trans rfl), ((cb HB hw146_4).trans rfl)⟩ (fun hHeld => ?_); refine with_tabW laws_eqOutS.tab6 laws_eqOutS.bits6 (fun HT_ HW_ => ?_)
                generalize wr.drew = w9 at HB hx145_0 hx145_1 hx145_2 hx145_3 hx145_4 hx146_0 hx146_1 hx146_2 hx146_3 hx146_4 hHeld ⊢
                refine pA 0 17 HT_ ?_; refine pA 1 18 HT_ ?_; refine pA 2 19 HT_ ?_; refine pA 4 21 HT_ ?_; refine pA 5 22 HT_ ?_; refine pA 6 23 HT_ ?_; refine tA 3 20 HT_ HW_ hHeld ?_; refine tA 7 24 HT_ HW_ hHeld ?_; refine oA 8 25 HT_ (fun K hK => ?_); refine gA Try.func73 #[.agg #[.string ((rd_T108 l0 x5_1).f0), .int .i64 ((rd_T108 l0 x5_1).f1), .string ((rd_T108 l0 x5_1).f2), .int .i64 ((rd_T108 l0 x5_1).f3), .int .i64 ((rd_T108 l0 x5_1).f4)], .agg #[.string ((rd_T108 l1 x5_1).f0), .int .i64 ((rd_T108 l1 x5_1).f1), .string ((rd_T108 l1 x5_1).f2), .int .i64 ((rd_T108 l1 x5_1).f3), .int .i64 ((rd_T108 l1 x5_1).f4)]] ?_; (with_reducible refine (laws_eqOut.calls ((rd_T108 l0 x5_1).f0) ((rd_T108 l0 x5_1).f1) ((rd_T108 l0 x5_1).f2) ((rd_T108 l0 x5_1).f3) ((rd_T108 l0 x5_1).f4) ((rd_T108 l1 x5_1).f0) ((rd_T108 l1 x5_1).f1) ((rd_T108 l1 x5_1).f2) ((rd_T108 l1 x5_1).f3) ((rd_T108 l1 x5_1).f4) true _ A7.out).mono ?_); rintro e w10 ⟨rfl, hb⟩; refine ⟨_, rfl, ?_⟩; replace HB := Aside0.mk (below_step (bs HB) hb); (try clear hb); (try clear hb2); (try clear hk); (try clear hi); refine hK.out _ _ ⟨((cb HB hw145_0).trans rfl), ((cb HB hw145_1).trans rfl), ((cb HB hw145_2).trans rfl), ((cb HB hw145_3).trans rfl), ((cb HB hw145_4).trans rfl), ((cb HB hw146_0).trans rfl), ((cb HB hw146_1).trans rfl), ((cb HB hw146_2).trans rfl), ((cb HB hw146_3).trans rfl), ((cb HB hw146_4).trans rfl)⟩ (fun hHeld => ?_); clear hK K; refine nA 25 ?_; refine pA 9 26 HT_ ?_; refine done_ (done_of HT_.out (by kernel_rfl)) ?_
                try go_wp2
                go_roundg k1
                case measure => have := HK1.out; omega
                case rel => exact ⟨(wrap64 (x5_1 + 1)), fg, H', ⟨by have := HK1.out; omega⟩, ⟨bs HB⟩⟩
              · replace c8 := Bool.eq_false_iff.mpr c8; subst c8
                have H1 : (some false) = some r := by rw [if_neg (show ¬ (false = true) by decide)] at H; exact H
                clear H; have H := H1; clear H1; obtain rfl := Option.some.inj H
                try go_wp2
                replace HB := Aside0.mk (below_drew1 HB.out); have p145 : 0 ≤ (x5_1 : Int) := oa; have q145 : x5_1 < (l0.length : Int) := oa; obtain ⟨ad145, e145, hx145_0, hx145_1, hx145_2, hx145_3, hx145_4⟩ := at_T108 HR0.out x5_1 p145 q145; have hw145_4 := hx145_4; have hw145_3 := hx145_3; have hw145_2 := hx145_2; have hw145_1 := hx145_1; have hw145_0 := hx145_0
                cases e145
                replace hx145_0 := cb HB hx145_0; replace hx145_1 := cb HB hx145_1; replace hx145_2 := cb HB hx145_2; replace hx145_3 := cb HB hx145_3; replace hx145_4 := cb HB hx145_4; replace p145 := eq_true p145; replace q145 := eq_true q145; have p146 : 0 ≤ (x5_1 : Int) := oa; have q146 : x5_1 < (l1.length : Int) := oa; obtain ⟨ad146, e146, hx146_0, hx146_1, hx146_2, hx146_3, hx146_4⟩ := at_T108 HR1.out x5_1 p146 q146; have hw146_4 := hx146_4; have hw146_3 := hx146_3; have hw146_2 := hx146_2; have hw146_1 := hx146_1; have hw146_0 := hx146_0
                cases e146
                replace hx146_0 := cb HB hx146_0; replace hx146_1 := cb HB hx146_1; replace hx146_2 := cb HB hx146_2; replace hx146_3 := cb HB hx146_3; replace hx146_4 := cb HB hx146_4; replace p146 := eq_true p146; replace q146 := eq_true q146; refine start_ (n := 10) (S := fun w' => w'.cell? (ad145.add ((x5_1).toNat * 5)) = some (.string ((rd_T108 l0 x5_1).f0)) ∧ w'.cell? ⟨(ad145.add ((x5_1).toNat * 5)).block, (ad145.add ((x5_1).toNat * 5)).off + 1, none⟩ = some (.int .i64 ((rd_T108 l0 x5_1).f1)) ∧ w'.cell? ⟨(ad145.add ((x5_1).toNat * 5)).block, (ad145.add ((x5_1).toNat * 5)).off + 2, none⟩ = some (.string ((rd_T108 l0 x5_1).f2)) ∧ w'.cell? ⟨(ad145.add ((x5_1).toNat * 5)).block, (ad145.add ((x5_1).toNat * 5)).off + 3, none⟩ = some (.int .i64 ((rd_T108 l0 x5_1).f3)) ∧ w'.cell? ⟨(ad145.add ((x5_1).toNat * 5)).block, (ad145.add ((x5_1).toNat * 5)).off + 4, none⟩ = some (.int .i64 ((rd_T108 l0 x5_1).f4)) ∧ w'.cell? (ad146.add ((x5_1).toNat * 5)) = some (.string ((rd_T108 l1 x5_1).f0)) ∧ w'.cell? ⟨(ad146.add ((x5_1).toNat * 5)).block, (ad146.add ((x5_1).toNat * 5)).off + 1, none⟩ = some (.int .i64 ((rd_T108 l1 x5_1).f1)) ∧ w'.cell? ⟨(ad146.add ((x5_1).toNat * 5)).block, (ad146.add ((x5_1).toNat * 5)).off + 2, none⟩ = some (.string ((rd_T108 l1 x5_1).f2)) ∧ w'.cell? ⟨(ad146.add ((x5_1).toNat * 5)).block, (ad146.add ((x5_1).toNat * 5)).off + 3, none⟩ = some (.int .i64 ((rd_T108 l1 x5_1).f3)) ∧ w'.cell? ⟨(ad146.add ((x5_1).toNat * 5)).block, (ad146.add ((x5_1).toNat * 5)).off + 4, none⟩ = some (.int .i64 ((rd_T108 l1 x5_1).f4))) (ds := []) #[false, false, false, false, false, false, false, false, false, false] (by kernel_rfl) rfl rfl ⟨((cb HB hw145_0).trans rfl), ((cb HB hw145_1).trans rfl), ((cb HB hw145_2).trans rfl), ((cb HB hw145_3).trans rfl), ((cb HB hw145_4).trans rfl), ((cb HB hw146_0).trans rfl), ((cb HB hw146_1).trans rfl), ((cb HB hw146_2).trans rfl), ((cb HB hw146_3).trans rfl), ((cb HB hw146_4).trans rfl)⟩ (fun hHeld => ?_); refine with_tabW laws_eqOutS.tab6 laws_eqOutS.bits6 (fun HT_ HW_ => ?_)
                generalize wr.drew = w11 at HB hx145_0 hx145_1 hx145_2 hx145_3 hx145_4 hx146_0 hx146_1 hx146_2 hx146_3 hx146_4 hHeld ⊢
                refine pA 0 17 HT_ ?_; refine pA 1 18 HT_ ?_; refine pA 2 19 HT_ ?_; refine pA 4 21 HT_ ?_; refine pA 5 22 HT_ ?_; refine pA 6 23 HT_ ?_; refine tA 3 20 HT_ HW_ hHeld ?_; refine tA 7 24 HT_ HW_ hHeld ?_; refine oA 8 25 HT_ (fun K hK => ?_); refine gA Try.func73 #[.agg #[.string ((rd_T108 l0 x5_1).f0), .int .i64 ((rd_T108 l0 x5_1).f1), .string ((rd_T108 l0 x5_1).f2), .int .i64 ((rd_T108 l0 x5_1).f3), .int .i64 ((rd_T108 l0 x5_1).f4)], .agg #[.string ((rd_T108 l1 x5_1).f0), .int .i64 ((rd_T108 l1 x5_1).f1), .string ((rd_T108 l1 x5_1).f2), .int .i64 ((rd_T108 l1 x5_1).f3), .int .i64 ((rd_T108 l1 x5_1).f4)]] ?_; (with_reducible refine (laws_eqOut.calls ((rd_T108 l0 x5_1).f0) ((rd_T108 l0 x5_1).f1) ((rd_T108 l0 x5_1).f2) ((rd_T108 l0 x5_1).f3) ((rd_T108 l0 x5_1).f4) ((rd_T108 l1 x5_1).f0) ((rd_T108 l1 x5_1).f1) ((rd_T108 l1 x5_1).f2) ((rd_T108 l1 x5_1).f3) ((rd_T108 l1 x5_1).f4) false _ A7.out).mono ?_); rintro e w12 ⟨rfl, hb⟩; refine ⟨_, rfl, ?_⟩; replace HB := Aside0.mk (below_step (bs HB) hb); (try clear hb); (try clear hb2); (try clear hk); (try clear hi); refine hK.out _ _ ⟨((cb HB hw145_0).trans rfl), ((cb HB hw145_1).trans rfl), ((cb HB hw145_2).trans rfl), ((cb HB hw145_3).trans rfl), ((cb HB hw145_4).trans rfl), ((cb HB hw146_0).trans rfl), ((cb HB hw146_1).trans rfl), ((cb HB hw146_2).trans rfl), ((cb HB hw146_3).trans rfl), ((cb HB hw146_4).trans rfl)⟩ (fun hHeld => ?_); clear hK K; refine nA 25 ?_; refine pA 9 26 HT_ ?_; refine done_ (done_of HT_.out (by kernel_rfl)) ?_
                try go_wp2
                go_ret
                exact ⟨ff, bs HB⟩
            · rw [if_neg c6] at H
              exact absurd H (by simp)
          · rw [if_neg c5] at H
            exact absurd H (by simp)
        · rw [if_neg c4] at H; have c4b0 : decide (x5_1 < (l0.length : Int)) = false := decide_eq_false c4; clear c4; obtain rfl := Option.some.inj H
          go_wp2
          go_ret
          exact ⟨ff, bs HB⟩
  · rw [if_neg c3] at H; have c3b0 : ((l0.length : Int) == (l1.length : Int)) = false := beq_eq_false_iff_ne.mpr c3; have c3b1 : ((l0.length : Int) != (l1.length : Int)) = true := bne_iff_ne.mpr c3
    have c3b2 : (l0.length == l1.length) = false := by first | simpa using c3 | (simp at c3 ⊢; omega)
    obtain rfl := Option.some.inj H
    go_enter Try.func29, Try.ntmps29
    go_wp2
    go_ret
    exact ⟨ff, bs HB⟩
end Go.Proofs.Ytjjfjgdhloideaa.QG
namespace Go.Proofs.Ytjjfjgdhloideaa.QG
open Go.RowKit Go.Proofs.YtjjfjgdhloideaaW.PrintWords Go.Proofs.YtjjfjgdhloideaaW.PrintLast Go.Proofs.YtjjfjgdhloideaaW.PrintMore
attribute [local go_sem] max2_int min2_int max_two min_two max_three min_three max_four min_four   -- for this text's walks alone
set_option linter.unusedVariables false
set_option linter.unusedSimpArgs false
set_option maxHeartbeats 8000000 in
set_option maxRecDepth 100000 in
theorem laws_eqGate.calls (k : Nat) (a0_0 : ByteArray) (a0_1 : Int) (A0_2 : Option Addr) (c0_2 : Nat) (l0_2 : List (S92)) (A0_3 : Option Addr) (c0_3 : Nat) (l0_3 : List (S102)) (A0_4 : Option Addr) (c0_4 : Nat) (l0_4 : List (S71)) (A0_5 : Option Addr) (c0_5 : Nat) (l0_5 : List (S73)) (A0_6 : Option Addr) (c0_6 : Nat) (l0_6 : List (S105)) (A0_7 : Option Addr) (c0_7 : Nat) (l0_7 : List (S108)) (a1_0 : ByteArray) (a1_1 : Int) (A1_2 : Option Addr) (c1_2 : Nat) (l1_2 : List (S92)) (A1_3 : Option Addr) (c1_3 : Nat) (l1_3 : List (S102)) (A1_4 : Option Addr) (c1_4 : Nat) (l1_4 : List (S71)) (A1_5 : Option Addr) (c1_5 : Nat) (l1_5 : List (S73)) (A1_6 : Option Addr) (c1_6 : Nat) (l1_6 : List (S105)) (A1_7 : Option Addr) (c1_7 : Nat) (l1_7 : List (S108)) (r : Bool) (w : World) (hr0_2 : Kd.C k92 w A0_2 l0_2.length l0_2) (hc0_2 : l0_2.length ≤ c0_2) (hr0_3 : Kd.C k102 w A0_3 l0_3.length l0_3) (hc0_3 : l0_3.length ≤ c0_3) (hr0_4 : Kd.C k71 w A0_4 l0_4.length l0_4) (hc0_4 : l0_4.length ≤ c0_4) (hr0_5 : Kd.C k73 w A0_5 l0_5.length l0_5) (hc0_5 : l0_5.length ≤ c0_5) (hr0_6 : Kd.C k105 w A0_6 l0_6.length l0_6) (hc0_6 : l0_6.length ≤ c0_6) (hr0_7 : Kd.C k108 w A0_7 l0_7.length l0_7) (hc0_7 : l0_7.length ≤ c0_7) (hr1_2 : Kd.C k92 w A1_2 l1_2.length l1_2) (hc1_2 : l1_2.length ≤ c1_2) (hr1_3 : Kd.C k102 w A1_3 l1_3.length l1_3) (hc1_3 : l1_3.length ≤ c1_3) (hr1_4 : Kd.C k71 w A1_4 l1_4.length l1_4) (hc1_4 : l1_4.length ≤ c1_4) (hr1_5 : Kd.C k73 w A1_5 l1_5.length l1_5) (hc1_5 : l1_5.length ≤ c1_5) (hr1_6 : Kd.C k105 w A1_6 l1_6.length l1_6) (hc1_6 : l1_6.length ≤ c1_6) (hr1_7 : Kd.C k108 w A1_7 l1_7.length l1_7) (hc1_7 : l1_7.length ≤ c1_7) (h : laws_eqGate.f k a0_0 a0_1 l0_2 l0_3 l0_4 l0_5 l0_6 l0_7 a1_0 a1_1 l1_2 l1_3 l1_4 l1_5 l1_6 l1_7 = some r) :
    Calls Try.prog 8 #[.agg #[.string a0_0, .int .i64 a0_1, .slice A0_2 l0_2.length c0_2, .slice A0_3 l0_3.length c0_3, .slice A0_4 l0_4.length c0_4, .slice A0_5 l0_5.length c0_5, .slice A0_6 l0_6.length c0_6, .slice A0_7 l0_7.length c0_7], .agg #[.string a1_0, .int .i64 a1_1, .slice A1_2 l1_2.length c1_2, .slice A1_3 l1_3.length c1_3, .slice A1_4 l1_4.length c1_4, .slice A1_5 l1_5.length c1_5, .slice A1_6 l1_6.length c1_6, .slice A1_7 l1_7.length c1_7]] w fun e w' => e = .returned (.bool r) ∧ Below w.heap.size w w' := by
  have hu31 := Try.underlying31; have hu27 := Try.underlying27; have HR0_2 := Aside0.mk hr0_2; have HC0_2 := Aside0.mk hc0_2; clear hr0_2 hc0_2; have HR0_3 := Aside0.mk hr0_3; have HC0_3 := Aside0.mk hc0_3; clear hr0_3 hc0_3; have HR0_4 := Aside0.mk hr0_4; have HC0_4 := Aside0.mk hc0_4; clear hr0_4 hc0_4; have HR0_5 := Aside0.mk hr0_5; have HC0_5 := Aside0.mk hc0_5; clear hr0_5 hc0_5; have HR0_6 := Aside0.mk hr0_6; have HC0_6 := Aside0.mk hc0_6; clear hr0_6 hc0_6; have HR0_7 := Aside0.mk hr0_7; have HC0_7 := Aside0.mk hc0_7; clear hr0_7 hc0_7; have HR1_2 := Aside0.mk hr1_2; have HC1_2 := Aside0.mk hc1_2; clear hr1_2 hc1_2; have HR1_3 := Aside0.mk hr1_3; have HC1_3 := Aside0.mk hc1_3; clear hr1_3 hc1_3; have HR1_4 := Aside0.mk hr1_4; have HC1_4 := Aside0.mk hc1_4; clear hr1_4 hc1_4; have HR1_5 := Aside0.mk hr1_5; have HC1_5 := Aside0.mk hc1_5; clear hr1_5 hc1_5; have HR1_6 := Aside0.mk hr1_6; have HC1_6 := Aside0.mk hc1_6; clear hr1_6 hc1_6; have HR1_7 := Aside0.mk hr1_7; have HC1_7 := Aside0.mk hc1_7; clear hr1_7 hc1_7; have HB := Aside0.mk (Below.refl w.heap.size w); have H : (if a0_0.toList = a1_0.toList then (if a0_1 = a1_1 then ((laws_eqPartnerS.f k l0_2 l1_2).bind fun t150 => (if t150 = true then ((laws_eqCrossS.f k l0_3 l1_3).bind fun t151 => (if t151 = true then ((laws_eqBook.f k l0_4 l0_5 l1_4 l1_5).bind fun t152 => (if t152 = true then ((laws_eqDiffS.f k l0_6 l1_6).bind fun t153 => (if t153 = true then ((laws_eqOutS.f k l0_7 l1_7).bind fun t154 => (if t154 = true then (some true) else (some false))) else (some false))) else (some false))) else (some false))) else (some false))) else (some false)) else (some false)) = some r := h; clear h
  by_cases c3 : a0_0.toList = a1_0.toList
  · rw [if_pos c3] at H; have c3b0 : (a0_0.toList == a1_0.toList) = true := beq_iff_eq.mpr c3; have c3b1 : (a0_0.toList != a1_0.toList) = false := bne_eq_false_iff_eq.mpr c3; clear c3
    by_cases c4 : a0_1 = a1_1
    · rw [if_pos c4] at H; have c4b0 : (a0_1 == a1_1) = true := beq_iff_eq.mpr c4; have c4b1 : (a0_1 != a1_1) = false := bne_eq_false_iff_eq.mpr c4; clear c4; replace H := Option.bind_eq_some_iff.mp H; obtain ⟨t150, A50, H⟩ := H; replace H : (if t150 = true then ((laws_eqCrossS.f k l0_3 l1_3).bind fun t151 => (if t151 = true then ((laws_eqBook.f k l0_4 l0_5 l1_4 l1_5).bind fun t152 => (if t152 = true then ((laws_eqDiffS.f k l0_6 l1_6).bind fun t153 => (if t153 = true then ((laws_eqOutS.f k l0_7 l1_7).bind fun t154 => (if t154 = true then (some true) else (some false))) else (some false))) else (some false))) else (some false))) else (some false)) = some r := H; have A5 := Aside0.mk A50; clear A50
      go_enter Try.func8, Try.ntmps8
      try go_wp2_with (first | ((with_reducible refine gate_dst (N := 2) rfl ?_); refine bx 2 (cs := #[.string a0_0, .int .i64 a0_1, .slice A0_2 l0_2.length c0_2, .slice A0_3 l0_3.length c0_3, .slice A0_4 l0_4.length c0_4, .slice A0_5 l0_5.length c0_5, .slice A0_6 l0_6.length c0_6, .slice A0_7 l0_7.length c0_7]) (t := 31) ?_; intro gb148 hg w6 hbox hb; have BK148 := Aside0.mk (hbox); have GW148 := Aside0.mk ((gs hg (bs HB))); have GE148 := Aside0.mk ((gs hg (bs HB))); replace HB := Aside0.mk (below_step (bs HB) hb); clear hb hbox hg) | ((with_reducible refine gate_dst (N := 3) rfl ?_); refine bx 3 (cs := #[.string a1_0, .int .i64 a1_1, .slice A1_2 l1_2.length c1_2, .slice A1_3 l1_3.length c1_3, .slice A1_4 l1_4.length c1_4, .slice A1_5 l1_5.length c1_5, .slice A1_6 l1_6.length c1_6, .slice A1_7 l1_7.length c1_7]) (t := 31) ?_; intro gb149 hg w7 hbox hb; have BK149 := Aside0.mk (hbox); have GW149 := Aside0.mk ((gs hg (bs HB))); have GE149 := Aside0.mk ((gs hg (bs HB))); replace HB := Aside0.mk (below_step (bs HB) hb); have NB148_149 := Aside0.mk ((gn hg (ks BK148))); have NB149_148 := Aside0.mk ((gm hg (ks BK148))); replace BK148 := Aside0.mk (blk_below (ks BK148) hb); clear hb hbox hg; have hnb8 := NB148_149.out; have hnc8 := NB149_148.out; obtain ⟨hcz9_0, hcz9_1, hcz9_2, hcz9_3, hcz9_4, hcz9_5, hcz9_6, hcz9_7, hfz9_0, hfz9_1, hfz9_2, hfz9_3, hfz9_4, hfz9_5, hfz9_6, hfz9_7⟩ := cf8 BK148; obtain ⟨hcz10_0, hcz10_1, hcz10_2, hcz10_3, hcz10_4, hcz10_5, hcz10_6, hcz10_7, hfz10_0, hfz10_1, hfz10_2, hfz10_3, hfz10_4, hfz10_5, hfz10_6, hfz10_7⟩ := cf8 BK149))
      go_at_call 26; (with_reducible refine (laws_eqPartnerS.calls k _ _ l0_2 _ _ l1_2 t150 _ (Kd.C_below HR0_2.out (bs HB)) HC0_2.out (Kd.C_below HR1_2.out (bs HB)) HC1_2.out A5.out).mono ?_); rintro e w11 ⟨rfl, hb⟩; replace BK148 := Aside0.mk (blk_below (ks BK148) hb); replace BK149 := Aside0.mk (blk_below (ks BK149) hb); replace HB := Aside0.mk (below_step (bs HB) hb); (try clear hb); (try clear hb2); (try clear hk); (try clear hi)
      by_cases c12 : t150 = true
      · subst c12
        have H1 : ((laws_eqCrossS.f k l0_3 l1_3).bind fun t151 => (if t151 = true then ((laws_eqBook.f k l0_4 l0_5 l1_4 l1_5).bind fun t152 => (if t152 = true then ((laws_eqDiffS.f k l0_6 l1_6).bind fun t153 => (if t153 = true then ((laws_eqOutS.f k l0_7 l1_7).bind fun t154 => (if t154 = true then (some true) else (some false))) else (some false))) else (some false))) else (some false))) = some r := by rw [if_pos rfl] at H; exact H
        clear H; have H := H1; clear H1; replace H := Option.bind_eq_some_iff.mp H; obtain ⟨t151, A130, H⟩ := H; replace H : (if t151 = true then ((laws_eqBook.f k l0_4 l0_5 l1_4 l1_5).bind fun t152 => (if t152 = true then ((laws_eqDiffS.f k l0_6 l1_6).bind fun t153 => (if t153 = true then ((laws_eqOutS.f k l0_7 l1_7).bind fun t154 => (if t154 = true then (some true) else (some false))) else (some false))) else (some false))) else (some false)) = some r := H; have A13 := Aside0.mk A130; clear A130; have hnb14 := NB148_149.out; have hnc14 := NB149_148.out; obtain ⟨hcz15_0, hcz15_1, hcz15_2, hcz15_3, hcz15_4, hcz15_5, hcz15_6, hcz15_7, hfz15_0, hfz15_1, hfz15_2, hfz15_3, hfz15_4, hfz15_5, hfz15_6, hfz15_7⟩ := cf8 BK148; obtain ⟨hcz16_0, hcz16_1, hcz16_2, hcz16_3, hcz16_4, hcz16_5, hcz16_6, hcz16_7, hfz16_0, hfz16_1, hfz16_2, hfz16_3, hfz16_4, hfz16_5, hfz16_6, hfz16_7⟩ := cf8 BK149
        try go_wp2_with (fail)
        go_at_call 27; (with_reducible refine (laws_eqCrossS.calls k _ _ l0_3 _ _ l1_3 t151 _ (Kd.C_below HR0_3.out (bs HB)) HC0_3.out (Kd.C_below HR1_3.out (bs HB)) HC1_3.out A13.out).mono ?_); rintro e w17 ⟨rfl, hb⟩; replace BK148 := Aside0.mk (blk_below (ks BK148) hb); replace BK149 := Aside0.mk (blk_below (ks BK149) hb); replace HB := Aside0.mk (below_step (bs HB) hb); (try clear hb); (try clear hb2); (try clear hk); (try clear hi)
        by_cases c18 : t151 = true
        · subst c18
          have H1 : ((laws_eqBook.f k l0_4 l0_5 l1_4 l1_5).bind fun t152 => (if t152 = true then ((laws_eqDiffS.f k l0_6 l1_6).bind fun t153 => (if t153 = true then ((laws_eqOutS.f k l0_7 l1_7).bind fun t154 => (if t154 = true then (some true) else (some false))) else (some false))) else (some false))) = some r := by rw [if_pos rfl] at H; exact H
          clear H; have H := H1; clear H1; replace H := Option.bind_eq_some_iff.mp H; obtain ⟨t152, A190, H⟩ := H; replace H : (if t152 = true then ((laws_eqDiffS.f k l0_6 l1_6).bind fun t153 => (if t153 = true then ((laws_eqOutS.f k l0_7 l1_7).bind fun t154 => (if t154 = true then (some true) else (some false))) else (some false))) else (some false)) = some r := H; have A19 := Aside0.mk A190; clear A190; have hnb20 := NB148_149.out; have hnc20 := NB149_148.out; obtain ⟨hcz21_0, hcz21_1, hcz21_2, hcz21_3, hcz21_4, hcz21_5, hcz21_6, hcz21_7, hfz21_0, hfz21_1, hfz21_2, hfz21_3, hfz21_4, hfz21_5, hfz21_6, hfz21_7⟩ := cf8 BK148; obtain ⟨hcz22_0, hcz22_1, hcz22_2, hcz22_3, hcz22_4, hcz22_5, hcz22_6, hcz22_7, hfz22_0, hfz22_1, hfz22_2, hfz22_3, hfz22_4, hfz22_5, hfz22_6, hfz22_7⟩ := cf8 BK149
          try go_wp2_with (fail)
          go_at_call 16; (with_reducible refine (laws_eqBook.calls k _ _ l0_4 _ _ l0_5 _ _ l1_4 _ _ l1_5 t152 _ (Kd.C_below HR0_4.out (bs HB)) HC0_4.out (Kd.C_below HR0_5.out (bs HB)) HC0_5.out (Kd.C_below HR1_4.out (bs HB)) HC1_4.out (Kd.C_below HR1_5.out (bs HB)) HC1_5.out A19.out).mono ?_); rintro e w23 ⟨rfl, hb⟩; replace BK148 := Aside0.mk (blk_below (ks BK148) hb); replace BK149 := Aside0.mk (blk_below (ks BK149) hb); replace HB := Aside0.mk (below_step (bs HB) hb); (try clear hb); (try clear hb2); (try clear hk); (try clear hi)
          by_cases c24 : t152 = true
          · subst c24
            have H1 : ((laws_eqDiffS.f k l0_6 l1_6).bind fun t153 => (if t153 = true then ((laws_eqOutS.f k l0_7 l1_7).bind fun t154 => (if t154 = true then (some true) else (some false))) else (some false))) = some r := by rw [if_pos rfl] at H; exact H
            clear H; have H := H1; clear H1; replace H := Option.bind_eq_some_iff.mp H; obtain ⟨t153, A250, H⟩ := H; replace H : (if t153 = true then ((laws_eqOutS.f k l0_7 l1_7).bind fun t154 => (if t154 = true then (some true) else (some false))) else (some false)) = some r := H; have A25 := Aside0.mk A250; clear A250; have hnb26 := NB148_149.out; have hnc26 := NB149_148.out; obtain ⟨hcz27_0, hcz27_1, hcz27_2, hcz27_3, hcz27_4, hcz27_5, hcz27_6, hcz27_7, hfz27_0, hfz27_1, hfz27_2, hfz27_3, hfz27_4, hfz27_5, hfz27_6, hfz27_7⟩ := cf8 BK148; obtain ⟨hcz28_0, hcz28_1, hcz28_2, hcz28_3, hcz28_4, hcz28_5, hcz28_6, hcz28_7, hfz28_0, hfz28_1, hfz28_2, hfz28_3, hfz28_4, hfz28_5, hfz28_6, hfz28_7⟩ := cf8 BK149
            try go_wp2_with (fail)
            go_at_call 28; (with_reducible refine (laws_eqDiffS.calls k _ _ l0_6 _ _ l1_6 t153 _ (Kd.C_below HR0_6.out (bs HB)) HC0_6.out (Kd.C_below HR1_6.out (bs HB)) HC1_6.out A25.out).mono ?_); rintro e w29 ⟨rfl, hb⟩; replace BK148 := Aside0.mk (blk_below (ks BK148) hb); replace BK149 := Aside0.mk (blk_below (ks BK149) hb); replace HB := Aside0.mk (below_step (bs HB) hb); (try clear hb); (try clear hb2); (try clear hk); (try clear hi)
            by_cases c30 : t153 = true
            · subst c30
              have H1 : ((laws_eqOutS.f k l0_7 l1_7).bind fun t154 => (if t154 = true then (some true) else (some false))) = some r := by rw [if_pos rfl] at H; exact H
              clear H; have H := H1; clear H1; replace H := Option.bind_eq_some_iff.mp H; obtain ⟨t154, A310, H⟩ := H; replace H : (if t154 = true then (some true) else (some false)) = some r := H; have A31 := Aside0.mk A310; clear A310; have hnb32 := NB148_149.out; have hnc32 := NB149_148.out; obtain ⟨hcz33_0, hcz33_1, hcz33_2, hcz33_3, hcz33_4, hcz33_5, hcz33_6, hcz33_7, hfz33_0, hfz33_1, hfz33_2, hfz33_3, hfz33_4, hfz33_5, hfz33_6, hfz33_7⟩ := cf8 BK148; obtain ⟨hcz34_0, hcz34_1, hcz34_2, hcz34_3, hcz34_4, hcz34_5, hcz34_6, hcz34_7, hfz34_0, hfz34_1, hfz34_2, hfz34_3, hfz34_4, hfz34_5, hfz34_6, hfz34_7⟩ := cf8 BK149
              try go_wp2_with (fail)
              go_at_call 29; (with_reducible refine (laws_eqOutS.calls k _ _ l0_7 _ _ l1_7 t154 _ (Kd.C_below HR0_7.out (bs HB)) HC0_7.out (Kd.C_below HR1_7.out (bs HB)) HC1_7.out A31.out).mono ?_); rintro e w35 ⟨rfl, hb⟩; replace BK148 := Aside0.mk (blk_below (ks BK148) hb); replace BK149 := Aside0.mk (blk_below (ks BK149) hb); replace HB := Aside0.mk (below_step (bs HB) hb); (try clear hb); (try clear hb2); (try clear hk); (try clear hi)
              by_cases c36 : t154 = true
              · subst c36
                have H1 : (some true) = some r := by rw [if_pos rfl] at H; exact H
                clear H; have H := H1; clear H1; obtain rfl := Option.some.inj H
                go_wp2
                go_ret
                exact ⟨ff, bs HB⟩
              · replace c36 := Bool.eq_false_iff.mpr c36; subst c36
                have H1 : (some false) = some r := by rw [if_neg (show ¬ (false = true) by decide)] at H; exact H
                clear H; have H := H1; clear H1; obtain rfl := Option.some.inj H
                go_wp2
                go_ret
                exact ⟨ff, bs HB⟩
            · replace c30 := Bool.eq_false_iff.mpr c30; subst c30
              have H1 : (some false) = some r := by rw [if_neg (show ¬ (false = true) by decide)] at H; exact H
              clear H; have H := H1; clear H1; obtain rfl := Option.some.inj H
              go_wp2
              go_ret
              exact ⟨ff, bs HB⟩
          · replace c24 := Bool.eq_false_iff.mpr c24; subst c24
            have H1 : (some false) = some r := by rw [if_neg (show ¬ (false = true) by decide)] at H; exact H
            clear H; have H := H1; clear H1; obtain rfl := Option.some.inj H
            go_wp2
            go_ret
            exact ⟨ff, bs HB⟩
        · replace c18 := Bool.eq_false_iff.mpr c18; subst c18
          have H1 : (some false) = some r := by rw [if_neg (show ¬ (false = true) by decide)] at H; exact H
          clear H; have H := H1; clear H1; obtain rfl := Option.some.inj H
          go_wp2
          go_ret
          exact ⟨ff, bs HB⟩
      · replace c12 := Bool.eq_false_iff.mpr c12; subst c12
        have H1 : (some false) = some r := by rw [if_neg (show ¬ (false = true) by decide)] at H; exact H
        clear H; have H := H1; clear H1; obtain rfl := Option.some.inj H
        go_wp2
        go_ret
        exact ⟨ff, bs HB⟩
    · rw [if_neg c4] at H; have c4b0 : (a0_1 == a1_1) = false := beq_eq_false_iff_ne.mpr c4; have c4b1 : (a0_1 != a1_1) = true := bne_iff_ne.mpr c4; obtain rfl := Option.some.inj H
      go_enter Try.func8, Try.ntmps8
      go_wp2_with (first | ((with_reducible refine gate_dst (N := 2) rfl ?_); refine bx 2 (cs := #[.string a0_0, .int .i64 a0_1, .slice A0_2 l0_2.length c0_2, .slice A0_3 l0_3.length c0_3, .slice A0_4 l0_4.length c0_4, .slice A0_5 l0_5.length c0_5, .slice A0_6 l0_6.length c0_6, .slice A0_7 l0_7.length c0_7]) (t := 31) ?_; intro gb148 hg w37 hbox hb; have BK148 := Aside0.mk (hbox); have GW148 := Aside0.mk ((gs hg (bs HB))); have GE148 := Aside0.mk ((gs hg (bs HB))); replace HB := Aside0.mk (below_step (bs HB) hb); clear hb hbox hg) | ((with_reducible refine gate_dst (N := 3) rfl ?_); refine bx 3 (cs := #[.string a1_0, .int .i64 a1_1, .slice A1_2 l1_2.length c1_2, .slice A1_3 l1_3.length c1_3, .slice A1_4 l1_4.length c1_4, .slice A1_5 l1_5.length c1_5, .slice A1_6 l1_6.length c1_6, .slice A1_7 l1_7.length c1_7]) (t := 31) ?_; intro gb149 hg w38 hbox hb; have BK149 := Aside0.mk (hbox); have GW149 := Aside0.mk ((gs hg (bs HB))); have GE149 := Aside0.mk ((gs hg (bs HB))); replace HB := Aside0.mk (below_step (bs HB) hb); have NB148_149 := Aside0.mk ((gn hg (ks BK148))); have NB149_148 := Aside0.mk ((gm hg (ks BK148))); replace BK148 := Aside0.mk (blk_below (ks BK148) hb); clear hb hbox hg; have hnb39 := NB148_149.out; have hnc39 := NB149_148.out; obtain ⟨hcz40_0, hcz40_1, hcz40_2, hcz40_3, hcz40_4, hcz40_5, hcz40_6, hcz40_7, hfz40_0, hfz40_1, hfz40_2, hfz40_3, hfz40_4, hfz40_5, hfz40_6, hfz40_7⟩ := cf8 BK148; obtain ⟨hcz41_0, hcz41_1, hcz41_2, hcz41_3, hcz41_4, hcz41_5, hcz41_6, hcz41_7, hfz41_0, hfz41_1, hfz41_2, hfz41_3, hfz41_4, hfz41_5, hfz41_6, hfz41_7⟩ := cf8 BK149))
      go_ret
      exact ⟨ff, bs HB⟩
  · rw [if_neg c3] at H; have c3b0 : (a0_0.toList == a1_0.toList) = false := beq_eq_false_iff_ne.mpr c3; have c3b1 : (a0_0.toList != a1_0.toList) = true := bne_iff_ne.mpr c3; obtain rfl := Option.some.inj H
    go_enter Try.func8, Try.ntmps8
    go_wp2_with (first | ((with_reducible refine gate_dst (N := 2) rfl ?_); refine bx 2 (cs := #[.string a0_0, .int .i64 a0_1, .slice A0_2 l0_2.length c0_2, .slice A0_3 l0_3.length c0_3, .slice A0_4 l0_4.length c0_4, .slice A0_5 l0_5.length c0_5, .slice A0_6 l0_6.length c0_6, .slice A0_7 l0_7.length c0_7]) (t := 31) ?_; intro gb148 hg w42 hbox hb; have BK148 := Aside0.mk (hbox); have GW148 := Aside0.mk ((gs hg (bs HB))); have GE148 := Aside0.mk ((gs hg (bs HB))); replace HB := Aside0.mk (below_step (bs HB) hb); clear hb hbox hg) | ((with_reducible refine gate_dst (N := 3) rfl ?_); refine bx 3 (cs := #[.string a1_0, .int .i64 a1_1, .slice A1_2 l1_2.length c1_2, .slice A1_3 l1_3.length c1_3, .slice A1_4 l1_4.length c1_4, .slice A1_5 l1_5.length c1_5, .slice A1_6 l1_6.length c1_6, .slice A1_7 l1_7.length c1_7]) (t := 31) ?_; intro gb149 hg w43 hbox hb; have BK149 := Aside0.mk (hbox); have GW149 := Aside0.mk ((gs hg (bs HB))); have GE149 := Aside0.mk ((gs hg (bs HB))); replace HB := Aside0.mk (below_step (bs HB) hb); have NB148_149 := Aside0.mk ((gn hg (ks BK148))); have NB149_148 := Aside0.mk ((gm hg (ks BK148))); replace BK148 := Aside0.mk (blk_below (ks BK148) hb); clear hb hbox hg; have hnb44 := NB148_149.out; have hnc44 := NB149_148.out; obtain ⟨hcz45_0, hcz45_1, hcz45_2, hcz45_3, hcz45_4, hcz45_5, hcz45_6, hcz45_7, hfz45_0, hfz45_1, hfz45_2, hfz45_3, hfz45_4, hfz45_5, hfz45_6, hfz45_7⟩ := cf8 BK148; obtain ⟨hcz46_0, hcz46_1, hcz46_2, hcz46_3, hcz46_4, hcz46_5, hcz46_6, hcz46_7, hfz46_0, hfz46_1, hfz46_2, hfz46_3, hfz46_4, hfz46_5, hfz46_6, hfz46_7⟩ := cf8 BK149))
    go_ret
    exact ⟨ff, bs HB⟩
end Go.Proofs.Ytjjfjgdhloideaa.QG
namespace Go.Proofs.Ytjjfjgdhloideaa.QG
open Go.RowKit Go.Proofs.YtjjfjgdhloideaaW.PrintWords Go.Proofs.YtjjfjgdhloideaaW.PrintLast Go.Proofs.YtjjfjgdhloideaaW.PrintMore
attribute [local go_sem] max2_int min2_int max_two min_two max_three min_three max_four min_four   -- for this text's walks alone
set_option linter.unusedVariables false
set_option linter.unusedSimpArgs false
set_option maxHeartbeats 8000000 in
set_option maxRecDepth 100000 in
theorem laws_mark0_30 (A : Option Addr) (c : Nat) (k : Int) (w : World) : Calls Try.prog 30 #[.slice A 0 c, .int .i64 k] w fun e w' => e = .returned (.int .i64 k) ∧ w' = w := by
  go_enter Try.func30, Try.ntmps30
  go_wp2
  go_loopw [1, 5] (fun v1 v5 wr => v1 = .int .i64 k ∧ v5 = .int .i64 0 ∧ wr = w) (fun _ _ _ => 0)
  case atStart => exact ⟨rfl, rfl, rfl⟩
  case round =>
    obtain ⟨rfl, rfl, rfl⟩ := hrel
    go_wp2
    go_ret
    exact ⟨rfl, rfl⟩
set_option maxHeartbeats 8000000 in
set_option maxRecDepth 100000 in
theorem laws_mark0_31 (A : Option Addr) (c : Nat) (k : Int) (w : World) : Calls Try.prog 31 #[.slice A 0 c, .int .i64 k] w fun e w' => e = .returned (.int .i64 k) ∧ w' = w := by
  go_enter Try.func31, Try.ntmps31
  go_wp2
  go_loopw [1, 5] (fun v1 v5 wr => v1 = .int .i64 k ∧ v5 = .int .i64 0 ∧ wr = w) (fun _ _ _ => 0)
  case atStart => exact ⟨rfl, rfl, rfl⟩
  case round =>
    obtain ⟨rfl, rfl, rfl⟩ := hrel
    go_wp2
    go_ret
    exact ⟨rfl, rfl⟩
set_option maxHeartbeats 8000000 in
set_option maxRecDepth 100000 in
theorem laws_mark0_48 (A : Option Addr) (c : Nat) (k : Int) (w : World) : Calls Try.prog 48 #[.slice A 0 c, .int .i64 k] w fun e w' => e = .returned (.int .i64 k) ∧ w' = w := by
  go_enter Try.func48, Try.ntmps48
  go_wp2
  go_loopw [1, 5] (fun v1 v5 wr => v1 = .int .i64 k ∧ v5 = .int .i64 0 ∧ wr = w) (fun _ _ _ => 0)
  case atStart => exact ⟨rfl, rfl, rfl⟩
  case round =>
    obtain ⟨rfl, rfl, rfl⟩ := hrel
    go_wp2
    go_ret
    exact ⟨rfl, rfl⟩
set_option maxHeartbeats 8000000 in
set_option maxRecDepth 100000 in
theorem laws_mark0_49 (A : Option Addr) (c : Nat) (k : Int) (w : World) : Calls Try.prog 49 #[.slice A 0 c, .int .i64 k] w fun e w' => e = .returned (.int .i64 k) ∧ w' = w := by
  go_enter Try.func49, Try.ntmps49
  go_wp2
  go_loopw [1, 5] (fun v1 v5 wr => v1 = .int .i64 k ∧ v5 = .int .i64 0 ∧ wr = w) (fun _ _ _ => 0)
  case atStart => exact ⟨rfl, rfl, rfl⟩
  case round =>
    obtain ⟨rfl, rfl, rfl⟩ := hrel
    go_wp2
    go_ret
    exact ⟨rfl, rfl⟩
set_option maxHeartbeats 8000000 in
set_option maxRecDepth 100000 in
theorem laws_mark0_32 (A : Option Addr) (c : Nat) (k : Int) (w : World) : Calls Try.prog 32 #[.slice A 0 c, .int .i64 k] w fun e w' => e = .returned (.int .i64 k) ∧ w' = w := by
  go_enter Try.func32, Try.ntmps32
  go_wp2
  go_loopw [1, 5] (fun v1 v5 wr => v1 = .int .i64 k ∧ v5 = .int .i64 0 ∧ wr = w) (fun _ _ _ => 0)
  case atStart => exact ⟨rfl, rfl, rfl⟩
  case round =>
    obtain ⟨rfl, rfl, rfl⟩ := hrel
    go_wp2
    go_ret
    exact ⟨rfl, rfl⟩
set_option maxHeartbeats 8000000 in
set_option maxRecDepth 100000 in
theorem laws_mark0_33 (A : Option Addr) (c : Nat) (k : Int) (w : World) : Calls Try.prog 33 #[.slice A 0 c, .int .i64 k] w fun e w' => e = .returned (.int .i64 k) ∧ w' = w := by
  go_enter Try.func33, Try.ntmps33
  go_wp2
  go_loopw [1, 5] (fun v1 v5 wr => v1 = .int .i64 k ∧ v5 = .int .i64 0 ∧ wr = w) (fun _ _ _ => 0)
  case atStart => exact ⟨rfl, rfl, rfl⟩
  case round =>
    obtain ⟨rfl, rfl, rfl⟩ := hrel
    go_wp2
    go_ret
    exact ⟨rfl, rfl⟩
set_option maxHeartbeats 8000000 in
set_option maxRecDepth 100000 in
theorem laws_mark0_17 (A B : Option Addr) (c d : Nat) (k : Int) (w : World) : Calls Try.prog 17 #[.agg #[.slice A 0 c, .slice B 0 d], .int .i64 k] w fun e w' => e = .returned (.int .i64 k) ∧ Below w.heap.size w w' := by
  have hu := Try.underlying27; have HB := Aside0.mk (Below.refl w.heap.size w)
  go_enter Try.func17, Try.ntmps17
  go_wp2_with (first | (go_at_call 48; refine (laws_mark0_48 A c k _).mono ?_; rintro e w2 ⟨rfl, rfl⟩) | (go_at_call 49; refine (laws_mark0_49 B d k _).mono ?_; rintro e w3 ⟨rfl, rfl⟩))
  go_ret
  exact ⟨rfl, bs HB⟩
set_option maxHeartbeats 8000000 in
set_option maxRecDepth 100000 in
theorem laws_mark0_9 (n : ByteArray) (dd : Int) (A2 A3 A4 A5 A6 A7 : Option Addr) (c2 c3 c4 c5 c6 c7 : Nat) (k : Int) (w : World) : Calls Try.prog 9 #[.agg #[.string n, .int .i64 dd, .slice A2 0 c2, .slice A3 0 c3, .slice A4 0 c4, .slice A5 0 c5, .slice A6 0 c6, .slice A7 0 c7], .int .i64 k] w fun e w' => e = .returned (.int .i64 k) ∧ Below w.heap.size w w' := by
  have hu := Try.underlying31; have hu2 := Try.underlying27; have HB := Aside0.mk (Below.refl w.heap.size w)
  go_enter Try.func9, Try.ntmps9
  have q := heap_alloc_new w (.cells #[.string n, .int .i64 dd, .slice A2 0 c2, .slice A3 0 c3, .slice A4 0 c4, .slice A5 0 c5, .slice A6 0 c6, .slice A7 0 c7] 31); have hq6 := (blk_cell q 6).trans rfl; have hq7 := (blk_cell q 7).trans rfl; have HQ6 := Aside0.mk hq6; have HQ7 := Aside0.mk hq7; clear q hq6 hq7
  go_wp2_with (first | (go_at_call 30; refine (laws_mark0_30 A2 c2 k _).mono ?_; rintro e w2 ⟨rfl, rfl⟩) | (go_at_call 31; refine (laws_mark0_31 A3 c3 k _).mono ?_; rintro e w3 ⟨rfl, rfl⟩) | (go_at_call 17; refine (laws_mark0_17 A4 A5 c4 c5 k _).mono ?_; rintro e w4 ⟨rfl, hb⟩; replace HQ6 := pw_cell_below hb HQ6.out; replace HQ7 := pw_cell_below hb HQ7.out; replace HB := Aside0.mk (below_step (bs HB) hb); clear hb) | (go_at_call 32; refine (laws_mark0_32 A6 c6 k _).mono ?_; rintro e w2 ⟨rfl, rfl⟩) | (go_at_call 33; refine (laws_mark0_33 A7 c7 k _).mono ?_; rintro e w3 ⟨rfl, rfl⟩))
  go_ret
  exact ⟨rfl, bs HB⟩
theorem laws_markGate.calls (a0_0 : ByteArray) (a0_1 : Int) (A0_2 : Option Addr) (c0_2 : Nat) (l0_2 : List S92) (A0_3 : Option Addr) (c0_3 : Nat) (l0_3 : List S102) (A0_4 : Option Addr) (c0_4 : Nat) (l0_4 : List S71) (A0_5 : Option Addr) (c0_5 : Nat) (l0_5 : List S73) (A0_6 : Option Addr) (c0_6 : Nat) (l0_6 : List S105) (A0_7 : Option Addr) (c0_7 : Nat) (l0_7 : List S108) (a1 : Int) (r : Int) (w : World) (_hr0_2 : Kd.C k92 w A0_2 l0_2.length l0_2) (_hc0_2 : l0_2.length ≤ c0_2) (_hr0_3 : Kd.C k102 w A0_3 l0_3.length l0_3) (_hc0_3 : l0_3.length ≤ c0_3) (_hr0_4 : Kd.C k71 w A0_4 l0_4.length l0_4) (_hc0_4 : l0_4.length ≤ c0_4) (_hr0_5 : Kd.C k73 w A0_5 l0_5.length l0_5) (_hc0_5 : l0_5.length ≤ c0_5) (_hr0_6 : Kd.C k105 w A0_6 l0_6.length l0_6) (_hc0_6 : l0_6.length ≤ c0_6) (_hr0_7 : Kd.C k108 w A0_7 l0_7.length l0_7) (_hc0_7 : l0_7.length ≤ c0_7) (h : laws_markGate.f a0_0 a0_1 l0_2 l0_3 l0_4 l0_5 l0_6 l0_7 a1 = some r) :
    Calls Try.prog 9 #[.agg #[.string a0_0, .int .i64 a0_1, .slice A0_2 l0_2.length c0_2, .slice A0_3 l0_3.length c0_3, .slice A0_4 l0_4.length c0_4, .slice A0_5 l0_5.length c0_5, .slice A0_6 l0_6.length c0_6, .slice A0_7 l0_7.length c0_7], .int .i64 a1] w fun e w' => e = .returned (.int .i64 r) ∧ Below w.heap.size w w' := by
  unfold laws_markGate.f at h
  by_cases hl : l0_2 = [] ∧ l0_3 = [] ∧ l0_4 = [] ∧ l0_5 = [] ∧ l0_6 = [] ∧ l0_7 = []
  · rw [if_pos hl] at h
    obtain rfl := Option.some.inj h; obtain ⟨rfl, rfl, rfl, rfl, rfl, rfl⟩ := hl
    exact laws_mark0_9 a0_0 a0_1 A0_2 A0_3 A0_4 A0_5 A0_6 A0_7 c0_2 c0_3 c0_4 c0_5 c0_6 c0_7 a1 w
  · rw [if_neg hl] at h
    cases h
set_option maxHeartbeats 8000000 in
set_option maxRecDepth 100000 in
theorem laws_markText.calls (k : Nat) (a0 : Int) (r : ByteArray) (w : World) (h : laws_markText.f k a0 = some r) :
    Calls Try.prog 50 #[.int .i64 a0] w fun e w' => e = .returned (.string r) ∧ Below w.heap.size w w' := by
  have HB := Aside0.mk (Below.refl w.heap.size w); have H : (if a0 ≤ 0 then (some (⟨#[109, 48]⟩ : ByteArray)) else (laws_markText.l0 k a0 (⟨#[]⟩ : ByteArray))) = some r := h; clear h
  by_cases c2 : a0 ≤ 0
  · rw [if_pos c2] at H; have c2b0 : decide (a0 ≤ 0) = true := decide_eq_true c2; clear c2; obtain rfl := Option.some.inj H
    go_enter Try.func50, Try.ntmps50
    go_wp2
    go_ret
    exact ⟨ff, bs HB⟩
  · rw [if_neg c2] at H; have c2b0 : decide (a0 ≤ 0) = false := decide_eq_false c2; clear c2; have H' := Aside0.mk H; clear H
    go_enter Try.func50, Try.ntmps50
    go_wp2
    go_loopg [0, 3] k (fun kq v0 v3 w' => ∃ (x0_1 : Int) (x3_1 : ByteArray), v0 = .int .i64 x0_1 ∧ v3 = .string x3_1 ∧ Aside0 (laws_markText.l0 kq x0_1 x3_1 = some r) ∧ Aside0 (kq ≤ k) ∧ Aside0 (Below w.heap.size w w'))
    case atStart => exact ⟨(a0), ((⟨#[]⟩ : ByteArray)), fg, fg, H', ⟨Nat.le_refl _⟩, ⟨bs HB⟩⟩
    case round =>
      clear H'
      try clear c2
      try clear c2b0
      try clear p2
      obtain ⟨x0_1, x3_1, rfl, rfl, HA, HK1, HB⟩ := hrel
      cases gk with
      | zero => exact absurd HA.out (by simp [laws_markText.l0])
      | succ k1 =>
        have H := HA.out; clear HA; simp only [laws_markText.l0] at H
        by_cases c3 : x0_1 > 0
        · rw [if_pos c3] at H; have c3b0 : decide (0 < x0_1) = true := decide_eq_true c3; clear c3; obtain ⟨y155, hy155⟩ : ∃ y_ : List Int, y_ = (([(wrap64 (48 + (Int.tmod x0_1 10))) % 256] : List Int)) := ⟨_, rfl⟩
          replace H : (if (strOfNums y155).size + x3_1.size ≤ 9223372036854775807 then (laws_markText.l0 k1 (wrap64 (Int.tdiv x0_1 10)) ((strOfNums y155) ++ x3_1)) else (none)) = some r := by first | (rw [hy155]; with_reducible exact H) | (have H2_ := (Option.bind_some _ _).symm.trans H; rw [hy155]; with_reducible exact H2_) | (have H2_ := (Option.bind_some _ _).symm.trans H; with_reducible exact H2_) | with_reducible exact H | (rw [hy155]; exact H) | exact H
          have Ny155 := Aside0.mk hy155; clear hy155
          by_cases c4 : (strOfNums y155).size + x3_1.size ≤ 9223372036854775807
          · rw [if_pos c4] at H; have c4b0 := eq_true c4; have c4b1 : decide ((strOfNums y155).size + x3_1.size ≤ 9223372036854775807) = true := decide_eq_true c4
            try have c4b2 : (9223372036854775807 < (strOfNums y155).size + x3_1.size) = False := eq_false (Nat.not_lt.2 c4)
            have H' := Aside0.mk H; clear H
            go_wp2_with (first | ((with_reducible refine gate_dst (N := 12) rfl ?_); refine Kd.R_lit (Kd.int .u8) _ 5 ?hg (N := 12) ?hd (xs := ([(wrap64 (48 + (Int.tmod x0_1 10))) % 256] : List Int)) (inner := [.int .u8 ((wrap64 (48 + (Int.tmod x0_1 10))) % 256)]) (ok := fun _ => True) (okp := fun _ => True) ?hr ?hp (fun _ hk => hk) trivial (Below.refl _ _) (Nat.le_refl _) (by simp) ?_; (case hd => rfl); (case hg => rfl); (case hr => first | (go_simp; done) | (go_simp; rfl)); (case hp => exact (Reps.one (show Kd.M (Kd.int .u8) _ _ _ ((wrap64 (48 + (Int.tmod x0_1 10))) % 256) [.int .u8 ((wrap64 (48 + (Int.tmod x0_1 10))) % 256)] from rfl) (Reps.none _ _))); intro v156 w5 ho6 hb hg_ hnew_; clear hg_ hnew_; (first | rw [← Ny155.out] at ho6 | (simp only [Int.reduceToNat] at ho6; rw [← Ny155.out] at ho6)); have HO157 := Aside0.mk (Kd.R_lower ho6 (below_size (bs HB))); replace HB := Aside0.mk (below_step (bs HB) hb); clear hb ho6; have hcv7 := own_string (P := Try.prog) Try.underlying122 Try.underlying5 Try.underlying9 (Kd.own_of_R HO157.out)))
            go_roundg k1
            case measure => have := HK1.out; omega
            case rel => exact ⟨(wrap64 (Int.tdiv x0_1 10)), ((strOfNums y155) ++ x3_1), fg, fg, H', ⟨by have := HK1.out; omega⟩, ⟨bs HB⟩⟩
          · rw [if_neg c4] at H
            exact absurd H (by simp)
        · rw [if_neg c3] at H; have c3b0 : decide (0 < x0_1) = false := decide_eq_false c3; clear c3
          by_cases c8 : 1 + x3_1.size ≤ 9223372036854775807
          · rw [if_pos c8] at H; have c8b0 := eq_true c8; have c8b1 : decide (1 + x3_1.size ≤ 9223372036854775807) = true := decide_eq_true c8
            try have c8b2 : (9223372036854775807 < 1 + x3_1.size) = False := eq_false (Nat.not_lt.2 c8)
            obtain rfl := Option.some.inj H
            go_wp2
            go_ret
            exact ⟨ff, bs HB⟩
          · rw [if_neg c8] at H
            exact absurd H (by simp)
end Go.Proofs.Ytjjfjgdhloideaa.QG
namespace Go.Proofs.Ytjjfjgdhloideaa.QG
open Go.RowKit Go.Proofs.YtjjfjgdhloideaaW.PrintWords Go.Proofs.YtjjfjgdhloideaaW.PrintLast Go.Proofs.YtjjfjgdhloideaaW.PrintMore
attribute [local go_sem] max2_int min2_int max_two min_two max_three min_three max_four min_four   -- for this text's walks alone
set_option linter.unusedVariables false
set_option linter.unusedSimpArgs false
set_option maxHeartbeats 8000000 in
set_option maxRecDepth 100000 in
theorem laws_heldSeenS.calls (k : Nat) (A0 : Option Addr) (c0 : Nat) (l0 : List (S135)) (a1 : Int) (r : Int) (w : World) (hr0 : Kd.C k135 w A0 l0.length l0) (hc0 : l0.length ≤ c0) (h : laws_heldSeenS.f k l0 a1 = some r) :
    Calls Try.prog 75 #[.slice A0 l0.length c0, .int .i64 a1] w fun e w' => e = .returned (.int .i64 r) ∧ Drawn0 w w' := by
  have HR0 := Aside0.mk hr0; have HC0 := Aside0.mk hc0; clear hr0 hc0; have H : (laws_heldSeenS.l0 k l0 a1 0) = some r := h; clear h; have H' := Aside0.mk H; clear H
  go_enter Try.func75, Try.ntmps75
  go_wp2
  go_loopg [1, 5] k (fun kq v1 v5 w' => ∃ (x1_1 : Int) (x5_1 : Int), v1 = .int .i64 x1_1 ∧ v5 = .int .i64 x5_1 ∧ Aside0 (laws_heldSeenS.l0 kq l0 x1_1 x5_1 = some r) ∧ Aside0 (kq ≤ k) ∧ Drawn0 w w')
  case atStart => exact ⟨(a1), (0), fg, fg, H', ⟨Nat.le_refl _⟩, by repeat (first | exact Drawn0.refl _ | apply Drawn0.step)⟩
  case round =>
    clear H'
    try clear p2
    obtain ⟨x1_1, x5_1, rfl, rfl, HA, HK1, ⟨m1, rfl⟩⟩ := hrel
    cases gk with
    | zero => exact absurd HA.out (by simp [laws_heldSeenS.l0])
    | succ k1 =>
      have H := HA.out; clear HA; simp only [laws_heldSeenS.l0] at H
      by_cases c3 : x5_1 < (l0.length : Int)
      · rw [if_pos c3] at H; have c3b0 : decide (x5_1 < (l0.length : Int)) = true := decide_eq_true c3; clear c3
        by_cases c4 : 0 ≤ x5_1
        · rw [if_pos c4] at H; have c4b0 : decide (0 ≤ x5_1) = true := decide_eq_true c4; clear c4
          by_cases c5 : ((rd_T135 l0 x5_1).f0) = x1_1
          · rw [if_pos c5] at H; have c5b0 : (((rd_T135 l0 x5_1).f0) == x1_1) = true := beq_iff_eq.mpr c5; have c5b1 : (((rd_T135 l0 x5_1).f0) != x1_1) = false := bne_eq_false_iff_eq.mpr c5; clear c5
            by_cases c6 : ((rd_T135 l0 x5_1).f1) = (wrap64 (x1_1 + 1))
            · rw [if_pos c6] at H; have c6b0 : (((rd_T135 l0 x5_1).f1) == (wrap64 (x1_1 + 1))) = true := beq_iff_eq.mpr c6; have c6b1 : (((rd_T135 l0 x5_1).f1) != (wrap64 (x1_1 + 1))) = false := bne_eq_false_iff_eq.mpr c6; clear c6
              by_cases c7 : ((rd_T135 l0 x5_1).f2) = (wrap64 ((wrap64 (x1_1 + 1)) + 1))
              · rw [if_pos c7] at H; have c7b0 : (((rd_T135 l0 x5_1).f2) == (wrap64 ((wrap64 (x1_1 + 1)) + 1))) = true := beq_iff_eq.mpr c7; have c7b1 : (((rd_T135 l0 x5_1).f2) != (wrap64 ((wrap64 (x1_1 + 1)) + 1))) = false := bne_eq_false_iff_eq.mpr c7; clear c7; have H' := Aside0.mk H; clear H; have p158 : 0 ≤ (x5_1 : Int) := oa; have q158 : x5_1 < (l0.length : Int) := oa; obtain ⟨ad158, e158, hx158_0, hx158_1, hx158_2⟩ := at_T135 HR0.out x5_1 p158 q158
                cases e158
                replace p158 := eq_true p158; replace q158 := eq_true q158; have p159 : 0 ≤ (x5_1 : Int) := oa; have q159 : x5_1 < (l0.length : Int) := oa; obtain ⟨ad159, e159, hx159_0, hx159_1, hx159_2⟩ := at_T135 HR0.out x5_1 p159 q159; obtain rfl : ad158 = ad159 := (by injection e159); replace p159 := eq_true p159; replace q159 := eq_true q159; have p160 : 0 ≤ (x5_1 : Int) := oa; have q160 : x5_1 < (l0.length : Int) := oa; obtain ⟨ad160, e160, hx160_0, hx160_1, hx160_2⟩ := at_T135 HR0.out x5_1 p160 q160; obtain rfl : ad158 = ad160 := (by injection e160); replace p160 := eq_true p160; replace q160 := eq_true q160
                go_wp2
                go_roundg k1
                case measure => have := HK1.out; omega
                case rel => exact ⟨(wrap64 ((wrap64 ((wrap64 (x1_1 + 1)) + 1)) + 1)), (wrap64 (x5_1 + 1)), fg, fg, H', ⟨by have := HK1.out; omega⟩, by repeat (first | exact Drawn0.refl _ | apply Drawn0.step)⟩
              · rw [if_neg c7] at H; have c7b0 : (((rd_T135 l0 x5_1).f2) == (wrap64 ((wrap64 (x1_1 + 1)) + 1))) = false := beq_eq_false_iff_ne.mpr c7; have c7b1 : (((rd_T135 l0 x5_1).f2) != (wrap64 ((wrap64 (x1_1 + 1)) + 1))) = true := bne_iff_ne.mpr c7; obtain rfl := Option.some.inj H; have p158 : 0 ≤ (x5_1 : Int) := oa; have q158 : x5_1 < (l0.length : Int) := oa; obtain ⟨ad158, e158, hx158_0, hx158_1, hx158_2⟩ := at_T135 HR0.out x5_1 p158 q158
                cases e158
                replace p158 := eq_true p158; replace q158 := eq_true q158; have p159 : 0 ≤ (x5_1 : Int) := oa; have q159 : x5_1 < (l0.length : Int) := oa; obtain ⟨ad159, e159, hx159_0, hx159_1, hx159_2⟩ := at_T135 HR0.out x5_1 p159 q159; obtain rfl : ad158 = ad159 := (by injection e159); replace p159 := eq_true p159; replace q159 := eq_true q159; have p160 : 0 ≤ (x5_1 : Int) := oa; have q160 : x5_1 < (l0.length : Int) := oa; obtain ⟨ad160, e160, hx160_0, hx160_1, hx160_2⟩ := at_T135 HR0.out x5_1 p160 q160; obtain rfl : ad158 = ad160 := (by injection e160); replace p160 := eq_true p160; replace q160 := eq_true q160
                go_wp2
                go_ret
                exact ⟨fg, by repeat (first | exact Drawn0.refl _ | apply Drawn0.step)⟩
            · rw [if_neg c6] at H; have c6b0 : (((rd_T135 l0 x5_1).f1) == (wrap64 (x1_1 + 1))) = false := beq_eq_false_iff_ne.mpr c6; have c6b1 : (((rd_T135 l0 x5_1).f1) != (wrap64 (x1_1 + 1))) = true := bne_iff_ne.mpr c6; obtain rfl := Option.some.inj H; have p158 : 0 ≤ (x5_1 : Int) := oa; have q158 : x5_1 < (l0.length : Int) := oa; obtain ⟨ad158, e158, hx158_0, hx158_1, hx158_2⟩ := at_T135 HR0.out x5_1 p158 q158
              cases e158
              replace p158 := eq_true p158; replace q158 := eq_true q158; have p159 : 0 ≤ (x5_1 : Int) := oa; have q159 : x5_1 < (l0.length : Int) := oa; obtain ⟨ad159, e159, hx159_0, hx159_1, hx159_2⟩ := at_T135 HR0.out x5_1 p159 q159; obtain rfl : ad158 = ad159 := (by injection e159); replace p159 := eq_true p159; replace q159 := eq_true q159
              go_wp2
              go_ret
              exact ⟨fg, by repeat (first | exact Drawn0.refl _ | apply Drawn0.step)⟩
          · rw [if_neg c5] at H; have c5b0 : (((rd_T135 l0 x5_1).f0) == x1_1) = false := beq_eq_false_iff_ne.mpr c5; have c5b1 : (((rd_T135 l0 x5_1).f0) != x1_1) = true := bne_iff_ne.mpr c5; obtain rfl := Option.some.inj H; have p158 : 0 ≤ (x5_1 : Int) := oa; have q158 : x5_1 < (l0.length : Int) := oa; obtain ⟨ad158, e158, hx158_0, hx158_1, hx158_2⟩ := at_T135 HR0.out x5_1 p158 q158
            cases e158
            replace p158 := eq_true p158; replace q158 := eq_true q158
            go_wp2
            go_ret
            exact ⟨fg, by repeat (first | exact Drawn0.refl _ | apply Drawn0.step)⟩
        · rw [if_neg c4] at H
          exact absurd H (by simp)
      · rw [if_neg c3] at H; have c3b0 : decide (x5_1 < (l0.length : Int)) = false := decide_eq_false c3; clear c3; obtain rfl := Option.some.inj H
        go_wp2
        go_ret
        exact ⟨fg, by repeat (first | exact Drawn0.refl _ | apply Drawn0.step)⟩
end Go.Proofs.Ytjjfjgdhloideaa.QG
