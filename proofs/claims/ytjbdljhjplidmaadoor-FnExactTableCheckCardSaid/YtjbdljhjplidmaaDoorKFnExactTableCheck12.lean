-- Merged by a program of this session (wip/tool/pack.py) out of its own texts for this claim.
import Derived.Deep.Slices
import Derived.ChangeArms
import Derived.WalkKit
import Derived.ProofKit
import Derived.OpenShut
import Derived.ShutString
import Derived.ChangeOld
import Derived.Below
import Derived.SizedLaws
import Derived.Lib.Strings
import Derived.Lib.ItoaNum
import Derived.Test.YtjbdljhjplidmaaDoorKFnExactTableCheck0
import Derived.Test.YtjbdljhjplidmaaDoorKFnExactTableCheck1
import Derived.Test.YtjbdljhjplidmaaDoorKFnExactTableCheck2
import Derived.Test.YtjbdljhjplidmaaDoorKFnExactTableCheck3
import Derived.Test.YtjbdljhjplidmaaDoorKFnExactTableCheck4
import Derived.Test.YtjbdljhjplidmaaDoorKFnExactTableCheck8
import Derived.Test.YtjbdljhjplidmaaDoorKFnExactTableCheck9
import Derived.Test.YtjbdljhjplidmaaDoorKFnExactTableCheck10
import Derived.Test.YtjbdljhjplidmaaDoorKFnExactTableCheck11
namespace Go.Proofs.YtjbdljhjplidmaaDoor.QF
open Go.RowKit Go.Proofs.YtjbdljhjplidmaaDoorW.PrintWords Go.Proofs.YtjbdljhjplidmaaDoorW.PrintLast Go.Proofs.YtjbdljhjplidmaaDoorW.PrintMore
attribute [local go_sem] max2_int min2_int max_two min_two max_three min_three max_four min_four   -- for this text's walks alone
set_option linter.unusedVariables false
set_option linter.unusedSimpArgs false
set_option maxHeartbeats 8000000 in
set_option maxRecDepth 100000 in
theorem laws_eqSegment.calls (k : Nat) (a0_0 : ByteArray) (A0_1 : Option Addr) (c0_1 : Nat) (l0_1 : List (S65)) (a1_0 : ByteArray) (A1_1 : Option Addr) (c1_1 : Nat) (l1_1 : List (S65)) (r : Bool) (w : World) (hr0_1 : Kd.C k65 w A0_1 l0_1.length l0_1) (hc0_1 : l0_1.length ≤ c0_1) (hr1_1 : Kd.C k65 w A1_1 l1_1.length l1_1) (hc1_1 : l1_1.length ≤ c1_1) (h : laws_eqSegment.f k a0_0 l0_1 a1_0 l1_1 = some r) :
    Calls Tryd.prog 15 #[.agg #[.string a0_0, .slice A0_1 l0_1.length c0_1], .agg #[.string a1_0, .slice A1_1 l1_1.length c1_1]] w fun e w' => e = .returned (.bool r) ∧ Below w.heap.size w w' := by
  have hu36 := Tryd.underlying36; have HR0_1 := Aside0.mk hr0_1; have HC0_1 := Aside0.mk hc0_1; clear hr0_1 hc0_1; have HR1_1 := Aside0.mk hr1_1; have HC1_1 := Aside0.mk hc1_1; clear hr1_1 hc1_1; have HB := Aside0.mk (Below.refl w.heap.size w); have H : (if a0_0.toList = a1_0.toList then ((laws_eqElementS.f k l0_1 l1_1).bind fun t343 => (if t343 = true then (some true) else (some false))) else (some false)) = some r := h; clear h
  by_cases c3 : a0_0.toList = a1_0.toList
  · rw [if_pos c3] at H; have c3b0 : (a0_0.toList == a1_0.toList) = true := beq_iff_eq.mpr c3; have c3b1 : (a0_0.toList != a1_0.toList) = false := bne_eq_false_iff_eq.mpr c3; clear c3; replace H := Option.bind_eq_some_iff.mp H; obtain ⟨t343, A40, H⟩ := H; replace H : (if t343 = true then (some true) else (some false)) = some r := H; have A4 := Aside0.mk A40; clear A40
    go_enter Tryd.func15, Tryd.ntmps15
    try go_wp2_with (first | ((with_reducible refine gate_dst (N := 2) rfl ?_); refine bx 2 (cs := #[.string a0_0, .slice A0_1 l0_1.length c0_1]) (t := 36) ?_; intro gb341 hg w5 hbox hb; have BK341 := Aside0.mk (hbox); have GW341 := Aside0.mk ((gs hg (bs HB))); have GE341 := Aside0.mk ((gs hg (bs HB))); replace HB := Aside0.mk (below_step (bs HB) hb); clear hb hbox hg) | ((with_reducible refine gate_dst (N := 3) rfl ?_); refine bx 3 (cs := #[.string a1_0, .slice A1_1 l1_1.length c1_1]) (t := 36) ?_; intro gb342 hg w6 hbox hb; have BK342 := Aside0.mk (hbox); have GW342 := Aside0.mk ((gs hg (bs HB))); have GE342 := Aside0.mk ((gs hg (bs HB))); replace HB := Aside0.mk (below_step (bs HB) hb); have NB341_342 := Aside0.mk ((gn hg (ks BK341))); have NB342_341 := Aside0.mk ((gm hg (ks BK341))); replace BK341 := Aside0.mk (blk_below (ks BK341) hb); clear hb hbox hg; have hnb7 := NB341_342.out; have hnc7 := NB342_341.out; obtain ⟨hcz8_0, hcz8_1, hfz8_0, hfz8_1⟩ := cf2 BK341; obtain ⟨hcz9_0, hcz9_1, hfz9_0, hfz9_1⟩ := cf2 BK342))
    go_at_call 36; (with_reducible refine (laws_eqElementS.calls k _ _ l0_1 _ _ l1_1 t343 _ (Kd.C_below HR0_1.out (bs HB)) HC0_1.out (Kd.C_below HR1_1.out (bs HB)) HC1_1.out A4.out).mono ?_); rintro e w10 ⟨rfl, hb⟩; replace BK341 := Aside0.mk (blk_below (ks BK341) hb); replace BK342 := Aside0.mk (blk_below (ks BK342) hb); replace HB := Aside0.mk (below_step (bs HB) hb); (try clear hb); (try clear hb2); (try clear hk); (try clear hi)
    by_cases c11 : t343 = true
    · subst c11
      have H1 : (some true) = some r := by rw [if_pos rfl] at H; exact H
      clear H; have H := H1; clear H1; obtain rfl := Option.some.inj H
      go_wp2
      go_ret
      exact ⟨ff, bs HB⟩
    · replace c11 := Bool.eq_false_iff.mpr c11; subst c11
      have H1 : (some false) = some r := by rw [if_neg (show ¬ (false = true) by decide)] at H; exact H
      clear H; have H := H1; clear H1; obtain rfl := Option.some.inj H
      go_wp2
      go_ret
      exact ⟨ff, bs HB⟩
  · rw [if_neg c3] at H; have c3b0 : (a0_0.toList == a1_0.toList) = false := beq_eq_false_iff_ne.mpr c3; have c3b1 : (a0_0.toList != a1_0.toList) = true := bne_iff_ne.mpr c3; obtain rfl := Option.some.inj H
    go_enter Tryd.func15, Tryd.ntmps15
    go_wp2_with (first | ((with_reducible refine gate_dst (N := 2) rfl ?_); refine bx 2 (cs := #[.string a0_0, .slice A0_1 l0_1.length c0_1]) (t := 36) ?_; intro gb341 hg w12 hbox hb; have BK341 := Aside0.mk (hbox); have GW341 := Aside0.mk ((gs hg (bs HB))); have GE341 := Aside0.mk ((gs hg (bs HB))); replace HB := Aside0.mk (below_step (bs HB) hb); clear hb hbox hg) | ((with_reducible refine gate_dst (N := 3) rfl ?_); refine bx 3 (cs := #[.string a1_0, .slice A1_1 l1_1.length c1_1]) (t := 36) ?_; intro gb342 hg w13 hbox hb; have BK342 := Aside0.mk (hbox); have GW342 := Aside0.mk ((gs hg (bs HB))); have GE342 := Aside0.mk ((gs hg (bs HB))); replace HB := Aside0.mk (below_step (bs HB) hb); have NB341_342 := Aside0.mk ((gn hg (ks BK341))); have NB342_341 := Aside0.mk ((gm hg (ks BK341))); replace BK341 := Aside0.mk (blk_below (ks BK341) hb); clear hb hbox hg; have hnb14 := NB341_342.out; have hnc14 := NB342_341.out; obtain ⟨hcz15_0, hcz15_1, hfz15_0, hfz15_1⟩ := cf2 BK341; obtain ⟨hcz16_0, hcz16_1, hfz16_0, hfz16_1⟩ := cf2 BK342))
    go_ret
    exact ⟨ff, bs HB⟩
end Go.Proofs.YtjbdljhjplidmaaDoor.QF
namespace Go.Proofs.YtjbdljhjplidmaaDoor.QF
open Go.RowKit Go.Proofs.YtjbdljhjplidmaaDoorW.PrintWords Go.Proofs.YtjbdljhjplidmaaDoorW.PrintLast Go.Proofs.YtjbdljhjplidmaaDoorW.PrintMore
attribute [local go_sem] max2_int min2_int max_two min_two max_three min_three max_four min_four   -- for this text's walks alone
set_option linter.unusedVariables false
set_option linter.unusedSimpArgs false
def laws_eqSegmentS.T6 : Bool × List (List Nat × List Nat) := (true, [([], []), ([], []), ([0, 1], [0, 1]), ([2], [2]), ([], []), ([], []), ([4, 5], [4, 5]), ([6], [6]), ([3, 7], [3, 7]), ([8], [8])])
def laws_eqSegmentS.B6 : List Nat := [0, 0, 3, 7, 0, 0, 48, 112, 255, 511]
theorem laws_eqSegmentS.tab6 : rtab .any (opsOf Tryd.f21 6) = laws_eqSegmentS.T6 := by kernel_rfl
theorem laws_eqSegmentS.bits6 : waitsOk laws_eqSegmentS.T6.2 laws_eqSegmentS.B6 = true := by kernel_rfl
set_option maxHeartbeats 8000000 in
set_option maxRecDepth 100000 in
theorem laws_eqSegmentS.calls (k : Nat) (A0 : Option Addr) (c0 : Nat) (l0 : List (S36)) (A1 : Option Addr) (c1 : Nat) (l1 : List (S36)) (r : Bool) (w : World) (hr0 : Kd.C k36 w A0 l0.length l0) (hc0 : l0.length ≤ c0) (hr1 : Kd.C k36 w A1 l1.length l1) (hc1 : l1.length ≤ c1) (h : laws_eqSegmentS.f k l0 l1 = some r) :
    Calls Tryd.prog 21 #[.slice A0 l0.length c0, .slice A1 l1.length c1] w fun e w' => e = .returned (.bool r) ∧ Below w.heap.size w w' := by
  have hu36 := Tryd.underlying36; have HR0 := Aside0.mk hr0; have HC0 := Aside0.mk hc0; clear hr0 hc0; have HR1 := Aside0.mk hr1; have HC1 := Aside0.mk hc1; clear hr1 hc1; have HB := Aside0.mk (Below.refl w.heap.size w); have H : (if (l0.length : Int) = (l1.length : Int) then (laws_eqSegmentS.l0 k l0 l1 0) else (some false)) = some r := h; clear h
  by_cases c3 : (l0.length : Int) = (l1.length : Int)
  · rw [if_pos c3] at H; have c3b0 : ((l0.length : Int) == (l1.length : Int)) = true := beq_iff_eq.mpr c3; have c3b1 : ((l0.length : Int) != (l1.length : Int)) = false := bne_eq_false_iff_eq.mpr c3
    have c3b2 : (l0.length == l1.length) = true := by first | simpa using c3 | (simp at c3 ⊢; omega)
    clear c3; have H' := Aside0.mk H; clear H
    go_enter Tryd.func21, Tryd.ntmps21
    go_wp2
    go_loopg [5] k (fun kq v5 w' => ∃ (x5_1 : Int), v5 = .int .i64 x5_1 ∧ Aside0 (laws_eqSegmentS.l0 kq l0 l1 x5_1 = some r) ∧ Aside0 (kq ≤ k) ∧ Aside0 (Below w.heap.size w w'))
    case atStart => exact ⟨(0), fg, H', ⟨Nat.le_refl _⟩, ⟨bs HB⟩⟩
    case round =>
      clear H'
      try clear c1
      try clear c2
      try clear p2
      try clear c3
      try clear c3b0
      try clear c3b1
      try clear c3b2
      obtain ⟨x5_1, rfl, HA, HK1, HB⟩ := hrel
      cases gk with
      | zero => exact absurd HA.out (by simp [laws_eqSegmentS.l0])
      | succ k1 =>
        have H := HA.out; clear HA; simp only [laws_eqSegmentS.l0] at H
        by_cases c4 : x5_1 < (l0.length : Int)
        · rw [if_pos c4] at H; have c4b0 : decide (x5_1 < (l0.length : Int)) = true := decide_eq_true c4; clear c4
          by_cases c5 : 0 ≤ x5_1
          · rw [if_pos c5] at H; have c5b0 : decide (0 ≤ x5_1) = true := decide_eq_true c5; clear c5
            by_cases c6 : x5_1 < (l1.length : Int)
            · rw [if_pos c6] at H; have c6b0 : decide (x5_1 < (l1.length : Int)) = true := decide_eq_true c6; clear c6; replace H := Option.bind_eq_some_iff.mp H; obtain ⟨t346, A70, H⟩ := H; replace H : (if t346 = true then (laws_eqSegmentS.l0 k1 l0 l1 (wrap64 (x5_1 + 1))) else (some false)) = some r := H; have A7 := Aside0.mk A70; clear A70
              by_cases c8 : t346 = true
              · subst c8
                have H1 : (laws_eqSegmentS.l0 k1 l0 l1 (wrap64 (x5_1 + 1))) = some r := by rw [if_pos rfl] at H; exact H
                clear H; have H := H1; clear H1; have H' := Aside0.mk H; clear H
                try go_wp2
                replace HB := Aside0.mk (below_drew1 HB.out); have p344 : 0 ≤ (x5_1 : Int) := oa; have q344 : x5_1 < (l0.length : Int) := oa; obtain ⟨ad344, A344_1, c344_1, e344, hx344_0, hx344_1, hl344_1, hi344_1⟩ := at_T36 HR0.out x5_1 p344 q344; have hw344_1 := hx344_1; have hw344_0 := hx344_0
                cases e344
                replace hx344_0 := cb HB hx344_0; replace hx344_1 := cb HB hx344_1; have HR344_1 := Aside0.mk hi344_1; have HC344_1 := Aside0.mk hl344_1; clear hi344_1 hl344_1; replace p344 := eq_true p344; replace q344 := eq_true q344; have p345 : 0 ≤ (x5_1 : Int) := oa; have q345 : x5_1 < (l1.length : Int) := oa; obtain ⟨ad345, A345_1, c345_1, e345, hx345_0, hx345_1, hl345_1, hi345_1⟩ := at_T36 HR1.out x5_1 p345 q345; have hw345_1 := hx345_1; have hw345_0 := hx345_0
                cases e345
                replace hx345_0 := cb HB hx345_0; replace hx345_1 := cb HB hx345_1; have HR345_1 := Aside0.mk hi345_1; have HC345_1 := Aside0.mk hl345_1; clear hi345_1 hl345_1; replace p345 := eq_true p345; replace q345 := eq_true q345; refine start_ (n := 10) (S := fun w' => w'.cell? (ad344.add ((x5_1).toNat * 2)) = some (.string ((rd_T36 l0 x5_1).f0)) ∧ w'.cell? ⟨(ad344.add ((x5_1).toNat * 2)).block, (ad344.add ((x5_1).toNat * 2)).off + 1, none⟩ = some (.slice A344_1 ((rd_T36 l0 x5_1).f1).length c344_1) ∧ w'.cell? (ad345.add ((x5_1).toNat * 2)) = some (.string ((rd_T36 l1 x5_1).f0)) ∧ w'.cell? ⟨(ad345.add ((x5_1).toNat * 2)).block, (ad345.add ((x5_1).toNat * 2)).off + 1, none⟩ = some (.slice A345_1 ((rd_T36 l1 x5_1).f1).length c345_1)) (ds := []) #[false, false, false, false, false, false, false, false, false, false] (by kernel_rfl) rfl rfl ⟨((cb HB hw344_0).trans rfl), ((cb HB hw344_1).trans rfl), ((cb HB hw345_0).trans rfl), ((cb HB hw345_1).trans rfl)⟩ (fun hHeld => ?_); refine with_tabW laws_eqSegmentS.tab6 laws_eqSegmentS.bits6 (fun HT_ HW_ => ?_)
                generalize wr.drew = w9 at HB HR344_1 HR345_1 hx344_0 hx344_1 hx345_0 hx345_1 hHeld ⊢
                refine pA 0 17 HT_ ?_; refine pA 1 18 HT_ ?_; refine pA 2 19 HT_ ?_; refine pA 4 21 HT_ ?_; refine pA 5 22 HT_ ?_; refine pA 6 23 HT_ ?_; refine tA 3 20 HT_ HW_ hHeld ?_; refine tA 7 24 HT_ HW_ hHeld ?_; refine oA 8 25 HT_ (fun K hK => ?_); refine gA Tryd.func15 #[.agg #[.string ((rd_T36 l0 x5_1).f0), .slice A344_1 ((rd_T36 l0 x5_1).f1).length c344_1], .agg #[.string ((rd_T36 l1 x5_1).f0), .slice A345_1 ((rd_T36 l1 x5_1).f1).length c345_1]] ?_; (with_reducible refine (laws_eqSegment.calls k1 ((rd_T36 l0 x5_1).f0) _ _ ((rd_T36 l0 x5_1).f1) ((rd_T36 l1 x5_1).f0) _ _ ((rd_T36 l1 x5_1).f1) true _ ?side1 ?side2 ?side3 ?side4 A7.out).mono ?_)
                (case side1 => repeat (first | exact (Kd.C_below HR344_1.out HB.out) | (with_reducible refine Kd.C_alloc ?_ _) | (with_reducible refine Kd.C_drewN ?_ _) | (with_reducible refine Kd.C_drew ?_)))
                (case side2 => exact HC344_1.out)
                (case side3 => repeat (first | exact (Kd.C_below HR345_1.out HB.out) | (with_reducible refine Kd.C_alloc ?_ _) | (with_reducible refine Kd.C_drewN ?_ _) | (with_reducible refine Kd.C_drew ?_)))
                (case side4 => exact HC345_1.out)
                rintro e w10 ⟨rfl, hb⟩; refine ⟨_, rfl, ?_⟩; replace HB := Aside0.mk (below_step (bs HB) hb); (try clear hb); (try clear hb2); (try clear hk); (try clear hi); refine hK.out _ _ ⟨((cb HB hw344_0).trans rfl), ((cb HB hw344_1).trans rfl), ((cb HB hw345_0).trans rfl), ((cb HB hw345_1).trans rfl)⟩ (fun hHeld => ?_); clear hK K; refine nA 25 ?_; refine pA 9 26 HT_ ?_; refine done_ (done_of HT_.out (by kernel_rfl)) ?_
                try go_wp2
                go_roundg k1
                case measure => have := HK1.out; omega
                case rel => exact ⟨(wrap64 (x5_1 + 1)), fg, H', ⟨by have := HK1.out; omega⟩, ⟨bs HB⟩⟩
              · replace c8 := Bool.eq_false_iff.mpr c8; subst c8
                have H1 : (some false) = some r := by rw [if_neg (show ¬ (false = true) by decide)] at H; exact H
                clear H; have H := H1; clear H1; obtain rfl := Option.some.inj H
                try go_wp2
                replace HB := Aside0.mk (below_drew1 HB.out); have p344 : 0 ≤ (x5_1 : Int) := oa; have q344 : x5_1 < (l0.length : Int) := oa; obtain ⟨ad344, A344_1, c344_1, e344, hx344_0, hx344_1, hl344_1, hi344_1⟩ := at_T36 HR0.out x5_1 p344 q344; have hw344_1 := hx344_1; have hw344_0 := hx344_0
                cases e344
                replace hx344_0 := cb HB hx344_0; replace hx344_1 := cb HB hx344_1; have HR344_1 := Aside0.mk hi344_1; have HC344_1 := Aside0.mk hl344_1; clear hi344_1 hl344_1; replace p344 := eq_true p344; replace q344 := eq_true q344; have p345 : 0 ≤ (x5_1 : Int) := oa; have q345 : x5_1 < (l1.length : Int) := oa; obtain ⟨ad345, A345_1, c345_1, e345, hx345_0, hx345_1, hl345_1, hi345_1⟩ := at_T36 HR1.out x5_1 p345 q345; have hw345_1 := hx345_1; have hw345_0 := hx345_0
                cases e345
                replace hx345_0 := cb HB hx345_0; replace hx345_1 := cb HB hx345_1; have HR345_1 := Aside0.mk hi345_1; have HC345_1 := Aside0.mk hl345_1; clear hi345_1 hl345_1; replace p345 := eq_true p345; replace q345 := eq_true q345; refine start_ (n := 10) (S := fun w' => w'.cell? (ad344.add ((x5_1).toNat * 2)) = some (.string ((rd_T36 l0 x5_1).f0)) ∧ w'.cell? ⟨(ad344.add ((x5_1).toNat * 2)).block, (ad344.add ((x5_1).toNat * 2)).off + 1, none⟩ = some (.slice A344_1 ((rd_T36 l0 x5_1).f1).length c344_1) ∧ w'.cell? (ad345.add ((x5_1).toNat * 2)) = some (.string ((rd_T36 l1 x5_1).f0)) ∧ w'.cell? ⟨(ad345.add ((x5_1).toNat * 2)).block, (ad345.add ((x5_1).toNat * 2)).off + 1, none⟩ = some (.slice A345_1 ((rd_T36 l1 x5_1).f1).length c345_1)) (ds := []) #[false, false, false, false, false, false, false, false, false, false] (by kernel_rfl) rfl rfl ⟨((cb HB hw344_0).trans rfl), ((cb HB hw344_1).trans rfl), ((cb HB hw345_0).trans rfl), ((cb HB hw345_1).trans rfl)⟩ (fun hHeld => ?_); refine with_tabW laws_eqSegmentS.tab6 laws_eqSegmentS.bits6 (fun HT_ HW_ => ?_)
                generalize wr.drew = w11 at HB HR344_1 HR345_1 hx344_0 hx344_1 hx345_0 hx345_1 hHeld ⊢
                refine pA 0 17 HT_ ?_; refine pA 1 18 HT_ ?_; refine pA 2 19 HT_ ?_; refine pA 4 21 HT_ ?_; refine pA 5 22 HT_ ?_; refine pA 6 23 HT_ ?_; refine tA 3 20 HT_ HW_ hHeld ?_; refine tA 7 24 HT_ HW_ hHeld ?_; refine oA 8 25 HT_ (fun K hK => ?_); refine gA Tryd.func15 #[.agg #[.string ((rd_T36 l0 x5_1).f0), .slice A344_1 ((rd_T36 l0 x5_1).f1).length c344_1], .agg #[.string ((rd_T36 l1 x5_1).f0), .slice A345_1 ((rd_T36 l1 x5_1).f1).length c345_1]] ?_; (with_reducible refine (laws_eqSegment.calls k1 ((rd_T36 l0 x5_1).f0) _ _ ((rd_T36 l0 x5_1).f1) ((rd_T36 l1 x5_1).f0) _ _ ((rd_T36 l1 x5_1).f1) false _ ?side1 ?side2 ?side3 ?side4 A7.out).mono ?_)
                (case side1 => repeat (first | exact (Kd.C_below HR344_1.out HB.out) | (with_reducible refine Kd.C_alloc ?_ _) | (with_reducible refine Kd.C_drewN ?_ _) | (with_reducible refine Kd.C_drew ?_)))
                (case side2 => exact HC344_1.out)
                (case side3 => repeat (first | exact (Kd.C_below HR345_1.out HB.out) | (with_reducible refine Kd.C_alloc ?_ _) | (with_reducible refine Kd.C_drewN ?_ _) | (with_reducible refine Kd.C_drew ?_)))
                (case side4 => exact HC345_1.out)
                rintro e w12 ⟨rfl, hb⟩; refine ⟨_, rfl, ?_⟩; replace HB := Aside0.mk (below_step (bs HB) hb); (try clear hb); (try clear hb2); (try clear hk); (try clear hi); refine hK.out _ _ ⟨((cb HB hw344_0).trans rfl), ((cb HB hw344_1).trans rfl), ((cb HB hw345_0).trans rfl), ((cb HB hw345_1).trans rfl)⟩ (fun hHeld => ?_); clear hK K; refine nA 25 ?_; refine pA 9 26 HT_ ?_; refine done_ (done_of HT_.out (by kernel_rfl)) ?_
                try go_wp2
                go_ret
                exact ⟨ff, bs HB⟩
            · rw [if_neg c6] at H
              exact absurd H (by simp)
          · rw [if_neg c5] at H
            exact absurd H (by simp)
        · rw [if_neg c4] at H; have c4b0 : decide (x5_1 < (l0.length : Int)) = false := decide_eq_false c4; clear c4; obtain rfl := Option.some.inj H
          go_wp2
          go_ret
          exact ⟨ff, bs HB⟩
  · rw [if_neg c3] at H; have c3b0 : ((l0.length : Int) == (l1.length : Int)) = false := beq_eq_false_iff_ne.mpr c3; have c3b1 : ((l0.length : Int) != (l1.length : Int)) = true := bne_iff_ne.mpr c3
    have c3b2 : (l0.length == l1.length) = false := by first | simpa using c3 | (simp at c3 ⊢; omega)
    obtain rfl := Option.some.inj H
    go_enter Tryd.func21, Tryd.ntmps21
    go_wp2
    go_ret
    exact ⟨ff, bs HB⟩
end Go.Proofs.YtjbdljhjplidmaaDoor.QF
namespace Go.Proofs.YtjbdljhjplidmaaDoor.QF
open Go.RowKit Go.Proofs.YtjbdljhjplidmaaDoorW.PrintWords Go.Proofs.YtjbdljhjplidmaaDoorW.PrintLast Go.Proofs.YtjbdljhjplidmaaDoorW.PrintMore
attribute [local go_sem] max2_int min2_int max_two min_two max_three min_three max_four min_four   -- for this text's walks alone
set_option linter.unusedVariables false
set_option linter.unusedSimpArgs false
set_option maxHeartbeats 8000000 in
set_option maxRecDepth 100000 in
theorem laws_FnExactTableCheck.calls (k : Nat) (a0 : Int) (A1 : Option Addr) (c1 : Nat) (l1 : List (S31)) (r : Bool) (w : World) (hr1 : Kd.C k31 w A1 l1.length l1) (hc1 : l1.length ≤ c1) (hTC : TbC w) (hTP : TbP w) (h : laws_FnExactTableCheck.f k a0 l1 = some r) :
    Calls Tryd.prog 5 #[.int .i64 a0, .slice A1 l1.length c1] w fun e w' => e = .returned (.bool r) ∧ Below w.heap.size w w' := by
  have HTC := Aside0.mk hTC; clear hTC; have HTP := Aside0.mk hTP; clear hTP
  have hu43 := Tryd.underlying43; have HR1 := Aside0.mk hr1; have HC1 := Aside0.mk hc1; clear hr1 hc1; have HB := Aside0.mk (Below.refl w.heap.size w); have H : ((laws_szSegmentS.f k l1 1048576).bind fun t347 => (if t347 < 0 then (some true) else ((laws_toSegmentS.f k l1).bind fun t348 => ((spec_TableCheck.f k a0 t348).bind fun bt351 => ((laws_toSegmentS.f k l1).bind fun t355 => ((impl_TableCheck.f k a0 t355).bind fun bt358 => ((laws_eqTableOut.f bt358.1 bt358.2.1 bt358.2.2 bt351.1 bt351.2.1 bt351.2.2).bind fun t362 => (if t362 = true then ((laws_toSegmentS.f k l1).bind fun t363 => ((laws_eqSegmentS.f k t355 t363).bind fun t366 => (if t366 = true then (some true) else (some false)))) else (some false))))))))) = some r := h; clear h; replace H := Option.bind_eq_some_iff.mp H; obtain ⟨t347, A30, H⟩ := H; replace H : (if t347 < 0 then (some true) else ((laws_toSegmentS.f k l1).bind fun t348 => ((spec_TableCheck.f k a0 t348).bind fun bt351 => ((laws_toSegmentS.f k l1).bind fun t355 => ((impl_TableCheck.f k a0 t355).bind fun bt358 => ((laws_eqTableOut.f bt358.1 bt358.2.1 bt358.2.2 bt351.1 bt351.2.1 bt351.2.2).bind fun t362 => (if t362 = true then ((laws_toSegmentS.f k l1).bind fun t363 => ((laws_eqSegmentS.f k t355 t363).bind fun t366 => (if t366 = true then (some true) else (some false)))) else (some false)))))))) = some r := H; have A3 := Aside0.mk A30; clear A30
  go_enter Tryd.func5, Tryd.ntmps5
  try go_wp2_with (fail)
  go_at_call 16; (with_reducible refine (laws_szSegmentS.calls k _ _ l1 1048576 t347 _ ?side1 HC1.out A3.out).mono ?_); (case side1 => repeat (first | exact HR1.out | (with_reducible refine Kd.C_alloc ?_ _) | (with_reducible refine Kd.C_drewN ?_ _) | (with_reducible refine Kd.C_drew ?_))); rintro e w4 ⟨rfl, hb⟩; replace HB := Aside0.mk (below_step (bs HB) hb); (try clear hb); (try clear hb2); (try clear hk); (try clear hi)
  by_cases c5 : t347 < 0
  · rw [if_pos c5] at H; have c5b0 : decide (t347 < 0) = true := decide_eq_true c5; clear c5; obtain rfl := Option.some.inj H
    go_wp2
    go_ret
    exact ⟨ff, bs HB⟩
  · rw [if_neg c5] at H; have c5b0 : decide (t347 < 0) = false := decide_eq_false c5; clear c5; replace H := Option.bind_eq_some_iff.mp H; obtain ⟨t348, A60, H⟩ := H; replace H : ((spec_TableCheck.f k a0 t348).bind fun bt351 => ((laws_toSegmentS.f k l1).bind fun t355 => ((impl_TableCheck.f k a0 t355).bind fun bt358 => ((laws_eqTableOut.f bt358.1 bt358.2.1 bt358.2.2 bt351.1 bt351.2.1 bt351.2.2).bind fun t362 => (if t362 = true then ((laws_toSegmentS.f k l1).bind fun t363 => ((laws_eqSegmentS.f k t355 t363).bind fun t366 => (if t366 = true then (some true) else (some false)))) else (some false)))))) = some r := H; have A6 := Aside0.mk A60; clear A60
    try go_wp2_with (fail)
    go_at_call 18; (with_reducible refine (laws_toSegmentS.calls k _ _ l1 t348 _ (Kd.C_below HR1.out (bs HB)) HC1.out A6.out).mono ?_); rintro e w7 ⟨v349, rfl, ho0, hb⟩; have HO350 := Aside0.mk (Kd.R_lower ho0 (below_size (bs HB))); replace HB := Aside0.mk (below_step (bs HB) hb); (try clear hb); (try clear hb2); (try clear hk); (try clear hi); (try clear ho0); replace H := Option.bind_eq_some_iff.mp H; obtain ⟨⟨t351, t352, t353⟩, A80, H⟩ := H; replace H : ((laws_toSegmentS.f k l1).bind fun t355 => ((impl_TableCheck.f k a0 t355).bind fun bt358 => ((laws_eqTableOut.f bt358.1 bt358.2.1 bt358.2.2 t351 t352 t353).bind fun t362 => (if t362 = true then ((laws_toSegmentS.f k l1).bind fun t363 => ((laws_eqSegmentS.f k t355 t363).bind fun t366 => (if t366 = true then (some true) else (some false)))) else (some false))))) = some r := H; have A8 := Aside0.mk A80; clear A80; obtain ⟨Ao9, co9, eo9⟩ := Kd.R_slice HO350.out; subst eo9
    try go_wp2_with (fail)
    go_at_call 17; (with_reducible refine (spec_TableCheck.calls k a0 _ _ t348 t351 t352 t353 _ ?side1 ?side2 A8.out).mono ?_); (case side1 => repeat (first | exact (Kd.R_reads' HO350.out).2.2 | (with_reducible refine Kd.C_alloc ?_ _) | (with_reducible refine Kd.C_drewN ?_ _) | (with_reducible refine Kd.C_drew ?_))); (case side2 => exact (Kd.R_reads' HO350.out).2.1); rintro e w10 ⟨rfl, hb⟩; replace HO350 := Aside0.mk (Kd.R_below (rs HO350) hb); replace HB := Aside0.mk (below_step (bs HB) hb); (try clear hb); (try clear hb2); (try clear hk); (try clear hi); replace H := Option.bind_eq_some_iff.mp H; obtain ⟨t355, A110, H⟩ := H; replace H : ((impl_TableCheck.f k a0 t355).bind fun bt358 => ((laws_eqTableOut.f bt358.1 bt358.2.1 bt358.2.2 t351 t352 t353).bind fun t362 => (if t362 = true then ((laws_toSegmentS.f k l1).bind fun t363 => ((laws_eqSegmentS.f k t355 t363).bind fun t366 => (if t366 = true then (some true) else (some false)))) else (some false)))) = some r := H; have A11 := Aside0.mk A110; clear A110
    try go_wp2_with (first | ((with_reducible refine gate_dst (N := 6) rfl ?_); refine bx 6 (cs := #[.int .i64 0, .int .i64 0, .int .i64 0]) (t := 43) ?_; intro gb354 hg w12 hbox hb; replace HO350 := Aside0.mk (Kd.R_below (rs HO350) hb); have BK354 := Aside0.mk (hbox); have GW354 := Aside0.mk ((gs hg (bs HB))); have GE354 := Aside0.mk ((gs hg (bs HB))); replace HB := Aside0.mk (below_step (bs HB) hb); clear hb hbox hg; obtain ⟨hcz13_0, hcz13_1, hcz13_2, hfz13_0, hfz13_1, hfz13_2⟩ := cf3 BK354))
    go_at_call 18; (with_reducible refine (laws_toSegmentS.calls k _ _ l1 t355 _ ?side1 HC1.out A11.out).mono ?_); (case side1 => exact Kd.C_below HR1.out (bs HB)); rintro e w14 ⟨v356, rfl, ho0, hb⟩; have n0_ := Aside0.mk (Kd.R_elder' (by (with_reducible repeat (first | apply Kd.R_alloc | apply Kd.R_drewN | apply Kd.R_drew)); exact (Kd.R_mono (rf (Kd.R_types HO350.out BK354.out (by decide))) (fun _ h_ => h_.1))) (Kd.R_base ho0) hb); have n1_ := Aside0.mk (Kd.R_lower (Kd.R_new' ho0 (Kd.R_lt (by (with_reducible repeat (first | apply Kd.R_alloc | apply Kd.R_drewN | apply Kd.R_drew)); exact (Kd.R_mono (rf (Kd.R_types HO350.out BK354.out (by decide))) (fun _ h_ => h_.1))))) (below_size (bs HB))); have n2_ := Aside0.mk (blk_below (g := gb354) (o := .cells #[.int .i64 t351, .int .i64 t352, .int .i64 t353] 43 (0, 0)) (kp BK354) hb); have n3_ := Aside0.mk (below_step (bs HB) hb); clear HO350; clear BK354; clear HB; have HO350 := n0_; have HO357 := n1_; have BK354 := n2_; have HB := n3_; clear n0_ n1_ n2_ n3_; (try clear hb); (try clear hb2); (try clear hk); (try clear hi); (try clear ho0); replace H := Option.bind_eq_some_iff.mp H; obtain ⟨⟨t358, t359, t360⟩, A150, H⟩ := H; replace H : ((laws_eqTableOut.f t358 t359 t360 t351 t352 t353).bind fun t362 => (if t362 = true then ((laws_toSegmentS.f k l1).bind fun t363 => ((laws_eqSegmentS.f k t355 t363).bind fun t366 => (if t366 = true then (some true) else (some false)))) else (some false))) = some r := H; have A15 := Aside0.mk A150; clear A150; obtain ⟨Ao16, co16, eo16⟩ := Kd.R_slice HO357.out; subst eo16
    try go_wp2_with (fail)
    go_at_call 19; (with_reducible refine (impl_TableCheck.calls k a0 _ _ t355 t358 t359 t360 _ ?side1 ?side2 (tbC HTC (bs HB)) (tbP HTP (bs HB)) A15.out).mono ?_); (case side1 => repeat (first | exact (Kd.R_reads' HO357.out).2.2 | (with_reducible refine Kd.C_alloc ?_ _) | (with_reducible refine Kd.C_drewN ?_ _) | (with_reducible refine Kd.C_drew ?_))); (case side2 => exact (Kd.R_reads' HO357.out).2.1); rintro e w17 ⟨rfl, hb⟩; replace HO350 := Aside0.mk (Kd.R_below (rs HO350) hb); replace HO357 := Aside0.mk (Kd.R_below (rs HO357) hb); replace BK354 := Aside0.mk (blk_below (ks BK354) hb); replace HB := Aside0.mk (below_step (bs HB) hb); (try clear hb); (try clear hb2); (try clear hk); (try clear hi); replace H := Option.bind_eq_some_iff.mp H; obtain ⟨t362, A180, H⟩ := H; replace H : (if t362 = true then ((laws_toSegmentS.f k l1).bind fun t363 => ((laws_eqSegmentS.f k t355 t363).bind fun t366 => (if t366 = true then (some true) else (some false)))) else (some false)) = some r := H; have A18 := Aside0.mk A180; clear A180
    try go_wp2_with (first | ((with_reducible refine gate_dst (N := 8) rfl ?_); refine bx 8 (cs := #[.int .i64 0, .int .i64 0, .int .i64 0]) (t := 43) ?_; intro gb361 hg w19 hbox hb; replace HO350 := Aside0.mk (Kd.R_below (rs HO350) hb); replace HO357 := Aside0.mk (Kd.R_below (rs HO357) hb); have BK361 := Aside0.mk (hbox); have GW361 := Aside0.mk ((gs hg (bs HB))); have GE361 := Aside0.mk ((gs hg (bs HB))); replace HB := Aside0.mk (below_step (bs HB) hb); have NB354_361 := Aside0.mk ((gn hg (ks BK354))); have NB361_354 := Aside0.mk ((gm hg (ks BK354))); replace BK354 := Aside0.mk (blk_below (ks BK354) hb); clear hb hbox hg; have hnb20 := NB361_354.out; have hnc20 := NB354_361.out; obtain ⟨hcz21_0, hcz21_1, hcz21_2, hfz21_0, hfz21_1, hfz21_2⟩ := cf3 BK361; obtain ⟨hcz22_0, hcz22_1, hcz22_2, hfz22_0, hfz22_1, hfz22_2⟩ := cf3 BK354))
    go_at_call 20; (with_reducible refine (laws_eqTableOut.calls t358 t359 t360 t351 t352 t353 t362 _ A18.out).mono ?_); rintro e w23 ⟨rfl, hb⟩; have n0_ := Aside0.mk (Kd.R_below (by (with_reducible repeat (first | apply Kd.R_alloc | apply Kd.R_drewN | apply Kd.R_drew)); exact (Kd.R_mono (rf (Kd.R_types HO350.out BK361.out (by decide))) (fun _ h_ => h_.1))) hb); have n1_ := Aside0.mk (Kd.R_below (by (with_reducible repeat (first | apply Kd.R_alloc | apply Kd.R_drewN | apply Kd.R_drew)); exact (Kd.R_mono (rf (Kd.R_types HO357.out BK361.out (by decide))) (fun _ h_ => h_.1))) hb); have n2_ := Aside0.mk (blk_below (ks BK354) hb); have n3_ := Aside0.mk (blk_below (g := gb361) (o := .cells #[.int .i64 t358, .int .i64 t359, .int .i64 t360] 43 (0, 0)) (kp BK361) hb); have n4_ := Aside0.mk (below_step (bs HB) hb); clear HO350; clear HO357; clear BK354; clear BK361; clear HB; have HO350 := n0_; have HO357 := n1_; have BK354 := n2_; have BK361 := n3_; have HB := n4_; clear n0_ n1_ n2_ n3_ n4_; (try clear hb); (try clear hb2); (try clear hk); (try clear hi)
    by_cases c24 : t362 = true
    · subst c24
      have H1 : ((laws_toSegmentS.f k l1).bind fun t363 => ((laws_eqSegmentS.f k t355 t363).bind fun t366 => (if t366 = true then (some true) else (some false)))) = some r := by rw [if_pos rfl] at H; exact H
      clear H; have H := H1; clear H1; replace H := Option.bind_eq_some_iff.mp H; obtain ⟨t363, A250, H⟩ := H; replace H : ((laws_eqSegmentS.f k t355 t363).bind fun t366 => (if t366 = true then (some true) else (some false))) = some r := H; have A25 := Aside0.mk A250; clear A250
      try go_wp2_with (fail)
      go_at_call 18; (with_reducible refine (laws_toSegmentS.calls k _ _ l1 t363 _ (Kd.C_below HR1.out (bs HB)) HC1.out A25.out).mono ?_); rintro e w26 ⟨v364, rfl, ho0, hb⟩; have HO365 := Aside0.mk (Kd.R_lower (Kd.R_new' (Kd.R_new' ho0 (Kd.R_lt (rs HO350))) (Kd.R_lt (rs HO357))) (below_size (bs HB))); replace HO350 := Aside0.mk (Kd.R_elder' (rs HO350) (Kd.R_base ho0) hb); replace HO357 := Aside0.mk (Kd.R_elder' (rs HO357) (Kd.R_base ho0) hb); replace BK354 := Aside0.mk (blk_below (ks BK354) hb); replace BK361 := Aside0.mk (blk_below (ks BK361) hb); replace HB := Aside0.mk (below_step (bs HB) hb); (try clear hb); (try clear hb2); (try clear hk); (try clear hi); (try clear ho0); replace H := Option.bind_eq_some_iff.mp H; obtain ⟨t366, A270, H⟩ := H; replace H : (if t366 = true then (some true) else (some false)) = some r := H; have A27 := Aside0.mk A270; clear A270; obtain ⟨Ao28, co28, eo28⟩ := Kd.R_slice HO365.out; subst eo28
      try go_wp2_with (fail)
      go_at_call 21; (with_reducible refine (laws_eqSegmentS.calls k _ _ t355 _ _ t363 t366 _ ?side1 ?side2 ?side3 ?side4 A27.out).mono ?_); (case side1 => repeat (first | exact (Kd.R_reads' HO357.out).2.2 | (with_reducible refine Kd.C_alloc ?_ _) | (with_reducible refine Kd.C_drewN ?_ _) | (with_reducible refine Kd.C_drew ?_))); (case side2 => exact (Kd.R_reads' HO357.out).2.1); (case side3 => repeat (first | exact (Kd.R_reads' HO365.out).2.2 | (with_reducible refine Kd.C_alloc ?_ _) | (with_reducible refine Kd.C_drewN ?_ _) | (with_reducible refine Kd.C_drew ?_))); (case side4 => exact (Kd.R_reads' HO365.out).2.1); rintro e w29 ⟨rfl, hb⟩; replace HO350 := Aside0.mk (Kd.R_below (rs HO350) hb); replace HO357 := Aside0.mk (Kd.R_below (rs HO357) hb); replace HO365 := Aside0.mk (Kd.R_below (rs HO365) hb); replace BK354 := Aside0.mk (blk_below (ks BK354) hb); replace BK361 := Aside0.mk (blk_below (ks BK361) hb); replace HB := Aside0.mk (below_step (bs HB) hb); (try clear hb); (try clear hb2); (try clear hk); (try clear hi)
      by_cases c30 : t366 = true
      · subst c30
        have H1 : (some true) = some r := by rw [if_pos rfl] at H; exact H
        clear H; have H := H1; clear H1; obtain rfl := Option.some.inj H
        go_wp2
        go_ret
        exact ⟨ff, bs HB⟩
      · replace c30 := Bool.eq_false_iff.mpr c30; subst c30
        have H1 : (some false) = some r := by rw [if_neg (show ¬ (false = true) by decide)] at H; exact H
        clear H; have H := H1; clear H1; obtain rfl := Option.some.inj H
        go_wp2
        go_ret
        exact ⟨ff, bs HB⟩
    · replace c24 := Bool.eq_false_iff.mpr c24; subst c24
      have H1 : (some false) = some r := by rw [if_neg (show ¬ (false = true) by decide)] at H; exact H
      clear H; have H := H1; clear H1; obtain rfl := Option.some.inj H
      go_wp2
      go_ret
      exact ⟨ff, bs HB⟩
end Go.Proofs.YtjbdljhjplidmaaDoor.QF
namespace Go.Proofs.YtjbdljhjplidmaaDoor.Rd
open Go.RowKit Go.ChangeShapes Go.WideShapes Go.Proofs.YtjbdljhjplidmaaDoorW.PrintWords
def Rd (P : Program) (t : TypeId) {α : Type} (d : Kd α) (wf : α → Prop) : Prop :=
  ∀ (H : Type) (enc : TypeId × Value → H) (w : World) (base : Nat) (sp : Nat → Bool) (held : Bool) (fuel : Nat) (cs : List Value) (x : DataW H × List MemPlace),
    DataW.trod enc P w base sp held fuel t cs = some x → ∃ a : α, d.K w a cs ∧ wf a
def RdF (P : Program) (fs : List Field) (off : Nat) {α : Type} (d : Kd α) (wf : α → Prop) : Prop :=
  ∀ (H : Type) (enc : TypeId × Value → H) (w : World) (base : Nat) (sp : Nat → Bool) (held : Bool) (n : Nat) (cs : List Value),
    cs.length = off + d.sz → (∀ f ∈ fs, ∃ y, DataW.trod enc P w base sp held n f.type ((cs.drop f.offset).take (P.cellsOf f.type)) = some y) → ∃ a : α, d.K w a (cs.drop off) ∧ wf a
def WfInt (k : IntKind) (n : Int) : Prop := (Lit.int k n).wf = true
def WfStr (s : ByteArray) : Prop := s.size ≤ maxLen
def WfRow {α : Type} (wf : α → Prop) (l : List α) : Prop := l.length ≤ maxLen ∧ ∀ x ∈ l, wf x
theorem rd_str {P : Program} {t : TypeId} (hu : P.underlying t = some .string) : Rd P t Kd.string WfStr := by
  intro H enc w base sp held fuel cs x h
  cases fuel with
  | zero => simp [DataW.trod] at h
  | succ n =>
    match cs with
    | [.string s] =>
      simp only [DataW.trod, hu] at h
      split at h
      · rename_i hk
        exact ⟨s, rfl, hk⟩
      · cases h
    | [] => simp [DataW.trod, hu] at h
    | [.int _ _] => simp [DataW.trod, hu] at h
    | [.bool _] => simp [DataW.trod, hu] at h
    | [.float _ _] => simp [DataW.trod, hu] at h
    | [.complex _ _ _] => simp [DataW.trod, hu] at h
    | [.pointer _] => simp [DataW.trod, hu] at h
    | [.slice _ _ _] => simp [DataW.trod, hu] at h
    | [.map _] => simp [DataW.trod, hu] at h
    | [.chan _] => simp [DataW.trod, hu] at h
    | [.func _ _ _] => simp [DataW.trod, hu] at h
    | [.nilFunc] => simp [DataW.trod, hu] at h
    | [.iface _ _] => simp [DataW.trod, hu] at h
    | [.nilIface] => simp [DataW.trod, hu] at h
    | [.agg _] => simp [DataW.trod, hu] at h
    | [.tuple _] => simp [DataW.trod, hu] at h
    | _ :: _ :: _ => simp [DataW.trod, hu] at h
theorem rdF_last {P : Program} {f : Field} {off : Nat} {α : Type} {d : Kd α} {wf : α → Prop} (h : Rd P f.type d wf) (ho : f.offset = off) (hc : P.cellsOf f.type = d.sz) : RdF P [f] off d wf := by
  intro H enc w base sp held n cs hl hy
  obtain ⟨y, hy⟩ := hy f (List.mem_singleton.2 rfl)
  rw [ho, hc, List.take_of_length_le (by rw [List.length_drop]; omega)] at hy
  exact h H enc w base sp held n _ y hy
theorem rdF_cons {P : Program} {f : Field} {fs : List Field} {off off2 : Nat} {α β : Type} {d : Kd α} {e : Kd β} {wf : α → Prop} {wg : β → Prop} (h : Rd P f.type d wf) (ho : f.offset = off) (hc : P.cellsOf f.type = d.sz)
    (h2 : off2 = off + d.sz) (hs : RdF P fs off2 e wg) : RdF P (f :: fs) off (Kd.pair d e) (fun x => wf x.1 ∧ wg x.2) := by
  intro H enc w base sp held n cs hl hy
  obtain ⟨y, hy1⟩ := hy f (List.mem_cons_self ..)
  have hl' : cs.length = off + (d.sz + e.sz) := hl
  obtain ⟨a, ha, hwa⟩ := h H enc w base sp held n _ y hy1
  obtain ⟨b, hb, hwb⟩ := hs H enc w base sp held n cs (by omega) (fun g hg => hy g (List.mem_cons_of_mem _ hg))
  rw [ho, hc] at ha
  refine ⟨(a, b), ⟨_, _, ?_, ha, hb⟩, hwa, hwb⟩
  rw [h2, ← List.drop_drop, List.take_append_drop]
theorem rd_struct {P : Program} {t : TypeId} {fs : Array Field} {α β : Type} {d : Kd α} {wf : α → Prop} {wg : β → Prop} (g : β → α) (gi : α → β) (hg : ∀ a, g (gi a) = a) (hwg : ∀ a, wf a → wg (gi a))
    (hu : P.underlying t = some (.struct fs)) (hc : P.cellsOf t = d.sz) (hF : RdF P fs.toList 0 d wf) : Rd P t (Kd.iso d g) wg := by
  intro H enc w base sp held fuel cs x h
  obtain ⟨xs, n, _, rfl, hl, hlen, hf⟩ := DataW.trod_struct hu h
  obtain ⟨a, ha, hwa⟩ := hF H enc w base sp held n cs (by omega) (fun f hfm => by
    obtain ⟨i, hi, rfl⟩ := List.mem_iff_getElem.1 hfm
    have hi' : i < fs.size := by simpa using hi
    have z := hf i (fs[i]) (by simp [hi'])
    rw [List.getElem?_eq_getElem (by omega)] at z
    exact ⟨_, by simpa using z⟩)
  refine ⟨gi a, ?_, hwg a hwa⟩
  show d.K w (g (gi a)) cs
  rw [hg]
  simpa using ha
theorem rd_slice {P : Program} {t e : TypeId} {α : Type} {d : Kd α} {wf : α → Prop} (hu : P.underlying t = some (.slice e)) (hc : P.cellsOf e = d.sz) (hd : Rd P e d wf) : Rd P t (Kd.slice e d) (WfRow wf) := by
  intro H enc w base sp held fuel cs x h
  rcases Go.Deep.open_slice hu h with ⟨rfl, _⟩ | ⟨a, len, cap, m, n, D, Pl, rfl, hb, hl, hm, hmm, _, hx⟩
  · exact ⟨[], ⟨none, 0, rfl, Nat.le_refl _, rfl, by simp, fun h => absurd h (by simp)⟩, by simp [maxLen], by simp⟩
  · have hlm : len ≤ m := by rw [hmm]; split <;> omega
    have hall : ∀ i, i < len → ∃ cs', w.cells? base (a.add (i * P.cellsOf e)) (P.cellsOf e) = some cs' ∧ DataW.trod enc P w base sp held n e cs' = some (D i, Pl i) := fun i hi => hx i (by omega)
    have key : ∀ (k : Nat), k ≤ len → ∃ l : List α, l.length = k ∧ (∀ x ∈ l, wf x) ∧ ∀ j p, l[j]? = some p → ∃ c, c.length = d.sz ∧ d.K w p c ∧ ∀ i u, c[i]? = some u → w.cell? (a.add (j * d.sz + i)) = some u := by
      intro k
      induction k with
      | zero => intro _; exact ⟨[], rfl, by simp, by simp⟩
      | succ k ih =>
        intro hk
        obtain ⟨l, hl1, hl2, hl3⟩ := ih (by omega)
        obtain ⟨cs', h1, h2⟩ := hall k (by omega)
        obtain ⟨b, hb1, hb2⟩ := hd H enc w base sp held n cs' _ h2
        refine ⟨l ++ [b], by simp [hl1], ?_, ?_⟩
        · intro z hz
          rcases List.mem_append.1 hz with hz | hz
          · exact hl2 z hz
          · rw [List.mem_singleton.1 hz]; exact hb2
        · intro j p hj
          by_cases hjl : j < l.length
          · rw [List.getElem?_append_left hjl] at hj
            exact hl3 j p hj
          · rw [List.getElem?_append_right (by omega)] at hj
            have hj0 : j - l.length = 0 := by
              cases hz : j - l.length with
              | zero => rfl
              | succ q => rw [hz] at hj; simp at hj
            rw [hj0] at hj
            obtain rfl : b = p := by simpa using hj
            have hjk : j = k := by omega
            subst hjk
            refine ⟨cs', d.K_len hb1, hb1, fun i u hu' => ?_⟩
            obtain ⟨_, hlen', hcell⟩ := World.cells?_some h1
            have hi : i < cs'.length := by
              rcases Nat.lt_or_ge i cs'.length with h | h
              · exact h
              · rw [List.getElem?_eq_none h] at hu'; cases hu'
            have z := hcell i (by omega)
            rw [hu', Go.Deep.add_add, hc] at z
            exact z
    obtain ⟨l, hl1, hl2, hl3⟩ := key len (Nat.le_refl _)
    refine ⟨l, ⟨some a, cap, by rw [hl1], by omega, ?_⟩, by rw [hl1]; exact Nat.le_trans hl hm, hl2⟩
    exact ⟨rfl, by rw [hl1]; have : cap ≤ 2 ^ 63 - 1 := hm; omega, fun _ => ⟨a, rfl, hl3⟩⟩
end Go.Proofs.YtjbdljhjplidmaaDoor.Rd
namespace Go.Proofs.YtjbdljhjplidmaaDoor.QF
open Go.RowKit Go.Proofs.YtjbdljhjplidmaaDoor Go.Proofs.YtjbdljhjplidmaaDoorW.PrintWords
def wf91 (x : S91) : Prop := (Rd.WfRow Rd.WfStr) x.f0
def wf31 (x : S31) : Prop := Rd.WfStr x.f0 ∧ (Rd.WfRow wf91) x.f1
set_option maxRecDepth 100000 in
theorem rd91 : Rd.Rd Tryd.prog 91 k91 wf91 := Rd.rd_struct _ (fun a => ⟨a⟩) (fun _ => rfl) (fun _ h => h) Tryd.underlying91 (by kernel_rfl) (Rd.rdF_last (Rd.rd_slice Tryd.underlying61 (by kernel_rfl) (Rd.rd_str (Tryd.underlying9))) rfl (by kernel_rfl))
set_option maxRecDepth 100000 in
theorem rd31 : Rd.Rd Tryd.prog 31 k31 wf31 := Rd.rd_struct _ (fun a => ⟨a.1, a.2⟩) (fun _ => rfl) (fun _ h => h) Tryd.underlying31 (by kernel_rfl) (Rd.rdF_cons (Rd.rd_str (Tryd.underlying9)) rfl (by kernel_rfl) (off2 := 1) rfl (Rd.rdF_last (Rd.rd_slice Tryd.underlying29 (by kernel_rfl) rd91) rfl (by kernel_rfl)))
end Go.Proofs.YtjbdljhjplidmaaDoor.QF
namespace Go.Proofs.YtjbdljhjplidmaaDoor.QF
open Go.Proofs.YtjbdljhjplidmaaDoor Go.Proofs.YtjbdljhjplidmaaDoorW.PrintWords
def laws_FnExactTableCheck.Pure : Prop := ∀ (a0 : Int) (l1 : List (S31)), (Rd.WfInt .i64) a0 → (Rd.WfRow wf31) l1 → ∃ k, laws_FnExactTableCheck.f k a0 l1 = some true
end Go.Proofs.YtjbdljhjplidmaaDoor.QF
namespace Go.Proofs.YtjbdljhjplidmaaDoor.Ev0
open Go.RowKit Go.Proofs.YtjbdljhjplidmaaDoorW.PrintWords
def Evt {α : Type} (f : Nat → Option α) (r : α) : Prop := ∃ K, ∀ k, K ≤ k → f k = some r
namespace Evt
variable {α β : Type}
theorem const {o : Option α} {r : α} (h : o = some r) : Evt (fun _ => o) r := ⟨0, fun _ _ => h⟩
theorem pure (r : α) : Evt (fun _ => some r) r := ⟨0, fun _ _ => rfl⟩
theorem bind {f : Nat → Option α} {g : Nat → α → Option β} {a : α} {r : β} (h : Evt f a) (h2 : Evt (fun k => g k a) r) : Evt (fun k => (f k).bind (g k)) r := by
  obtain ⟨K, hK⟩ := h
  obtain ⟨L, hL⟩ := h2
  refine ⟨K + L, fun k hk => ?_⟩
  show (f k).bind (g k) = some r
  rw [hK k (by omega)]
  exact hL k (by omega)
theorem succ {f : Nat → Option α} {r : α} (h : Evt (fun k => f (k + 1)) r) : Evt f r := by
  obtain ⟨K, hK⟩ := h
  refine ⟨K + 1, fun k hk => ?_⟩
  obtain ⟨m, rfl⟩ : ∃ m, k = m + 1 := ⟨k - 1, by omega⟩
  exact hK m (by omega)
theorem pos {c : Prop} [Decidable c] {f g : Nat → Option α} {r : α} (hc : c) (h : Evt f r) : Evt (fun k => if c then f k else g k) r := by
  simpa only [if_pos hc] using h
theorem neg {c : Prop} [Decidable c] {f g : Nat → Option α} {r : α} (hc : ¬ c) (h : Evt g r) : Evt (fun k => if c then f k else g k) r := by
  simpa only [if_neg hc] using h
theorem ite {c : Prop} [Decidable c] {f g : Nat → Option α} {r : α} (h1 : c → Evt f r) (h2 : ¬ c → Evt g r) : Evt (fun k => if c then f k else g k) r := by
  by_cases hc : c
  · exact pos hc (h1 hc)
  · exact neg hc (h2 hc)
theorem ex {f : Nat → Option α} {r : α} (h : Evt f r) : ∃ k, f k = some r := by
  obtain ⟨K, hK⟩ := h
  exact ⟨K, hK K (Nat.le_refl _)⟩
theorem same {f : Nat → Option α} {r r' : α} (h : Evt f r) (e : r = r') : Evt f r' := e ▸ h
end Evt
theorem w64 {x : Int} (h0 : -9223372036854775808 ≤ x) (h1 : x ≤ 9223372036854775807) : wrap64 x = x := by
  unfold wrap64
  omega
noncomputable def B (p : Prop) : Bool := @decide p (Classical.propDecidable p)
theorem B_true {p : Prop} (h : p) : B p = true := by unfold B; exact @decide_eq_true p (Classical.propDecidable p) h
theorem B_false {p : Prop} (h : ¬ p) : B p = false := by unfold B; exact @decide_eq_false p (Classical.propDecidable p) h
theorem B_iff {p : Prop} : B p = true ↔ p := by unfold B; exact @decide_eq_true_iff p (Classical.propDecidable p)
theorem B_congr {p q : Prop} (h : p ↔ q) : B p = B q := by rw [propext h]
theorem decide_B (p : Prop) [Decidable p] : decide p = B p := by
  by_cases h : p
  · rw [decide_eq_true h, B_true h]
  · rw [decide_eq_false h, B_false h]
theorem bool_B {b : Bool} {p : Prop} (h : b = true ↔ p) : b = B p := by
  cases b with
  | true => exact (B_true (h.1 rfl)).symm
  | false => exact (B_false (fun hp => by simpa using h.2 hp)).symm
theorem and_ {c p q : Prop} [Decidable c] {f : Nat → Option Bool} (hc : c ↔ p) (h : p → Evt f (B q)) : Evt (fun k => if c then f k else some false) (B (p ∧ q)) := by
  by_cases e : c
  · exact Evt.pos e ((h (hc.1 e)).same (B_congr ⟨fun x => ⟨hc.1 e, x⟩, fun x => x.2⟩))
  · exact Evt.neg e ((Evt.pure false).same (B_false (fun x => e (hc.2 x.1))).symm)
theorem fail_ {c p q : Prop} [Decidable c] {f : Nat → Option Bool} (hc : c ↔ ¬ p) (h : p → Evt f (B q)) : Evt (fun k => if c then some false else f k) (B (p ∧ q)) := by
  by_cases e : c
  · exact Evt.pos e ((Evt.pure false).same (B_false (fun x => hc.1 e x.1)).symm)
  · have hp : p := Classical.not_not.1 (fun x => e (hc.2 x))
    exact Evt.neg e ((h hp).same (B_congr ⟨fun x => ⟨hp, x⟩, fun x => x.2⟩))
end Go.Proofs.YtjbdljhjplidmaaDoor.Ev0
namespace Go.Proofs.YtjbdljhjplidmaaDoor.Ev0
open Go.RowKit Go.Proofs.YtjbdljhjplidmaaDoorW.PrintWords
theorem up_loop {σ ρ : Type} (n : Int) (F : Nat → σ → Int → Option ρ) (st : Int → σ) (r : Int → ρ)
    (step : ∀ i, 0 ≤ i → i < n → Evt (fun k => F k (st (i + 1)) (i + 1)) (r (i + 1)) → Evt (fun k => F (k + 1) (st i) i) (r i))
    (stop : Evt (fun k => F (k + 1) (st n) n) (r n)) (i : Int) (h0 : 0 ≤ i) (hn : i ≤ n) : Evt (fun k => F k (st i) i) (r i) := by
  have key : ∀ (d : Nat) (i : Int), 0 ≤ i → i ≤ n → n - i ≤ d → Evt (fun k => F k (st i) i) (r i) := by
    intro d
    induction d with
    | zero =>
      intro i h0 h1 hd
      obtain rfl : i = n := by omega
      exact stop.succ
    | succ d ih =>
      intro i h0 h1 hd
      by_cases hlt : i < n
      · exact (step i h0 hlt (ih (i + 1) (by omega) (by omega) (by omega))).succ
      · obtain rfl : i = n := by omega
        exact stop.succ
  exact key (n - i).toNat i h0 hn (by omega)
def SzR (f : Nat → Option Int) (left : Int) (p : Prop) : Prop := ∃ t, Evt f t ∧ (t < 0 ∨ (0 ≤ t ∧ t ≤ left ∧ p))
theorem sz_loop (n : Nat) (hn : n ≤ 9223372036854775807) (p : Int → Prop) (f : Nat → Option Int) (F : Nat → Int → Int → Option Int) (left : Int) (hl0 : 0 ≤ left) (hl : left ≤ 1048576)
    (hf : ∀ k, f k = if wrap64 (left - (n : Int)) < 0 then some (-1) else F k (wrap64 (left - (n : Int))) 0)
    (step : ∀ s i, 0 ≤ i → i < (n : Int) → 0 ≤ s → s ≤ 1048576 → (∃ r, r < 0 ∧ Evt (fun k => F (k + 1) s i) r) ∨ (∃ s', 0 ≤ s' ∧ s' ≤ s ∧ p i ∧ ∀ r, Evt (fun k => F k s' (i + 1)) r → Evt (fun k => F (k + 1) s i) r))
    (stop : ∀ s i, (n : Int) ≤ i → Evt (fun k => F (k + 1) s i) s) : SzR f left (n ≤ 1048576 ∧ ∀ i, 0 ≤ i → i < (n : Int) → p i) := by
  have hw : wrap64 (left - (n : Int)) = left - (n : Int) := w64 (by omega) (by omega)
  by_cases h : left - (n : Int) < 0
  · refine ⟨-1, ⟨0, fun k _ => ?_⟩, .inl (by decide)⟩
    rw [hf, hw, if_pos h]
  · have key : ∀ (d : Nat) (s i : Int), 0 ≤ i → (n : Int) - i ≤ d → 0 ≤ s → s ≤ 1048576 → ∃ t, Evt (fun k => F k s i) t ∧ (t < 0 ∨ (0 ≤ t ∧ t ≤ s ∧ ∀ j, i ≤ j → j < (n : Int) → p j)) := by
      intro d
      induction d with
      | zero => intro s i h0 hd hs0 hs1; exact ⟨s, (stop s i (by omega)).succ, .inr ⟨hs0, Int.le_refl _, fun j h1 h2 => absurd h2 (by omega)⟩⟩
      | succ d ih =>
        intro s i h0 hd hs0 hs1
        by_cases hlt : i < (n : Int)
        · rcases step s i h0 hlt hs0 hs1 with ⟨r, hr0, hr⟩ | ⟨s', h1, h2, hp, hs⟩
          · exact ⟨r, hr.succ, .inl hr0⟩
          · obtain ⟨t, ht, h3⟩ := ih s' (i + 1) (by omega) (by omega) h1 (by omega)
            refine ⟨t, (hs t ht).succ, h3.imp id (fun ⟨g0, g1, g2⟩ => ⟨g0, by omega, fun j h1 h2 => ?_⟩)⟩
            by_cases e : j = i
            · rw [e]; exact hp
            · exact g2 j (by omega) h2
        · exact ⟨s, (stop s i (by omega)).succ, .inr ⟨hs0, Int.le_refl _, fun j h1 h2 => absurd h2 (by omega)⟩⟩
    obtain ⟨t, ⟨K, hK⟩, h3⟩ := key n (left - (n : Int)) 0 (Int.le_refl _) (by omega) (by omega) (by omega)
    refine ⟨t, ⟨K, fun k hk => ?_⟩, h3.imp id (fun ⟨g0, g1, g2⟩ => ⟨g0, by omega, by omega, g2⟩)⟩
    rw [hf, hw, if_neg h]
    exact hK k hk
theorem wsub {s a : Int} (hs0 : 0 ≤ s) (hs1 : s ≤ 1048576) (ha0 : 0 ≤ a) (ha : a ≤ 9223372036854775807) : wrap64 (s - a) = s - a := w64 (by omega) (by omega)
theorem getD_at {α : Type} (l : List α) (z : α) (i : Nat) (h : i < l.length) : l.getD i z = l[i] := by
  rw [List.getD_eq_getElem?_getD, List.getElem?_eq_getElem h]
  rfl
theorem fill_loop {α β : Type} (l : List α) (zα : α) (z : β) (g : α → β) (F : Nat → List β → Int → Option (List β))
    (step : ∀ acc i, 0 ≤ i → i < (l.length : Int) → acc.length = l.length → ∀ r, Evt (fun k => F k (acc.set i.toNat (g (l.getD i.toNat zα))) (i + 1)) r → Evt (fun k => F (k + 1) acc i) r)
    (stop : ∀ acc i, (l.length : Int) ≤ i → Evt (fun k => F (k + 1) acc i) acc) : Evt (fun k => F k (List.replicate l.length z) 0) (l.map g) := by
  have h := up_loop (l.length : Int) F (fun i => (l.take i.toNat).map g ++ List.replicate (l.length - i.toNat) z) (fun _ => l.map g) ?_ ?_ 0 (Int.le_refl _) (by omega)
  · simpa using h
  · intro i h0 hlt ih
    refine step _ i h0 hlt (by simp; omega) _ ?_
    have hi : i.toNat < l.length := by omega
    have e : ((l.take i.toNat).map g ++ List.replicate (l.length - i.toNat) z).set i.toNat (g (l.getD i.toNat zα)) = (l.take (i + 1).toNat).map g ++ List.replicate (l.length - (i + 1).toNat) z := by
      have e1 : (i + 1).toNat = i.toNat + 1 := by omega
      rw [e1, List.take_succ_eq_append_getElem hi, List.map_append, getD_at l zα _ hi, List.set_append_right _ _ (by simp; omega)]
      have e2 : l.length - i.toNat = (l.length - (i.toNat + 1)) + 1 := by omega
      have e3 : i.toNat - ((l.take i.toNat).map g).length = 0 := by simp; omega
      rw [e2, e3, List.replicate_succ]
      simp
    rw [e]
    exact ih
  · have h := stop ((l.take ((l.length : Int)).toNat).map g ++ List.replicate (l.length - ((l.length : Int)).toNat) z) (l.length : Int) (Int.le_refl _)
    refine h.same ?_
    simp
theorem all_loop (n : Int) (h0 : 0 ≤ n) (F : Nat → Int → Option Bool) (step : ∀ i, 0 ≤ i → i < n → Evt (fun k => F k (i + 1)) true → Evt (fun k => F (k + 1) i) true)
    (stop : Evt (fun k => F (k + 1) n) true) : Evt (fun k => F k 0) true :=
  up_loop n (fun k (_ : Unit) i => F k i) (fun _ => ()) (fun _ => true) step stop 0 (Int.le_refl _) h0
theorem right_loop (n : Int) (hn : 0 ≤ n) (ok : Int → Prop) (q : Prop) (F : Nat → Int → Option Bool)
    (step : ∀ i, 0 ≤ i → i < n → (ok i → ∀ r, Evt (fun k => F k (i + 1)) r → Evt (fun k => F (k + 1) i) r) ∧ (¬ ok i → Evt (fun k => F (k + 1) i) false))
    (stop : Evt (fun k => F (k + 1) n) (B q)) : Evt (fun k => F k 0) (B ((∀ i, 0 ≤ i → i < n → ok i) ∧ q)) := by
  have h := up_loop n (fun k (_ : Unit) i => F k i) (fun _ => ()) (fun i => B ((∀ j, i ≤ j → j < n → ok j) ∧ q)) ?_ ?_ 0 (Int.le_refl _) hn
  · exact h
  · intro i h0 hlt ih
    by_cases hk : ok i
    · refine ((step i h0 hlt).1 hk _ ih).same (B_congr ⟨fun h => ⟨fun j h1 h2 => ?_, h.2⟩, fun h => ⟨fun j h1 h2 => h.1 j (by omega) h2, h.2⟩⟩)
      by_cases e : j = i
      · rw [e]; exact hk
      · exact h.1 j (by omega) h2
    · exact ((step i h0 hlt).2 hk).same (B_false (fun h => hk (h.1 i (Int.le_refl _) hlt))).symm
  · exact stop.same (B_congr ⟨fun h => ⟨fun j h1 h2 => absurd h2 (by omega), h⟩, fun h => h.2⟩)
theorem find_loop (n : Int) (hn : 0 ≤ n) (p : Int → Prop) (F : Nat → Int → Option Int)
    (step : ∀ i, 0 ≤ i → i < n → (p i → Evt (fun k => F (k + 1) i) i) ∧ (¬ p i → ∀ r, Evt (fun k => F k (i + 1)) r → Evt (fun k => F (k + 1) i) r))
    (stop : Evt (fun k => F (k + 1) n) (-1)) :
    ∃ r, Evt (fun k => F k 0) r ∧ ((r = -1 ∧ ∀ j, 0 ≤ j → j < n → ¬ p j) ∨ (0 ≤ r ∧ r < n ∧ p r ∧ ∀ j, 0 ≤ j → j < r → ¬ p j)) := by
  have key : ∀ (d : Nat) (i : Int), 0 ≤ i → i ≤ n → n - i ≤ d → ∃ r, Evt (fun k => F k i) r ∧ ((r = -1 ∧ ∀ j, i ≤ j → j < n → ¬ p j) ∨ (i ≤ r ∧ r < n ∧ p r ∧ ∀ j, i ≤ j → j < r → ¬ p j)) := by
    intro d
    induction d with
    | zero =>
      intro i h0 h1 hd
      obtain rfl : i = n := by omega
      exact ⟨-1, stop.succ, .inl ⟨rfl, fun j h1 h2 => absurd h2 (by omega)⟩⟩
    | succ d ih =>
      intro i h0 h1 hd
      by_cases hlt : i < n
      · by_cases hp : p i
        · exact ⟨i, ((step i h0 hlt).1 hp).succ, .inr ⟨Int.le_refl _, hlt, hp, fun j h1 h2 => absurd h2 (by omega)⟩⟩
        · obtain ⟨r, hr, h⟩ := ih (i + 1) (by omega) (by omega) (by omega)
          refine ⟨r, ((step i h0 hlt).2 hp r hr).succ, ?_⟩
          rcases h with ⟨h1, h2⟩ | ⟨h1, h2, h3, h4⟩
          · refine .inl ⟨h1, fun j g1 g2 => ?_⟩
            by_cases e : j = i
            · rw [e]; exact hp
            · exact h2 j (by omega) g2
          · refine .inr ⟨by omega, h2, h3, fun j g1 g2 => ?_⟩
            by_cases e : j = i
            · rw [e]; exact hp
            · exact h4 j (by omega) g2
      · obtain rfl : i = n := by omega
        exact ⟨-1, stop.succ, .inl ⟨rfl, fun j h1 h2 => absurd h2 (by omega)⟩⟩
  exact key n.toNat 0 (Int.le_refl _) hn (by omega)
theorem bytes_ext {a b : ByteArray} : a.toList = b.toList ↔ a = b := by
  constructor
  · intro h
    rw [Lib.toList_data, Lib.toList_data] at h
    cases a with | mk x => cases b with | mk y => cases x with | mk x => cases y with | mk y => simp at h; rw [h]
  · rintro rfl
    rfl
end Go.Proofs.YtjbdljhjplidmaaDoor.Ev0
namespace Go.Proofs.YtjbdljhjplidmaaDoor.QF
open Go.RowKit Go.Proofs.YtjbdljhjplidmaaDoorW.PrintWords Go.Proofs.YtjbdljhjplidmaaDoor.Ev0
def bs8 (l : List UInt8) : ByteArray := ⟨l.toArray⟩
theorem bs8_app (a b : List UInt8) : bs8 a ++ bs8 b = bs8 (a ++ b) := by
  apply ByteArray.ext
  simp [bs8]
theorem bs8_size (l : List UInt8) : (bs8 l).size = l.length := by simp [bs8, ByteArray.size]
def dg (u : Nat) : List UInt8 := if u = 0 then [] else Lib.decDigits u
theorem dg_step (u : Nat) (h : u ≠ 0) : dg u = dg (u / 10) ++ [UInt8.ofNat (48 + u % 10)] := by
  unfold dg
  rw [if_neg h, Lib.decDigits]
  by_cases g : u < 10
  · rw [dif_pos g, if_pos (by omega), show u % 10 = u by omega]
    rfl
  · rw [dif_neg g, if_neg (by omega)]
theorem str_one (v : Nat) (h : v < 10) : strOfNums [((48 + v : Nat) : Int)] = bs8 [UInt8.ofNat (48 + v)] := by
  have : v = 0 ∨ v = 1 ∨ v = 2 ∨ v = 3 ∨ v = 4 ∨ v = 5 ∨ v = 6 ∨ v = 7 ∨ v = 8 ∨ v = 9 := by omega
  rcases this with rfl | rfl | rfl | rfl | rfl | rfl | rfl | rfl | rfl | rfl <;> rfl
theorem dec_run (d : Nat) : ∀ (n : Nat) (a : Int) (neg : Bool) (x : List UInt8), (a = (n : Int) ∨ a = -(n : Int)) → n < 10 ^ d → n ≤ 9223372036854775808 → (a = (n : Int) → n ≤ 9223372036854775807) → x.length + d ≤ 1000 →
    Evt (fun k => spec_l01Dec.l0 k a neg (bs8 x)) (bs8 ((if neg = true then [45] else []) ++ (dg n ++ x))) := by
  have fin : ∀ (a : Int) (neg : Bool) (x : List UInt8), a = 0 → x.length ≤ 1000 → Evt (fun k => spec_l01Dec.l0 k a neg (bs8 x)) (bs8 ((if neg = true then [45] else []) ++ (dg 0 ++ x))) := by
    intro a neg x ha hx
    apply Evt.succ
    simp only [spec_l01Dec.l0]
    refine Evt.pos ha ?_
    cases neg with
    | true => exact Evt.pos rfl (Evt.pos (by rw [bs8_size]; omega) ((Evt.pure _).same (bs8_app [45] x)))
    | false => exact Evt.neg (by decide) ((Evt.pure _).same (by simp [dg]))
  induction d with
  | zero =>
    intro n a neg x ha hn h1 h2 hx
    have : n = 0 := by simpa using hn
    subst this
    exact fin a neg x (by omega) (by omega)
  | succ d ih =>
    intro n a neg x ha hn h1 h2 hx
    by_cases g : n = 0
    · subst g
      exact fin a neg x (by omega) (by omega)
    have hd : n / 10 < 10 ^ d := by rw [Nat.pow_succ] at hn; omega
    apply Evt.succ
    simp only [spec_l01Dec.l0, Option.bind_some]
    refine Evt.neg (by omega) ?_
    have hv : n % 10 < 10 := by omega
    have one : ∀ v : Int, v = ((n % 10 : Nat) : Int) → strOfNums [(wrap64 (48 + v)) % 256] = bs8 [UInt8.ofNat (48 + n % 10)] := fun v e => by
      rw [e, w64 (by omega) (by omega), ← str_one _ hv]
      congr 2
      omega
    have ends : bs8 ((if neg = true then [45] else []) ++ (dg (n / 10) ++ ([UInt8.ofNat (48 + n % 10)] ++ x))) = bs8 ((if neg = true then [45] else []) ++ (dg n ++ x)) := by
      rw [dg_step n g, List.append_assoc]
    rcases ha with ha | ha
    · have e1 : Int.tmod a 10 = ((n % 10 : Nat) : Int) := by rw [ha, Int.tmod_eq_emod_of_nonneg (by omega)]; omega
      have e2 : Int.tdiv a 10 = ((n / 10 : Nat) : Int) := by rw [ha, Int.tdiv_eq_ediv_of_nonneg (by omega)]; omega
      refine Evt.neg (by omega) ?_
      rw [one _ e1, e2, w64 (by omega) (by omega), bs8_app]
      refine Evt.pos (by rw [bs8_size, bs8_size, List.length_singleton]; omega) ((ih (n / 10) _ neg _ (.inl rfl) hd (by omega) (fun _ => by omega) (by simp; omega)).same ends)
    · have e1 : Int.tmod a 10 = -((n % 10 : Nat) : Int) := by rw [ha, Int.neg_tmod, Int.tmod_eq_emod_of_nonneg (by omega)]; omega
      have e2 : Int.tdiv a 10 = -((n / 10 : Nat) : Int) := by rw [ha, Int.neg_tdiv, Int.tdiv_eq_ediv_of_nonneg (by omega)]; omega
      have hm : wrap64 (-(Int.tmod a 10)) = ((n % 10 : Nat) : Int) := by rw [e1, w64 (by omega) (by omega)]; omega
      have go : Evt (fun k => spec_l01Dec.l0 k (-((n / 10 : Nat) : Int)) neg (bs8 ([UInt8.ofNat (48 + n % 10)] ++ x))) (bs8 ((if neg = true then [45] else []) ++ (dg n ++ x))) :=
        (ih (n / 10) _ neg _ (.inr rfl) hd (by omega) (fun h => by omega) (by simp; omega)).same ends
      by_cases hz : Int.tmod a 10 < 0
      · refine Evt.pos hz ?_
        rw [hm, one _ rfl, e2, w64 (by omega) (by omega), bs8_app]
        exact Evt.pos (by rw [bs8_size, bs8_size, List.length_singleton]; omega) go
      · refine Evt.neg hz ?_
        rw [one _ (by omega), e2, w64 (by omega) (by omega), bs8_app]
        exact Evt.pos (by rw [bs8_size, bs8_size, List.length_singleton]; omega) go
theorem l01Dec_ev (a : Int) (h0 : -9223372036854775808 ≤ a) (h1 : a ≤ 9223372036854775807) : Evt (fun k => spec_l01Dec.f k a) (bs8 (Lib.itoa a)) := by
  unfold spec_l01Dec.f
  by_cases e : a = 0
  · refine Evt.pos e ((Evt.pure _).same ?_)
    subst e
    unfold Lib.itoa
    rw [if_neg (by decide), show (0 : Int).toNat = 0 from rfl, Lib.decDigits, dif_pos (by decide)]
    rfl
  · refine Evt.neg e ?_
    by_cases g : a < 0
    · rw [decide_eq_true g]
      have h := dec_run 20 a.natAbs a true [] (.inr (by omega)) (by omega) (by omega) (fun h => by omega) (by decide)
      refine (show Evt (fun k => spec_l01Dec.l0 k a true (⟨#[]⟩ : ByteArray)) _ from h).same ?_
      unfold Lib.itoa dg
      rw [if_pos g, if_pos rfl, if_neg (by omega), List.append_nil]
      rfl
    · rw [decide_eq_false g]
      have h := dec_run 20 a.natAbs a false [] (.inl (by omega)) (by omega) (by omega) (fun h => by omega) (by decide)
      refine (show Evt (fun k => spec_l01Dec.l0 k a false (⟨#[]⟩ : ByteArray)) _ from h).same ?_
      unfold Lib.itoa dg
      rw [if_neg g, if_neg (by decide), if_neg (by omega), List.append_nil, List.nil_append, show a.toNat = a.natAbs by omega]
end Go.Proofs.YtjbdljhjplidmaaDoor.QF
namespace Go.Proofs.YtjbdljhjplidmaaDoor.QF
open Go.RowKit Go.Proofs.YtjbdljhjplidmaaDoorW.PrintWords Go.Proofs.YtjbdljhjplidmaaDoor.Ev0
theorem within_ev (a b c : Int) : impl_within.f a b c = some (B (b ≤ a ∧ a ≤ c)) := by
  unfold impl_within.f
  by_cases h : b ≤ a
  · rw [if_pos h, decide_B]
    exact congrArg some (B_congr ⟨fun x => ⟨h, x⟩, fun x => x.2⟩)
  · rw [if_neg h, B_false (fun x => h x.1)]
theorem isGreat_ev (c : Int) : impl_isGreat.f c = some (B (65 ≤ c ∧ c ≤ 90)) := by
  unfold impl_isGreat.f
  by_cases h : c ≥ 65
  · rw [if_pos h, decide_B]
    exact congrArg some (B_congr ⟨fun x => ⟨h, x⟩, fun x => x.2⟩)
  · rw [if_neg h, B_false (fun x => h x.1)]
theorem isDigit_ev (c : Int) : impl_isDigit.f c = some (B (48 ≤ c ∧ c ≤ 57)) := by
  unfold impl_isDigit.f
  by_cases h : c ≥ 48
  · rw [if_pos h, decide_B]
    exact congrArg some (B_congr ⟨fun x => ⟨h, x⟩, fun x => x.2⟩)
  · rw [if_neg h, B_false (fun x => h x.1)]
theorem l01Qty_ev (n : Int) : spec_l01Qty.f n = some (B (1 ≤ n ∧ n ≤ 1000000)) := by
  unfold spec_l01Qty.f
  by_cases h : n ≥ 1
  · rw [if_pos h, decide_B]
    exact congrArg some (B_congr ⟨fun x => ⟨h, x⟩, fun x => x.2⟩)
  · rw [if_neg h, B_false (fun x => h x.1)]
def okc (c : Int) : Prop := (65 ≤ c ∧ c ≤ 90) ∨ (48 ≤ c ∧ c ≤ 57) ∨ c = 45
def NameP (s : ByteArray) : Prop := 1 ≤ (s.size : Int) ∧ (s.size : Int) ≤ 12 ∧ (65 ≤ bt s 0 ∧ bt s 0 ≤ 90) ∧ ∀ j : Int, 0 ≤ j → j < s.size → okc (bt s j)
noncomputable def nameB (s : ByteArray) : Bool := B (NameP s)
theorem specName_l (s : ByteArray) (hs : (s.size : Int) ≤ 9223372036854775807) (d : Nat) : ∀ i : Int, 0 ≤ i → (s.size : Int) - i ≤ d → Evt (fun k => spec_l01Name.l0 k s i) (B (∀ j : Int, i ≤ j → j < s.size → okc (bt s j))) := by
  induction d with
  | zero =>
    intro i h0 hd
    apply Evt.succ
    simp only [spec_l01Name.l0]
    refine Evt.neg (by omega) ((Evt.pure true).same (B_true ?_).symm)
    intro j h1 h2
    omega
  | succ d ih =>
    intro i h0 hd
    apply Evt.succ
    simp only [spec_l01Name.l0]
    by_cases hlt : i < (s.size : Int)
    · refine Evt.pos hlt (Evt.pos h0 ?_)
      have hw : wrap64 (i + 1) = i + 1 := w64 (by omega) (by omega)
      rw [hw]
      have yes : okc (bt s i) → Evt (fun k => spec_l01Name.l0 k s (i + 1)) (B (∀ j : Int, i ≤ j → j < s.size → okc (bt s j))) := fun hc =>
        (ih (i + 1) (by omega) (by omega)).same (B_congr ⟨fun h j h1 h2 => by
          by_cases e : j = i
          · rw [e]; exact hc
          · exact h j (by omega) h2, fun h j h1 h2 => h j (by omega) h2⟩)
      have no : ¬ okc (bt s i) → Evt (fun _ => some false) (B (∀ j : Int, i ≤ j → j < s.size → okc (bt s j))) := fun hc =>
        (Evt.pure false).same (B_false (fun h => hc (h i (Int.le_refl _) hlt))).symm
      have digit : Evt (fun k => if bt s i ≥ 48 then (if bt s i ≤ 57 then spec_l01Name.l0 k s (i + 1) else (if bt s i = 45 then spec_l01Name.l0 k s (i + 1) else some false)) else (if bt s i = 45 then spec_l01Name.l0 k s (i + 1) else some false)) (B (∀ j : Int, i ≤ j → j < s.size → okc (bt s j))) ∨ (65 ≤ bt s i ∧ bt s i ≤ 90) := by
        by_cases hg : 65 ≤ bt s i ∧ bt s i ≤ 90
        · exact .inr hg
        · refine .inl (Evt.ite (fun h1 => Evt.ite (fun h2 => yes (.inr (.inl ⟨h1, h2⟩))) (fun h2 => Evt.ite (fun h3 => yes (.inr (.inr h3))) (fun h3 => no (fun hk => ?_)))) (fun h1 => Evt.ite (fun h3 => yes (.inr (.inr h3))) (fun h3 => no (fun hk => ?_))))
          · rcases hk with hk | hk | hk
            · exact hg hk
            · omega
            · exact h3 hk
          · rcases hk with hk | hk | hk
            · exact hg hk
            · omega
            · exact h3 hk
      refine Evt.ite (fun h1 => Evt.ite (fun h2 => yes (.inl ⟨h1, h2⟩)) (fun h2 => ?_)) (fun h1 => ?_)
      · exact digit.resolve_right (fun h => h2 h.2)
      · exact digit.resolve_right (fun h => h1 h.1)
    · refine Evt.neg hlt ((Evt.pure true).same (B_true ?_).symm)
      intro j h1 h2
      omega
theorem specName_ev (s : ByteArray) (hs : (s.size : Int) ≤ 9223372036854775807) : Evt (fun k => spec_l01Name.f k s) (nameB s) := by
  unfold spec_l01Name.f
  have bad : ¬ NameP s → Evt (fun k => spec_l01Name.j0 k s true) (nameB s) := fun h => by
    apply Evt.succ
    simp only [spec_l01Name.j0]
    exact (Evt.pure false).same (B_false h).symm
  refine Evt.ite (fun h => bad (fun hn => by have := hn.1; omega)) (fun h1 => Evt.ite (fun h => bad (fun hn => by have := hn.2.1; omega)) (fun h2 => Evt.pos (by omega) (Evt.ite (fun h => bad (fun hn => by have := hn.2.2.1.1; omega)) (fun h3 => ?_))))
  by_cases h4 : bt s 0 > 90
  · rw [decide_eq_true h4]
    exact bad (fun hn => by have := hn.2.2.1.2; omega)
  · rw [decide_eq_false h4]
    apply Evt.succ
    simp only [spec_l01Name.j0]
    refine (specName_l s hs s.size 0 (Int.le_refl _) (by omega)).same (B_congr ⟨fun h => ⟨by omega, by omega, ⟨by omega, by omega⟩, h⟩, fun h => h.2.2.2⟩)
theorem implName_l (s : ByteArray) (hs : (s.size : Int) ≤ 9223372036854775807) (d : Nat) : ∀ i : Int, 0 ≤ i → (s.size : Int) - i ≤ d →
    Evt (fun k => impl_isName.l0 k s (s.size : Int) i) (B ((∀ j : Int, i ≤ j → j < s.size → (65 ≤ bt s j ∧ bt s j ≤ 90) ∨ (j ≠ 0 ∧ okc (bt s j))) ∧ 1 ≤ (s.size : Int) ∧ (s.size : Int) ≤ 12)) := by
  induction d with
  | zero =>
    intro i h0 hd
    apply Evt.succ
    simp only [impl_isName.l0]
    refine Evt.neg (by omega) (Evt.const ?_)
    rw [within_ev]
    exact congrArg some (B_congr ⟨fun h => ⟨fun j h1 h2 => by omega, h⟩, fun h => h.2⟩)
  | succ d ih =>
    intro i h0 hd
    apply Evt.succ
    simp only [impl_isName.l0]
    by_cases hlt : i < (s.size : Int)
    · refine Evt.pos hlt (Evt.pos h0 (Evt.pos hlt ?_))
      have hw : wrap64 (i + 1) = i + 1 := w64 (by omega) (by omega)
      rw [hw, isGreat_ev, isDigit_ev]
      have yes : ((65 ≤ bt s i ∧ bt s i ≤ 90) ∨ (i ≠ 0 ∧ okc (bt s i))) → Evt (fun k => impl_isName.l0 k s (s.size : Int) (i + 1)) (B ((∀ j : Int, i ≤ j → j < s.size → (65 ≤ bt s j ∧ bt s j ≤ 90) ∨ (j ≠ 0 ∧ okc (bt s j))) ∧ 1 ≤ (s.size : Int) ∧ (s.size : Int) ≤ 12)) := fun hc =>
        (ih (i + 1) (by omega) (by omega)).same (B_congr ⟨fun h => ⟨fun j h1 h2 => by
          by_cases e : j = i
          · rw [e]; exact hc
          · exact h.1 j (by omega) h2, h.2⟩, fun h => ⟨fun j h1 h2 => h.1 j (by omega) h2, h.2⟩⟩)
      have no : ¬ ((65 ≤ bt s i ∧ bt s i ≤ 90) ∨ (i ≠ 0 ∧ okc (bt s i))) → Evt (fun _ => some false) (B ((∀ j : Int, i ≤ j → j < s.size → (65 ≤ bt s j ∧ bt s j ≤ 90) ∨ (j ≠ 0 ∧ okc (bt s j))) ∧ 1 ≤ (s.size : Int) ∧ (s.size : Int) ≤ 12)) := fun hc =>
        (Evt.pure false).same (B_false (fun h => hc (h.1 i (Int.le_refl _) hlt))).symm
      simp only [Option.bind_some]
      refine Evt.ite (fun h1 => yes (.inl (B_iff.1 h1))) (fun h1 => ?_)
      have g1 : ¬ (65 ≤ bt s i ∧ bt s i ≤ 90) := fun h => h1 (B_iff.2 h)
      refine Evt.ite (fun h2 => no (fun h => h.elim g1 (fun h => h.1 h2))) (fun h2 => Evt.ite (fun h3 => yes (.inr ⟨h2, .inr (.inl (B_iff.1 h3))⟩)) (fun h3 => Evt.ite (fun h4 => yes (.inr ⟨h2, .inr (.inr h4)⟩)) (fun h4 => no (fun h => ?_))))
      rcases h with h | ⟨_, h | h | h⟩
      · exact g1 h
      · exact g1 h
      · exact h3 (B_iff.2 h)
      · exact h4 h
    · refine Evt.neg hlt (Evt.const ?_)
      rw [within_ev]
      exact congrArg some (B_congr ⟨fun h => ⟨fun j h1 h2 => by omega, h⟩, fun h => h.2⟩)
theorem implName_ev (s : ByteArray) (hs : (s.size : Int) ≤ 9223372036854775807) : Evt (fun k => impl_isName.f k s) (nameB s) := by
  unfold impl_isName.f
  refine (implName_l s hs s.size 0 (Int.le_refl _) (by omega)).same (B_congr ⟨fun h => ⟨h.2.1, h.2.2, ?_, ?_⟩, fun h => ⟨?_, h.1, h.2.1⟩⟩)
  · rcases h.1 0 (Int.le_refl _) (by omega) with h | h
    · exact h
    · exact absurd rfl h.1
  · intro j h1 h2
    rcases h.1 j h1 h2 with h | h
    · exact .inl h
    · exact h.2
  · intro j h1 h2
    by_cases e : j = 0
    · rw [e]; exact .inl h.2.2.1
    · exact .inr ⟨e, h.2.2.2 j h1 h2⟩
end Go.Proofs.YtjbdljhjplidmaaDoor.QF
