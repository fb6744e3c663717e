-- Merged by a program of this session (wip/tool/pack.py) out of its own texts for this claim.
import Derived.Deep.Slices
import Derived.ChangeArms
import Derived.WalkKit
import Derived.ProofKit
import Derived.OpenShut
import Derived.ShutString
import Derived.ChangeOld
import Derived.Below
import Derived.SizedLaws
import Derived.Lib.Strings
import Derived.Test.YtefmkmhjbfpelaaKFnExactBookHand0
import Derived.Test.YtefmkmhjbfpelaaKFnExactBookHand1
import Derived.Test.YtefmkmhjbfpelaaKFnExactBookHand2
import Derived.Test.YtefmkmhjbfpelaaKFnExactBookHand3
import Derived.Test.YtefmkmhjbfpelaaKFnExactBookHand6
import Derived.Test.YtefmkmhjbfpelaaKFnExactBookHand7
import Derived.Test.YtefmkmhjbfpelaaKFnExactBookHand10
namespace Go.Proofs.Ytefmkmhjbfpelaa.QT
open Go.RowKit Go.Proofs.YtefmkmhjbfpelaaW.PrintWords Go.Proofs.YtefmkmhjbfpelaaW.PrintLast Go.Proofs.YtefmkmhjbfpelaaW.PrintMore
attribute [local go_sem] max2_int min2_int max_two min_two max_three min_three max_four min_four   -- for this text's walks alone
set_option linter.unusedVariables false
set_option linter.unusedSimpArgs false
set_option maxHeartbeats 8000000 in
set_option maxRecDepth 100000 in
theorem impl_Book_hand.calls (k : Nat) (g : Nat) (s0_0 : List (S117)) (s0_1 : List (S54)) (a1 : ByteArray) (r : Int) (w0 w : World) (hI : IsS47 w0 w g s0_0 s0_1) (hB : Below w0.heap.size w0 w) (h : impl_Book_hand.f k s0_0 s0_1 a1 = some r) :
    Calls Try.prog 91 #[.pointer (some ⟨g, 0, none⟩), .string a1] w fun e w' => e = .returned (.int .i64 r) ∧ IsS47 w0 w' g s0_0 s0_1 ∧ Below w0.heap.size w0 w' ∧ KeepBut w w' g none := by
  have HI0 := Aside0.mk hI; have HK := Aside0.mk (KeepBut.refl w g none); have HL := Aside0.mk hB.size; clear hI; have HW0 := Aside0.mk hB.size; have HB := Aside0.mk hB; clear hB; have H : ((impl_Stock_string_impl_stockOrder.f k s0_0 a1).bind fun bt360 => (if bt360.2 = true then (if 0 ≤ bt360.1 then (if bt360.1 < (s0_0.length : Int) then (some ((rd_T117 s0_0 bt360.1).f1)) else (none)) else (none)) else (some 0))) = some r := h; clear h; replace H := Option.bind_eq_some_iff.mp H; obtain ⟨⟨t360, t361⟩, A30, H⟩ := H; replace H : (if t361 = true then (if 0 ≤ t360 then (if t360 < (s0_0.length : Int) then (some ((rd_T117 s0_0 t360).f1)) else (none)) else (none)) else (some 0)) = some r := H; have A3 := Aside0.mk A30; clear A30; obtain ⟨ASz4_0, cSz4_0, ASz4_1, cSz4_1, HGz4, hgz4, HSz4_0, HSz4_1⟩ := HI0.out; have hcz4_0 := cellS47_0 HGz4; have hcz4_1 := cellS47_1 HGz4; clear HGz4 hgz4; have HCz4_0 := HSz4_0.2; have HCz4_1 := HSz4_1.2; replace HSz4_0 := HSz4_0.1; replace HSz4_1 := HSz4_1.1
  go_enter Try.func91, Try.ntmps91
  try go_wp2_with (fail)
  go_at_call 141; (with_reducible refine (impl_Stock_string_impl_stockOrder.calls k _ _ s0_0 a1  t360 t361 _ ?side1 ?side2 A3.out).mono ?_); (case side1 => first | exact (Kd.C_below HSz4_0 (by repeat (first | (with_reducible first | exact HB.out | apply below_alloc | apply pw_below_drewN | apply below_drew1 | refine below_set ?_ (IsS47.ge HI0.out)) | exact HB.out)))); (case side2 => first | exact HCz4_0); rintro e w5 ⟨rfl, hb⟩; replace HK := Aside0.mk (KeepBut.trans (by repeat (first | (with_reducible first | exact HK.out | apply KeepBut.set_ | apply keep_drewN | apply keep_drew | apply keep_alloc) | exact HK.out)) (KeepBut.of_below hb g none) (.inl rfl)); replace HB := Aside0.mk (below_step (by repeat (first | (with_reducible first | exact HB.out | apply below_alloc | apply pw_below_drewN | apply below_drew1 | refine below_set ?_ (IsS47.ge HI0.out)) | exact HB.out)) hb); replace HI0 := Aside0.mk (IsS47.below (by repeat (first | (with_reducible first | exact HI0.out | apply IsS47.alloc | apply IsS47.drewN | apply IsS47.drew) | exact HI0.out)) hb); (try clear hb); (try clear hb2); (try clear hk); (try clear hi)
  by_cases c6 : t361 = true
  · subst c6
    have H1 : (if 0 ≤ t360 then (if t360 < (s0_0.length : Int) then (some ((rd_T117 s0_0 t360).f1)) else (none)) else (none)) = some r := by rw [if_pos rfl] at H; exact H
    clear H; have H := H1; clear H1
    by_cases c7 : 0 ≤ t360
    · rw [if_pos c7] at H; have c7b0 : decide (0 ≤ t360) = true := decide_eq_true c7; clear c7
      by_cases c8 : t360 < (s0_0.length : Int)
      · rw [if_pos c8] at H; have c8b0 : decide (t360 < (s0_0.length : Int)) = true := decide_eq_true c8; clear c8; obtain rfl := Option.some.inj H; obtain ⟨ASz9_0, cSz9_0, ASz9_1, cSz9_1, HGz9, hgz9, HSz9_0, HSz9_1⟩ := HI0.out; have hcz9_0 := cellS47_0 HGz9; have hcz9_1 := cellS47_1 HGz9; clear HGz9 hgz9; have HCz9_0 := HSz9_0.2; have HCz9_1 := HSz9_1.2; replace HSz9_0 := HSz9_0.1; replace HSz9_1 := HSz9_1.1; have p362 : 0 ≤ (t360 : Int) := oa; have q362 : t360 < (s0_0.length : Int) := oa; obtain ⟨ad362, e362, hx362_0, hx362_1⟩ := at_T117 HSz9_0 t360 p362 q362
        (try (obtain ⟨adb362, eb362, hxb362_0, hxb362_1⟩ := at_T117 HSz4_0 t360 p362 q362; cases eb362; replace hxb362_0 := pw_cell_below HB.out hxb362_0; replace hxb362_1 := pw_cell_below HB.out hxb362_1))
        cases e362
        replace hx362_0 := pw_cell_below HB.out hx362_0; replace hx362_1 := pw_cell_below HB.out hx362_1; replace p362 := eq_true p362; replace q362 := eq_true q362
        go_wp2
        go_ret
        exact ⟨ff, by repeat (first | (with_reducible first | exact HI0.out | apply IsS47.alloc | apply IsS47.drewN | apply IsS47.drew) | exact HI0.out), by repeat (first | (with_reducible first | exact HB.out | apply below_alloc | apply pw_below_drewN | apply below_drew1 | refine below_set ?_ (IsS47.ge HI0.out)) | exact HB.out), by repeat (first | (with_reducible first | exact HK.out | apply KeepBut.set_ | apply keep_drewN | apply keep_drew | apply keep_alloc) | exact HK.out)⟩
      · rw [if_neg c8] at H
        exact absurd H (by simp)
    · rw [if_neg c7] at H
      exact absurd H (by simp)
  · replace c6 := Bool.eq_false_iff.mpr c6; subst c6
    have H1 : (some 0) = some r := by rw [if_neg (show ¬ (false = true) by decide)] at H; exact H
    clear H; have H := H1; clear H1; obtain rfl := Option.some.inj H
    go_wp2
    go_ret
    exact ⟨ff, by repeat (first | (with_reducible first | exact HI0.out | apply IsS47.alloc | apply IsS47.drewN | apply IsS47.drew) | exact HI0.out), by repeat (first | (with_reducible first | exact HB.out | apply below_alloc | apply pw_below_drewN | apply below_drew1 | refine below_set ?_ (IsS47.ge HI0.out)) | exact HB.out), by repeat (first | (with_reducible first | exact HK.out | apply KeepBut.set_ | apply keep_drewN | apply keep_drew | apply keep_alloc) | exact HK.out)⟩
set_option maxHeartbeats 8000000 in
set_option maxRecDepth 100000 in
theorem impl_BookHand.calls (k : Nat) (A0_0 : Option Addr) (c0_0 : Nat) (l0_0 : List (S117)) (A0_1 : Option Addr) (c0_1 : Nat) (l0_1 : List (S54)) (a1 : ByteArray) (r : Int) (w : World) (hr0_0 : Kd.C k117 w A0_0 l0_0.length l0_0) (hc0_0 : l0_0.length ≤ c0_0) (hr0_1 : Kd.C k54 w A0_1 l0_1.length l0_1) (hc0_1 : l0_1.length ≤ c0_1) (h : impl_BookHand.f k l0_0 l0_1 a1 = some r) :
    Calls Try.prog 30 #[.agg #[.slice A0_0 l0_0.length c0_0, .slice A0_1 l0_1.length c0_1], .string a1] w fun e w' => e = .returned (.int .i64 r) ∧ Below w.heap.size w w' := by
  have hu47 := Try.underlying47; have HR0_0 := Aside0.mk hr0_0; have HC0_0 := Aside0.mk hc0_0; clear hr0_0 hc0_0; have HR0_1 := Aside0.mk hr0_1; have HC0_1 := Aside0.mk hc0_1; clear hr0_1 hc0_1; have HB := Aside0.mk (Below.refl w.heap.size w); have H : ((impl_longText.f k (([a1] : List ByteArray))).bind fun t367 => (if t367 = true then (some 0) else ((impl_BookRight.f k l0_0 l0_1).bind fun t368 => (if t368 = true then ((impl_Book_hand.f k l0_0 l0_1 a1).bind fun t369 => (some t369)) else (some 0))))) = some r := h; clear h; obtain ⟨y364, hy364⟩ : ∃ y_ : List ByteArray, y_ = (([a1] : List ByteArray)) := ⟨_, rfl⟩
  replace H : ((impl_longText.f k y364).bind fun t367 => (if t367 = true then (some 0) else ((impl_BookRight.f k l0_0 l0_1).bind fun t368 => (if t368 = true then ((impl_Book_hand.f k l0_0 l0_1 a1).bind fun t369 => (some t369)) else (some 0))))) = some r := by first | (rw [hy364]; with_reducible exact H) | (have H2_ := (Option.bind_some _ _).symm.trans H; rw [hy364]; with_reducible exact H2_) | (have H2_ := (Option.bind_some _ _).symm.trans H; with_reducible exact H2_) | with_reducible exact H | (rw [hy364]; exact H) | exact H
  have Ny364 := Aside0.mk hy364; clear hy364; replace H := Option.bind_eq_some_iff.mp H; obtain ⟨t367, A30, H⟩ := H; replace H : (if t367 = true then (some 0) else ((impl_BookRight.f k l0_0 l0_1).bind fun t368 => (if t368 = true then ((impl_Book_hand.f k l0_0 l0_1 a1).bind fun t369 => (some t369)) else (some 0)))) = some r := H; have A3 := Aside0.mk A30; clear A30
  go_enter Try.func30, Try.ntmps30
  try go_wp2_with (first | ((with_reducible refine gate_dst (N := 2) rfl ?_); refine bx 2 (cs := #[.slice A0_0 l0_0.length c0_0, .slice A0_1 l0_1.length c0_1]) (t := 47) ?_; intro gb363 hg w4 hbox hb; have GW363 := Aside0.mk ((gs hg (bs HB))); have GE363 := Aside0.mk ((gs hg (bs HB))); have HI363 := Aside0.mk ((show IsS47 w w4 gb363 l0_0 l0_1 from ⟨_, _, _, _, hbox, (gs hg (bs HB)), ⟨HR0_0.out, HC0_0.out⟩, ⟨HR0_1.out, HC0_1.out⟩⟩)); replace HB := Aside0.mk (below_step (bs HB) hb); clear hb hbox hg) | ((with_reducible refine gate_dst (N := 6) rfl ?_); refine Kd.R_lit Kd.string _ 9 ?hg (N := 6) ?hd (xs := ([a1] : List ByteArray)) (inner := [.string a1]) (ok := fun _ => True) (okp := fun _ => True) ?hr ?hp (fun _ hk => hk) trivial (Below.refl _ _) (Nat.le_refl _) (by simp) ?_; (case hd => rfl); (case hg => rfl); (case hr => first | (go_simp; done) | (go_simp; rfl)); (case hp => exact (Reps.one (show Kd.M Kd.string _ _ _ a1 [.string a1] from rfl) (Reps.none _ _))); intro v365 w5 ho6 hb hg_ hnew_; clear hg_ hnew_; (first | rw [← Ny364.out] at ho6 | (simp only [Int.reduceToNat] at ho6; rw [← Ny364.out] at ho6)); have HO366 := Aside0.mk (Kd.R_lower ho6 (below_size (by repeat (first | (with_reducible first | exact HB.out | apply below_alloc | apply pw_below_drewN | apply below_drew1 | refine below_set ?_ (IsS47.ge HI363.out)) | exact HB.out)))); replace HB := Aside0.mk (below_step (by repeat (first | (with_reducible first | exact HB.out | apply below_alloc | apply pw_below_drewN | apply below_drew1 | refine below_set ?_ (IsS47.ge HI363.out)) | exact HB.out)) hb); replace HI363 := Aside0.mk (IsS47.below (by repeat (first | (with_reducible first | exact HI363.out | apply IsS47.alloc | apply IsS47.drewN | apply IsS47.drew) | exact HI363.out)) hb); clear hb ho6; obtain ⟨Ao7, co7, eo7⟩ := Kd.R_slice HO366.out; subst eo7))
  go_at_call 85; (with_reducible refine (impl_longText.calls k _ _ y364 t367 _ ?side1 ?side2 A3.out).mono ?_); (case side1 => repeat (first | exact (Kd.R_reads' HO366.out).2.2 | (with_reducible refine Kd.C_alloc ?_ _) | (with_reducible refine Kd.C_drewN ?_ _) | (with_reducible refine Kd.C_drew ?_))); (case side2 => exact (Kd.R_reads' HO366.out).2.1); rintro e w' ⟨rfl, ⟨nd, rfl⟩⟩
  by_cases c8 : t367 = true
  · subst c8
    have H1 : (some 0) = some r := by rw [if_pos rfl] at H; exact H
    clear H; have H := H1; clear H1; obtain rfl := Option.some.inj H
    go_wp2
    go_ret
    exact ⟨ff, by repeat (first | (with_reducible first | exact HB.out | apply below_alloc | apply pw_below_drewN | apply below_drew1 | refine below_set ?_ (IsS47.ge HI363.out)) | exact HB.out)⟩
  · replace c8 := Bool.eq_false_iff.mpr c8; subst c8
    have H1 : ((impl_BookRight.f k l0_0 l0_1).bind fun t368 => (if t368 = true then ((impl_Book_hand.f k l0_0 l0_1 a1).bind fun t369 => (some t369)) else (some 0))) = some r := by rw [if_neg (show ¬ (false = true) by decide)] at H; exact H
    clear H; have H := H1; clear H1; replace H := Option.bind_eq_some_iff.mp H; obtain ⟨t368, A90, H⟩ := H; replace H : (if t368 = true then ((impl_Book_hand.f k l0_0 l0_1 a1).bind fun t369 => (some t369)) else (some 0)) = some r := H; have A9 := Aside0.mk A90; clear A90; obtain ⟨ASz10_0, cSz10_0, ASz10_1, cSz10_1, HGz10, hgz10, HSz10_0, HSz10_1⟩ := HI363.out; have hcz10_0 := cellS47_0 HGz10; have hcz10_1 := cellS47_1 HGz10; clear HGz10 hgz10; have HCz10_0 := HSz10_0.2; have HCz10_1 := HSz10_1.2; replace HSz10_0 := HSz10_0.1; replace HSz10_1 := HSz10_1.1
    try go_wp2_with (fail)
    go_at_call 64; (with_reducible refine (impl_BookRight.calls k _ _ l0_0 _ _ l0_1 t368 _ ?side1 ?side2 ?side3 ?side4 A9.out).mono ?_); (case side1 => first | exact (Kd.C_below HSz10_0 (by repeat (first | (with_reducible first | exact HB.out | apply below_alloc | apply pw_below_drewN | apply below_drew1 | refine below_set ?_ (IsS47.ge HI363.out)) | exact HB.out)))); (case side2 => first | exact HCz10_0); (case side3 => first | exact (Kd.C_below HSz10_1 (by repeat (first | (with_reducible first | exact HB.out | apply below_alloc | apply pw_below_drewN | apply below_drew1 | refine below_set ?_ (IsS47.ge HI363.out)) | exact HB.out)))); (case side4 => first | exact HCz10_1); rintro e w11 ⟨rfl, hb⟩; replace HO366 := Aside0.mk (Kd.R_below (rs HO366) hb); replace HB := Aside0.mk (below_step (by repeat (first | (with_reducible first | exact HB.out | apply below_alloc | apply pw_below_drewN | apply below_drew1 | refine below_set ?_ (IsS47.ge HI363.out)) | exact HB.out)) hb); replace HI363 := Aside0.mk (IsS47.below (by repeat (first | (with_reducible first | exact HI363.out | apply IsS47.alloc | apply IsS47.drewN | apply IsS47.drew) | exact HI363.out)) hb); (try clear hb); (try clear hb2); (try clear hk); (try clear hi)
    by_cases c12 : t368 = true
    · subst c12
      have H1 : ((impl_Book_hand.f k l0_0 l0_1 a1).bind fun t369 => (some t369)) = some r := by rw [if_pos rfl] at H; exact H
      clear H; have H := H1; clear H1; replace H := Option.bind_eq_some_iff.mp H; obtain ⟨t369, A130, H⟩ := H; replace H : (some t369) = some r := H; have A13 := Aside0.mk A130; clear A130; obtain rfl := Option.some.inj H
      go_wp2_with (first | ((first | ((with_reducible refine gate_callee (f := 91) rfl ?_); refine goesL_ (some 14) rfl rfl Try.func91 (by kernel_rfl) rfl #[.pointer (some ⟨gb363, 0, none⟩), .string a1] rfl (by (try simp only [List.map_toArray, List.map_cons, List.map_nil]); first | done | rfl | (simp only [List.length_drop, List.length_take]; rfl)) ?_; (with_reducible refine (impl_Book_hand.calls k gb363 l0_0 l0_1 a1 t369 w _ ?side1 ?side2 A13.out).mono ?_); (case side1 => repeat (first | (with_reducible first | exact HI363.out | apply IsS47.alloc | apply IsS47.drewN | apply IsS47.drew) | exact HI363.out)); (case side2 => repeat (first | (with_reducible first | exact HB.out | apply below_alloc | apply pw_below_drewN | apply below_drew1 | refine below_set ?_ (IsS47.ge HI363.out)) | exact HB.out)); rintro e w14 ⟨rfl, hi, hb, hk⟩; refine ⟨_, rfl, ?_⟩) | (go_at_call 91; (with_reducible refine (impl_Book_hand.calls k gb363 l0_0 l0_1 a1 t369 w _ ?side1 ?side2 A13.out).mono ?_); (case side1 => repeat (first | (with_reducible first | exact HI363.out | apply IsS47.alloc | apply IsS47.drewN | apply IsS47.drew) | exact HI363.out)); (case side2 => repeat (first | (with_reducible first | exact HB.out | apply below_alloc | apply pw_below_drewN | apply below_drew1 | refine below_set ?_ (IsS47.ge HI363.out)) | exact HB.out)); rintro e w14 ⟨rfl, hi, hb, hk⟩)); replace HO366 := Aside0.mk (Kd.R_mono (Kd.R_keep (IsS47.apart (show IsS47 w _ gb363 l0_0 l0_1 from by repeat (first | (with_reducible first | exact HI363.out | apply IsS47.alloc | apply IsS47.drewN | apply IsS47.drew) | exact HI363.out)) (rs HO366) (by decide)) hk (fun _ h => h.2)) (fun _ h => h.1)); replace HB := Aside0.mk (hb); replace HI363 := Aside0.mk (hi); (try clear hb); (try clear hb2); (try clear hk); (try clear hi)))
      go_ret
      exact ⟨ff, by repeat (first | (with_reducible first | exact HB.out | apply below_alloc | apply pw_below_drewN | apply below_drew1 | refine below_set ?_ (IsS47.ge HI363.out)) | exact HB.out)⟩
    · replace c12 := Bool.eq_false_iff.mpr c12; subst c12
      have H1 : (some 0) = some r := by rw [if_neg (show ¬ (false = true) by decide)] at H; exact H
      clear H; have H := H1; clear H1; obtain rfl := Option.some.inj H
      go_wp2
      go_ret
      exact ⟨ff, by repeat (first | (with_reducible first | exact HB.out | apply below_alloc | apply pw_below_drewN | apply below_drew1 | refine below_set ?_ (IsS47.ge HI363.out)) | exact HB.out)⟩
end Go.Proofs.Ytefmkmhjbfpelaa.QT
namespace Go.Proofs.Ytefmkmhjbfpelaa.QT
open Go.RowKit Go.Proofs.YtefmkmhjbfpelaaW.PrintWords Go.Proofs.YtefmkmhjbfpelaaW.PrintLast Go.Proofs.YtefmkmhjbfpelaaW.PrintMore
attribute [local go_sem] max2_int min2_int max_two min_two max_three min_three max_four min_four   -- for this text's walks alone
set_option linter.unusedVariables false
set_option linter.unusedSimpArgs false
set_option maxHeartbeats 8000000 in
set_option maxRecDepth 100000 in
theorem laws_FnExactBookHand.calls (k : Nat) (A0_0 : Option Addr) (c0_0 : Nat) (l0_0 : List (S154)) (A0_1 : Option Addr) (c0_1 : Nat) (l0_1 : List (S74)) (a1 : ByteArray) (r : Bool) (w : World) (hr0_0 : Kd.C k154 w A0_0 l0_0.length l0_0) (hc0_0 : l0_0.length ≤ c0_0) (hr0_1 : Kd.C k74 w A0_1 l0_1.length l0_1) (hc0_1 : l0_1.length ≤ c0_1) (h : laws_FnExactBookHand.f k l0_0 l0_1 a1 = some r) :
    Calls Try.prog 6 #[.agg #[.slice A0_0 l0_0.length c0_0, .slice A0_1 l0_1.length c0_1], .string a1] w fun e w' => e = .returned (.bool r) ∧ Below w.heap.size w w' := by
  have hu41 := Try.underlying41; have hu47 := Try.underlying47; have HR0_0 := Aside0.mk hr0_0; have HC0_0 := Aside0.mk hc0_0; clear hr0_0 hc0_0; have HR0_1 := Aside0.mk hr0_1; have HC0_1 := Aside0.mk hc0_1; clear hr0_1 hc0_1; have HB := Aside0.mk (Below.refl w.heap.size w); have H : (if (a1.size : Int) > 1048576 then (some true) else ((laws_szBook.f k l0_0 l0_1 1048576).bind fun t371 => (if t371 < 0 then (some true) else ((laws_toBook.f k l0_0 l0_1).bind fun bt372 => ((spec_BookHand.f k bt372.1 bt372.2 a1).bind fun t378 => ((laws_toBook.f k l0_0 l0_1).bind fun bt379 => ((impl_BookHand.f k bt379.1 bt379.2 a1).bind fun t386 => (if t386 = t378 then ((laws_toBook.f k l0_0 l0_1).bind fun bt387 => ((laws_eqBook.f k bt379.1 bt379.2 bt387.1 bt387.2).bind fun t393 => (if t393 = true then (some true) else (some false)))) else (some false))))))))) = some r := h; clear h
  by_cases c3 : (a1.size : Int) > 1048576
  · rw [if_pos c3] at H; have c3b0 : decide (1048576 < (a1.size : Int)) = true := decide_eq_true c3; have c3b1 : decide (1048576 < a1.size) = true := decide_eq_true (by omega); clear c3; obtain rfl := Option.some.inj H
    go_enter Try.func6, Try.ntmps6
    go_wp2_with (first | ((with_reducible refine gate_dst (N := 2) rfl ?_); refine bx 2 (cs := #[.slice A0_0 l0_0.length c0_0, .slice A0_1 l0_1.length c0_1]) (t := 41) ?_; intro gb370 hg w4 hbox hb; have BK370 := Aside0.mk (hbox); have GW370 := Aside0.mk ((gs hg (bs HB))); have GE370 := Aside0.mk ((gs hg (bs HB))); replace HB := Aside0.mk (below_step (bs HB) hb); clear hb hbox hg))
    go_ret
    exact ⟨ff, bs HB⟩
  · rw [if_neg c3] at H; have c3b0 : decide (1048576 < (a1.size : Int)) = false := decide_eq_false c3; have c3b1 : decide (1048576 < a1.size) = false := decide_eq_false (by omega); clear c3; replace H := Option.bind_eq_some_iff.mp H; obtain ⟨t371, A50, H⟩ := H; replace H : (if t371 < 0 then (some true) else ((laws_toBook.f k l0_0 l0_1).bind fun bt372 => ((spec_BookHand.f k bt372.1 bt372.2 a1).bind fun t378 => ((laws_toBook.f k l0_0 l0_1).bind fun bt379 => ((impl_BookHand.f k bt379.1 bt379.2 a1).bind fun t386 => (if t386 = t378 then ((laws_toBook.f k l0_0 l0_1).bind fun bt387 => ((laws_eqBook.f k bt379.1 bt379.2 bt387.1 bt387.2).bind fun t393 => (if t393 = true then (some true) else (some false)))) else (some false))))))) = some r := H; have A5 := Aside0.mk A50; clear A50
    go_enter Try.func6, Try.ntmps6
    try go_wp2_with (first | ((with_reducible refine gate_dst (N := 2) rfl ?_); refine bx 2 (cs := #[.slice A0_0 l0_0.length c0_0, .slice A0_1 l0_1.length c0_1]) (t := 41) ?_; intro gb370 hg w6 hbox hb; have BK370 := Aside0.mk (hbox); have GW370 := Aside0.mk ((gs hg (bs HB))); have GE370 := Aside0.mk ((gs hg (bs HB))); replace HB := Aside0.mk (below_step (bs HB) hb); clear hb hbox hg; obtain ⟨hcz7_0, hcz7_1, hfz7_0, hfz7_1⟩ := cf2 BK370))
    go_at_call 22; (with_reducible refine (laws_szBook.calls k _ _ l0_0 _ _ l0_1 1048576 t371 _ (Kd.C_below HR0_0.out (bs HB)) HC0_0.out (Kd.C_below HR0_1.out (bs HB)) HC0_1.out A5.out).mono ?_); rintro e w8 ⟨rfl, hb⟩; replace BK370 := Aside0.mk (blk_below (ks BK370) hb); replace HB := Aside0.mk (below_step (bs HB) hb); (try clear hb); (try clear hb2); (try clear hk); (try clear hi)
    by_cases c9 : t371 < 0
    · rw [if_pos c9] at H; have c9b0 : decide (t371 < 0) = true := decide_eq_true c9; clear c9; obtain rfl := Option.some.inj H
      go_wp2
      go_ret
      exact ⟨ff, bs HB⟩
    · rw [if_neg c9] at H; have c9b0 : decide (t371 < 0) = false := decide_eq_false c9; clear c9; replace H := Option.bind_eq_some_iff.mp H; obtain ⟨⟨t372, t375⟩, A100, H⟩ := H; replace H : ((spec_BookHand.f k t372 t375 a1).bind fun t378 => ((laws_toBook.f k l0_0 l0_1).bind fun bt379 => ((impl_BookHand.f k bt379.1 bt379.2 a1).bind fun t386 => (if t386 = t378 then ((laws_toBook.f k l0_0 l0_1).bind fun bt387 => ((laws_eqBook.f k bt379.1 bt379.2 bt387.1 bt387.2).bind fun t393 => (if t393 = true then (some true) else (some false)))) else (some false))))) = some r := H; have A10 := Aside0.mk A100; clear A100; obtain ⟨hcz11_0, hcz11_1, hfz11_0, hfz11_1⟩ := cf2 BK370
      try go_wp2_with (fail)
      go_at_call 24; (with_reducible refine (laws_toBook.calls k _ _ l0_0 _ _ l0_1 t372 t375 _ (Kd.C_below HR0_0.out (bs HB)) HC0_0.out (Kd.C_below HR0_1.out (bs HB)) HC0_1.out A10.out).mono ?_); rintro e w12 ⟨v373, v376, rfl, ho0, ho1, hb⟩; have HO374 := Aside0.mk (Kd.R_lower ho0 (below_size (bs HB))); have HO377 := Aside0.mk (Kd.R_lower ho1 (below_size (bs HB))); replace BK370 := Aside0.mk (blk_below (ks BK370) hb); replace HB := Aside0.mk (below_step (bs HB) hb); (try clear hb); (try clear hb2); (try clear hk); (try clear hi); (try clear ho0); (try clear ho1); replace H := Option.bind_eq_some_iff.mp H; obtain ⟨t378, A130, H⟩ := H; replace H : ((laws_toBook.f k l0_0 l0_1).bind fun bt379 => ((impl_BookHand.f k bt379.1 bt379.2 a1).bind fun t386 => (if t386 = t378 then ((laws_toBook.f k l0_0 l0_1).bind fun bt387 => ((laws_eqBook.f k bt379.1 bt379.2 bt387.1 bt387.2).bind fun t393 => (if t393 = true then (some true) else (some false)))) else (some false)))) = some r := H; have A13 := Aside0.mk A130; clear A130; obtain ⟨Ao14, co14, eo14⟩ := Kd.R_slice HO374.out; subst eo14; obtain ⟨Ao15, co15, eo15⟩ := Kd.R_slice HO377.out; subst eo15
      try go_wp2_with (fail)
      go_at_call 29; (with_reducible refine (spec_BookHand.calls k _ _ t372 _ _ t375 a1 t378 _ ?side1 ?side2 ?side3 ?side4 A13.out).mono ?_); (case side1 => repeat (first | exact (Kd.R_reads' HO374.out).2.2 | (with_reducible refine Kd.C_alloc ?_ _) | (with_reducible refine Kd.C_drewN ?_ _) | (with_reducible refine Kd.C_drew ?_))); (case side2 => exact (Kd.R_reads' HO374.out).2.1); (case side3 => repeat (first | exact (Kd.R_reads' HO377.out).2.2 | (with_reducible refine Kd.C_alloc ?_ _) | (with_reducible refine Kd.C_drewN ?_ _) | (with_reducible refine Kd.C_drew ?_))); (case side4 => exact (Kd.R_reads' HO377.out).2.1); rintro e w16 ⟨rfl, hb⟩; replace HO374 := Aside0.mk (Kd.R_below (rs HO374) hb); replace HO377 := Aside0.mk (Kd.R_below (rs HO377) hb); replace BK370 := Aside0.mk (blk_below (ks BK370) hb); replace HB := Aside0.mk (below_step (bs HB) hb); (try clear hb); (try clear hb2); (try clear hk); (try clear hi); replace H := Option.bind_eq_some_iff.mp H; obtain ⟨⟨t379, t382⟩, A170, H⟩ := H; replace H : ((impl_BookHand.f k t379 t382 a1).bind fun t386 => (if t386 = t378 then ((laws_toBook.f k l0_0 l0_1).bind fun bt387 => ((laws_eqBook.f k t379 t382 bt387.1 bt387.2).bind fun t393 => (if t393 = true then (some true) else (some false)))) else (some false))) = some r := H; have A17 := Aside0.mk A170; clear A170; obtain ⟨hcz18_0, hcz18_1, hfz18_0, hfz18_1⟩ := cf2 BK370
      try go_wp2_with (fail)
      go_at_call 24; (with_reducible refine (laws_toBook.calls k _ _ l0_0 _ _ l0_1 t379 t382 _ (Kd.C_below HR0_0.out (bs HB)) HC0_0.out (Kd.C_below HR0_1.out (bs HB)) HC0_1.out A17.out).mono ?_); rintro e w19 ⟨v380, v383, rfl, ho0, ho1, hb⟩; have HO381 := Aside0.mk (Kd.R_lower (Kd.R_new' ho0 (Kd.R_lt (rs HO374))) (below_size (bs HB))); replace HO374 := Aside0.mk (Kd.R_elder' (rs HO374) (Kd.R_base ho0) hb); have HO384 := Aside0.mk (Kd.R_lower (Kd.R_new' ho1 (Kd.R_lt (rs HO377))) (below_size (bs HB))); replace HO377 := Aside0.mk (Kd.R_elder' (rs HO377) (Kd.R_base ho1) hb); replace BK370 := Aside0.mk (blk_below (ks BK370) hb); replace HB := Aside0.mk (below_step (bs HB) hb); (try clear hb); (try clear hb2); (try clear hk); (try clear hi); (try clear ho0); (try clear ho1); replace H := Option.bind_eq_some_iff.mp H; obtain ⟨t386, A200, H⟩ := H; replace H : (if t386 = t378 then ((laws_toBook.f k l0_0 l0_1).bind fun bt387 => ((laws_eqBook.f k t379 t382 bt387.1 bt387.2).bind fun t393 => (if t393 = true then (some true) else (some false)))) else (some false)) = some r := H; have A20 := Aside0.mk A200; clear A200
      try go_wp2_with (first | ((with_reducible refine gate_dst (N := 7) rfl ?_); refine bx 7 (cs := #[.slice none 0 0, .slice none 0 0]) (t := 47) ?_; intro gb385 hg w21 hbox hb; replace HO374 := Aside0.mk (Kd.R_below (rs HO374) hb); replace HO377 := Aside0.mk (Kd.R_below (rs HO377) hb); replace HO381 := Aside0.mk (Kd.R_below (rs HO381) hb); replace HO384 := Aside0.mk (Kd.R_below (rs HO384) hb); have BK385 := Aside0.mk (hbox); have GW385 := Aside0.mk ((gs hg (bs HB))); have GE385 := Aside0.mk ((gs hg (bs HB))); replace HB := Aside0.mk (below_step (bs HB) hb); have NB370_385 := Aside0.mk ((gn hg (ks BK370))); have NB385_370 := Aside0.mk ((gm hg (ks BK370))); replace BK370 := Aside0.mk (blk_below (ks BK370) hb); clear hb hbox hg; obtain ⟨Ao22, co22, eo22⟩ := Kd.R_slice HO381.out; subst eo22; have hnb23 := NB385_370.out; have hnc23 := NB370_385.out; obtain ⟨hcz24_0, hcz24_1, hfz24_0, hfz24_1⟩ := cf2 BK385; obtain ⟨Ao25, co25, eo25⟩ := Kd.R_slice HO384.out; subst eo25))
      go_at_call 30; (with_reducible refine (impl_BookHand.calls k _ _ t379 _ _ t382 a1 t386 _ ?side1 ?side2 ?side3 ?side4 A20.out).mono ?_); (case side1 => refine (Kd.R_reads' (e := 117) (base := w.heap.size) (ok := fun k_ => (True ∧ some k_ ≠ (.slice Ao14 t372.length co14 : Value).ownBlock)) (n := t379.length) (c := co22) ?_).2.2; exact (by (with_reducible repeat (first | apply Kd.R_alloc | apply Kd.R_drewN | apply Kd.R_drew)); exact (Kd.R_mono (rf (Kd.R_types HO381.out BK385.out (by decide))) (fun _ h_ => h_.1)))); (case side2 => exact (Kd.R_reads' HO381.out).2.1); (case side3 => refine (Kd.R_reads' (e := 54) (base := w.heap.size) (ok := fun k_ => (True ∧ some k_ ≠ (.slice Ao15 t375.length co15 : Value).ownBlock)) (n := t382.length) (c := co25) ?_).2.2; exact (by (with_reducible repeat (first | apply Kd.R_alloc | apply Kd.R_drewN | apply Kd.R_drew)); exact (Kd.R_mono (rf (Kd.R_types HO384.out BK385.out (by decide))) (fun _ h_ => h_.1)))); (case side4 => exact (Kd.R_reads' HO384.out).2.1); rintro e w26 ⟨rfl, hb⟩; have n0_ := Aside0.mk (Kd.R_below (by (with_reducible repeat (first | apply Kd.R_alloc | apply Kd.R_drewN | apply Kd.R_drew)); exact (Kd.R_mono (rf (Kd.R_types HO374.out BK385.out (by decide))) (fun _ h_ => h_.1))) hb); have n1_ := Aside0.mk (Kd.R_below (by (with_reducible repeat (first | apply Kd.R_alloc | apply Kd.R_drewN | apply Kd.R_drew)); exact (Kd.R_mono (rf (Kd.R_types HO377.out BK385.out (by decide))) (fun _ h_ => h_.1))) hb); have n2_ := Aside0.mk (Kd.R_below (by (with_reducible repeat (first | apply Kd.R_alloc | apply Kd.R_drewN | apply Kd.R_drew)); exact (Kd.R_mono (rf (Kd.R_types HO381.out BK385.out (by decide))) (fun _ h_ => h_.1))) hb); have n3_ := Aside0.mk (Kd.R_below (by (with_reducible repeat (first | apply Kd.R_alloc | apply Kd.R_drewN | apply Kd.R_drew)); exact (Kd.R_mono (rf (Kd.R_types HO384.out BK385.out (by decide))) (fun _ h_ => h_.1))) hb); have n4_ := Aside0.mk (blk_below (ks BK370) hb); have n5_ := Aside0.mk (blk_below (g := gb385) (o := .cells #[.slice Ao22 t379.length co22, .slice Ao25 t382.length co25] 47 (0, 0)) (kp BK385) hb); have n6_ := Aside0.mk (below_step (bs HB) hb); clear HO374; clear HO377; clear HO381; clear HO384; clear BK370; clear BK385; clear HB; have HO374 := n0_; have HO377 := n1_; have HO381 := n2_; have HO384 := n3_; have BK370 := n4_; have BK385 := n5_; have HB := n6_; clear n0_ n1_ n2_ n3_ n4_ n5_ n6_; (try clear hb); (try clear hb2); (try clear hk); (try clear hi)
      by_cases c27 : t386 = t378
      · rw [if_pos c27] at H; have c27b0 : (t386 == t378) = true := beq_iff_eq.mpr c27; have c27b1 : (t386 != t378) = false := bne_eq_false_iff_eq.mpr c27; clear c27; replace H := Option.bind_eq_some_iff.mp H; obtain ⟨⟨t387, t390⟩, A280, H⟩ := H; replace H : ((laws_eqBook.f k t379 t382 t387 t390).bind fun t393 => (if t393 = true then (some true) else (some false))) = some r := H; have A28 := Aside0.mk A280; clear A280; replace H := Option.bind_eq_some_iff.mp H; obtain ⟨t393, A290, H⟩ := H; replace H : (if t393 = true then (some true) else (some false)) = some r := H; have A29 := Aside0.mk A290; clear A290
        by_cases c30 : t393 = true
        · subst c30
          have H1 : (some true) = some r := by rw [if_pos rfl] at H; exact H
          clear H; have H := H1; clear H1; obtain rfl := Option.some.inj H
          try go_wp2
          replace HO374 := Aside0.mk (Kd.R_drew HO374.out); replace HO377 := Aside0.mk (Kd.R_drew HO377.out); replace HO381 := Aside0.mk (Kd.R_drew HO381.out); replace HO384 := Aside0.mk (Kd.R_drew HO384.out); replace BK370 := Aside0.mk (blk_drew BK370.out); replace BK385 := Aside0.mk (blk_drew BK385.out); replace HB := Aside0.mk (below_drew1 HB.out); refine start_ (n := 5) (S := fun w' => w'.cell? ⟨gb385, 0, none⟩ = some (.slice Ao22 t379.length co22) ∧ w'.cell? ⟨gb385, 1, none⟩ = some (.slice Ao25 t382.length co25) ∧ w'.cell? ⟨gb370, 0, none⟩ = some (.slice A0_0 l0_0.length c0_0) ∧ w'.cell? ⟨gb370, 1, none⟩ = some (.slice A0_1 l0_1.length c0_1)) (ds := []) #[false, false, false, false, false] (by kernel_rfl) rfl rfl ⟨(blk_cell BK385.out 0).trans rfl, (blk_cell BK385.out 1).trans rfl, (blk_cell BK370.out 0).trans rfl, (blk_cell BK370.out 1).trans rfl⟩ (fun hHeld => ?_)
          generalize w26.drew = w31 at HO374 HO377 HO381 HO384 BK370 BK385 HB hHeld ⊢
          refine take_ (i := 0) (N := some 29) (v := ?_) (a' := ?_) #[true, false, false, false, false] rfl rfl (by kernel_rfl) (fun _ _ _ h => h) (Or.inl ⟨by rfl, ?_⟩) hHeld ?_ ?_
          rotate_left
          · rintro w' ⟨s0, s1, s2, s3⟩
            go_simp
            (with_reducible rfl)
          rotate_left
          · simp only [Act.put, List.setIfInBounds_toArray, List.set_cons_zero, List.set_cons_succ, i64_w, i32_w]
            rfl
          refine take_ (i := 1) (N := some 30) (v := ?_) (a' := ?_) #[true, true, false, false, false] rfl rfl (by kernel_rfl) (fun _ _ _ h => h) (Or.inl ⟨by rfl, ?_⟩) hHeld ?_ ?_
          rotate_left
          · rintro w' ⟨s0, s1, s2, s3⟩
            go_simp
            (with_reducible rfl)
          rotate_left
          · simp only [Act.put, List.setIfInBounds_toArray, List.set_cons_zero, List.set_cons_succ, i64_w, i32_w]
            rfl
          refine one_ (i := 2) (N := some 31) #[true, true, true, false, false] rfl rfl (by kernel_rfl) (by decide) (fun K hK => ?_); refine gA Try.func24 #[.agg #[.slice A0_0 l0_0.length c0_0, .slice A0_1 l0_1.length c0_1]] ?_; (with_reducible refine (laws_toBook.calls k _ _ l0_0 _ _ l0_1 t387 t390 _ ?side1 ?side2 ?side3 ?side4 A28.out).mono ?_)
          (case side1 => repeat (first | exact (Kd.C_below HR0_0.out HB.out) | (with_reducible refine Kd.C_alloc ?_ _) | (with_reducible refine Kd.C_drewN ?_ _) | (with_reducible refine Kd.C_drew ?_)))
          (case side2 => exact HC0_0.out)
          (case side3 => repeat (first | exact (Kd.C_below HR0_1.out HB.out) | (with_reducible refine Kd.C_alloc ?_ _) | (with_reducible refine Kd.C_drewN ?_ _) | (with_reducible refine Kd.C_drew ?_)))
          (case side4 => exact HC0_1.out)
          rintro e w32 ⟨v388, v391, rfl, ho0, ho1, hb⟩; refine ⟨_, rfl, ?_⟩; have HO389 := Aside0.mk (Kd.R_lower (Kd.R_new' (Kd.R_new' ho0 (Kd.R_lt (rs HO374))) (Kd.R_lt (rs HO381))) (below_size (bs HB))); replace HO374 := Aside0.mk (Kd.R_elder' (rs HO374) (Kd.R_base ho0) hb); replace HO381 := Aside0.mk (Kd.R_elder' (rs HO381) (Kd.R_base ho0) hb); have HO392 := Aside0.mk (Kd.R_lower (Kd.R_new' (Kd.R_new' ho1 (Kd.R_lt (rs HO377))) (Kd.R_lt (rs HO384))) (below_size (bs HB))); replace HO377 := Aside0.mk (Kd.R_elder' (rs HO377) (Kd.R_base ho1) hb); replace HO384 := Aside0.mk (Kd.R_elder' (rs HO384) (Kd.R_base ho1) hb); replace BK370 := Aside0.mk (blk_below (ks BK370) hb); replace BK385 := Aside0.mk (blk_below (ks BK385) hb); replace HB := Aside0.mk (below_step (bs HB) hb); (try clear hb); (try clear hb2); (try clear hk); (try clear hi); (try clear ho0); (try clear ho1); obtain ⟨Ao33, co33, eo33⟩ := Kd.R_slice HO389.out
          (first | subst eo33 | (injection eo33 with f1_ f2_ f3_; have f4_ := f1_.symm; have f5_ := f3_.symm; clear f1_ f2_ f3_; subst f4_; subst f5_))
          obtain ⟨Ao34, co34, eo34⟩ := Kd.R_slice HO392.out
          (first | subst eo34 | (injection eo34 with f1_ f2_ f3_; have f4_ := f1_.symm; have f5_ := f3_.symm; clear f1_ f2_ f3_; subst f4_; subst f5_))
          refine hK.out _ _ ⟨(blk_cell BK385.out 0).trans rfl, (blk_cell BK385.out 1).trans rfl, (blk_cell BK370.out 0).trans rfl, (blk_cell BK370.out 1).trans rfl⟩ (fun hHeld => ?_); clear hK K; refine nA 31 ?_; refine one_ (i := 3) (N := some 32) #[true, true, true, true, false] rfl rfl (by kernel_rfl) (by decide) (fun K hK => ?_); refine gA Try.func26 #[.agg #[.slice Ao22 t379.length co22, .slice Ao25 t382.length co25], .agg #[.slice Ao33 t387.length co33, .slice Ao34 t390.length co34]] ?_; (with_reducible refine (laws_eqBook.calls k _ _ t379 _ _ t382 _ _ t387 _ _ t390 true _ ?side1 ?side2 ?side3 ?side4 ?side5 ?side6 ?side7 ?side8 A29.out).mono ?_)
          (case side1 => repeat (first | exact (Kd.R_reads' HO381.out).2.2 | (with_reducible refine Kd.C_alloc ?_ _) | (with_reducible refine Kd.C_drewN ?_ _) | (with_reducible refine Kd.C_drew ?_)))
          (case side2 => exact (Kd.R_reads' HO381.out).2.1)
          (case side3 => repeat (first | exact (Kd.R_reads' HO384.out).2.2 | (with_reducible refine Kd.C_alloc ?_ _) | (with_reducible refine Kd.C_drewN ?_ _) | (with_reducible refine Kd.C_drew ?_)))
          (case side4 => exact (Kd.R_reads' HO384.out).2.1)
          (case side5 => repeat (first | exact (Kd.R_reads' HO389.out).2.2 | (with_reducible refine Kd.C_alloc ?_ _) | (with_reducible refine Kd.C_drewN ?_ _) | (with_reducible refine Kd.C_drew ?_)))
          (case side6 => exact (Kd.R_reads' HO389.out).2.1)
          (case side7 => repeat (first | exact (Kd.R_reads' HO392.out).2.2 | (with_reducible refine Kd.C_alloc ?_ _) | (with_reducible refine Kd.C_drewN ?_ _) | (with_reducible refine Kd.C_drew ?_)))
          (case side8 => exact (Kd.R_reads' HO392.out).2.1)
          rintro e w35 ⟨rfl, hb⟩; refine ⟨_, rfl, ?_⟩; replace HO374 := Aside0.mk (Kd.R_below (rs HO374) hb); replace HO377 := Aside0.mk (Kd.R_below (rs HO377) hb); replace HO381 := Aside0.mk (Kd.R_below (rs HO381) hb); replace HO384 := Aside0.mk (Kd.R_below (rs HO384) hb); replace HO389 := Aside0.mk (Kd.R_below (rs HO389) hb); replace HO392 := Aside0.mk (Kd.R_below (rs HO392) hb); replace BK370 := Aside0.mk (blk_below (ks BK370) hb); replace BK385 := Aside0.mk (blk_below (ks BK385) hb); replace HB := Aside0.mk (below_step (bs HB) hb); (try clear hb); (try clear hb2); (try clear hk); (try clear hi); refine hK.out _ _ ⟨(blk_cell BK385.out 0).trans rfl, (blk_cell BK385.out 1).trans rfl, (blk_cell BK370.out 0).trans rfl, (blk_cell BK370.out 1).trans rfl⟩ (fun hHeld => ?_); clear hK K; refine nA 32 ?_; refine pure_ (i := 4) (N := some 33) (v := ?_) (a' := ?_) #[true, true, true, true, true] rfl rfl (by kernel_rfl) (fun _ _ _ h => h) (Or.inl ⟨by rfl, ?_⟩) ?_ ?_
          rotate_left
          · intro w'
            go_simp
            (with_reducible rfl)
          rotate_left
          · simp only [Act.put, List.setIfInBounds_toArray, List.set_cons_zero, List.set_cons_succ, i64_w, i32_w]
            rfl
          refine done_ (by kernel_rfl) ?_
          try go_wp2
          go_ret
          exact ⟨ff, bs HB⟩
        · replace c30 := Bool.eq_false_iff.mpr c30; subst c30
          have H1 : (some false) = some r := by rw [if_neg (show ¬ (false = true) by decide)] at H; exact H
          clear H; have H := H1; clear H1; obtain rfl := Option.some.inj H
          try go_wp2
          replace HO374 := Aside0.mk (Kd.R_drew HO374.out); replace HO377 := Aside0.mk (Kd.R_drew HO377.out); replace HO381 := Aside0.mk (Kd.R_drew HO381.out); replace HO384 := Aside0.mk (Kd.R_drew HO384.out); replace BK370 := Aside0.mk (blk_drew BK370.out); replace BK385 := Aside0.mk (blk_drew BK385.out); replace HB := Aside0.mk (below_drew1 HB.out); refine start_ (n := 5) (S := fun w' => w'.cell? ⟨gb385, 0, none⟩ = some (.slice Ao22 t379.length co22) ∧ w'.cell? ⟨gb385, 1, none⟩ = some (.slice Ao25 t382.length co25) ∧ w'.cell? ⟨gb370, 0, none⟩ = some (.slice A0_0 l0_0.length c0_0) ∧ w'.cell? ⟨gb370, 1, none⟩ = some (.slice A0_1 l0_1.length c0_1)) (ds := []) #[false, false, false, false, false] (by kernel_rfl) rfl rfl ⟨(blk_cell BK385.out 0).trans rfl, (blk_cell BK385.out 1).trans rfl, (blk_cell BK370.out 0).trans rfl, (blk_cell BK370.out 1).trans rfl⟩ (fun hHeld => ?_)
          generalize w26.drew = w36 at HO374 HO377 HO381 HO384 BK370 BK385 HB hHeld ⊢
          refine take_ (i := 0) (N := some 29) (v := ?_) (a' := ?_) #[true, false, false, false, false] rfl rfl (by kernel_rfl) (fun _ _ _ h => h) (Or.inl ⟨by rfl, ?_⟩) hHeld ?_ ?_
          rotate_left
          · rintro w' ⟨s0, s1, s2, s3⟩
            go_simp
            (with_reducible rfl)
          rotate_left
          · simp only [Act.put, List.setIfInBounds_toArray, List.set_cons_zero, List.set_cons_succ, i64_w, i32_w]
            rfl
          refine take_ (i := 1) (N := some 30) (v := ?_) (a' := ?_) #[true, true, false, false, false] rfl rfl (by kernel_rfl) (fun _ _ _ h => h) (Or.inl ⟨by rfl, ?_⟩) hHeld ?_ ?_
          rotate_left
          · rintro w' ⟨s0, s1, s2, s3⟩
            go_simp
            (with_reducible rfl)
          rotate_left
          · simp only [Act.put, List.setIfInBounds_toArray, List.set_cons_zero, List.set_cons_succ, i64_w, i32_w]
            rfl
          refine one_ (i := 2) (N := some 31) #[true, true, true, false, false] rfl rfl (by kernel_rfl) (by decide) (fun K hK => ?_); refine gA Try.func24 #[.agg #[.slice A0_0 l0_0.length c0_0, .slice A0_1 l0_1.length c0_1]] ?_; (with_reducible refine (laws_toBook.calls k _ _ l0_0 _ _ l0_1 t387 t390 _ ?side1 ?side2 ?side3 ?side4 A28.out).mono ?_)
          (case side1 => repeat (first | exact (Kd.C_below HR0_0.out HB.out) | (with_reducible refine Kd.C_alloc ?_ _) | (with_reducible refine Kd.C_drewN ?_ _) | (with_reducible refine Kd.C_drew ?_)))
          (case side2 => exact HC0_0.out)
          (case side3 => repeat (first | exact (Kd.C_below HR0_1.out HB.out) | (with_reducible refine Kd.C_alloc ?_ _) | (with_reducible refine Kd.C_drewN ?_ _) | (with_reducible refine Kd.C_drew ?_)))
          (case side4 => exact HC0_1.out)
          rintro e w37 ⟨v388, v391, rfl, ho0, ho1, hb⟩; refine ⟨_, rfl, ?_⟩; have HO389 := Aside0.mk (Kd.R_lower (Kd.R_new' (Kd.R_new' ho0 (Kd.R_lt (rs HO374))) (Kd.R_lt (rs HO381))) (below_size (bs HB))); replace HO374 := Aside0.mk (Kd.R_elder' (rs HO374) (Kd.R_base ho0) hb); replace HO381 := Aside0.mk (Kd.R_elder' (rs HO381) (Kd.R_base ho0) hb); have HO392 := Aside0.mk (Kd.R_lower (Kd.R_new' (Kd.R_new' ho1 (Kd.R_lt (rs HO377))) (Kd.R_lt (rs HO384))) (below_size (bs HB))); replace HO377 := Aside0.mk (Kd.R_elder' (rs HO377) (Kd.R_base ho1) hb); replace HO384 := Aside0.mk (Kd.R_elder' (rs HO384) (Kd.R_base ho1) hb); replace BK370 := Aside0.mk (blk_below (ks BK370) hb); replace BK385 := Aside0.mk (blk_below (ks BK385) hb); replace HB := Aside0.mk (below_step (bs HB) hb); (try clear hb); (try clear hb2); (try clear hk); (try clear hi); (try clear ho0); (try clear ho1); obtain ⟨Ao38, co38, eo38⟩ := Kd.R_slice HO389.out
          (first | subst eo38 | (injection eo38 with f1_ f2_ f3_; have f4_ := f1_.symm; have f5_ := f3_.symm; clear f1_ f2_ f3_; subst f4_; subst f5_))
          obtain ⟨Ao39, co39, eo39⟩ := Kd.R_slice HO392.out
          (first | subst eo39 | (injection eo39 with f1_ f2_ f3_; have f4_ := f1_.symm; have f5_ := f3_.symm; clear f1_ f2_ f3_; subst f4_; subst f5_))
          refine hK.out _ _ ⟨(blk_cell BK385.out 0).trans rfl, (blk_cell BK385.out 1).trans rfl, (blk_cell BK370.out 0).trans rfl, (blk_cell BK370.out 1).trans rfl⟩ (fun hHeld => ?_); clear hK K; refine nA 31 ?_; refine one_ (i := 3) (N := some 32) #[true, true, true, true, false] rfl rfl (by kernel_rfl) (by decide) (fun K hK => ?_); refine gA Try.func26 #[.agg #[.slice Ao22 t379.length co22, .slice Ao25 t382.length co25], .agg #[.slice Ao38 t387.length co38, .slice Ao39 t390.length co39]] ?_; (with_reducible refine (laws_eqBook.calls k _ _ t379 _ _ t382 _ _ t387 _ _ t390 false _ ?side1 ?side2 ?side3 ?side4 ?side5 ?side6 ?side7 ?side8 A29.out).mono ?_)
          (case side1 => repeat (first | exact (Kd.R_reads' HO381.out).2.2 | (with_reducible refine Kd.C_alloc ?_ _) | (with_reducible refine Kd.C_drewN ?_ _) | (with_reducible refine Kd.C_drew ?_)))
          (case side2 => exact (Kd.R_reads' HO381.out).2.1)
          (case side3 => repeat (first | exact (Kd.R_reads' HO384.out).2.2 | (with_reducible refine Kd.C_alloc ?_ _) | (with_reducible refine Kd.C_drewN ?_ _) | (with_reducible refine Kd.C_drew ?_)))
          (case side4 => exact (Kd.R_reads' HO384.out).2.1)
          (case side5 => repeat (first | exact (Kd.R_reads' HO389.out).2.2 | (with_reducible refine Kd.C_alloc ?_ _) | (with_reducible refine Kd.C_drewN ?_ _) | (with_reducible refine Kd.C_drew ?_)))
          (case side6 => exact (Kd.R_reads' HO389.out).2.1)
          (case side7 => repeat (first | exact (Kd.R_reads' HO392.out).2.2 | (with_reducible refine Kd.C_alloc ?_ _) | (with_reducible refine Kd.C_drewN ?_ _) | (with_reducible refine Kd.C_drew ?_)))
          (case side8 => exact (Kd.R_reads' HO392.out).2.1)
          rintro e w40 ⟨rfl, hb⟩; refine ⟨_, rfl, ?_⟩; replace HO374 := Aside0.mk (Kd.R_below (rs HO374) hb); replace HO377 := Aside0.mk (Kd.R_below (rs HO377) hb); replace HO381 := Aside0.mk (Kd.R_below (rs HO381) hb); replace HO384 := Aside0.mk (Kd.R_below (rs HO384) hb); replace HO389 := Aside0.mk (Kd.R_below (rs HO389) hb); replace HO392 := Aside0.mk (Kd.R_below (rs HO392) hb); replace BK370 := Aside0.mk (blk_below (ks BK370) hb); replace BK385 := Aside0.mk (blk_below (ks BK385) hb); replace HB := Aside0.mk (below_step (bs HB) hb); (try clear hb); (try clear hb2); (try clear hk); (try clear hi); refine hK.out _ _ ⟨(blk_cell BK385.out 0).trans rfl, (blk_cell BK385.out 1).trans rfl, (blk_cell BK370.out 0).trans rfl, (blk_cell BK370.out 1).trans rfl⟩ (fun hHeld => ?_); clear hK K; refine nA 32 ?_; refine pure_ (i := 4) (N := some 33) (v := ?_) (a' := ?_) #[true, true, true, true, true] rfl rfl (by kernel_rfl) (fun _ _ _ h => h) (Or.inl ⟨by rfl, ?_⟩) ?_ ?_
          rotate_left
          · intro w'
            go_simp
            (with_reducible rfl)
          rotate_left
          · simp only [Act.put, List.setIfInBounds_toArray, List.set_cons_zero, List.set_cons_succ, i64_w, i32_w]
            rfl
          refine done_ (by kernel_rfl) ?_
          try go_wp2
          go_ret
          exact ⟨ff, bs HB⟩
      · rw [if_neg c27] at H; have c27b0 : (t386 == t378) = false := beq_eq_false_iff_ne.mpr c27; have c27b1 : (t386 != t378) = true := bne_iff_ne.mpr c27; obtain rfl := Option.some.inj H
        go_wp2
        go_ret
        exact ⟨ff, bs HB⟩
end Go.Proofs.Ytefmkmhjbfpelaa.QT
namespace Go.Proofs.Ytefmkmhjbfpelaa.Rd
open Go.RowKit Go.ChangeShapes Go.WideShapes Go.Proofs.YtefmkmhjbfpelaaW.PrintWords
def Rd (P : Program) (t : TypeId) {α : Type} (d : Kd α) (wf : α → Prop) : Prop :=
  ∀ (H : Type) (enc : TypeId × Value → H) (w : World) (base : Nat) (sp : Nat → Bool) (held : Bool) (fuel : Nat) (cs : List Value) (x : DataW H × List MemPlace),
    DataW.trod enc P w base sp held fuel t cs = some x → ∃ a : α, d.K w a cs ∧ wf a
def RdF (P : Program) (fs : List Field) (off : Nat) {α : Type} (d : Kd α) (wf : α → Prop) : Prop :=
  ∀ (H : Type) (enc : TypeId × Value → H) (w : World) (base : Nat) (sp : Nat → Bool) (held : Bool) (n : Nat) (cs : List Value),
    cs.length = off + d.sz → (∀ f ∈ fs, ∃ y, DataW.trod enc P w base sp held n f.type ((cs.drop f.offset).take (P.cellsOf f.type)) = some y) → ∃ a : α, d.K w a (cs.drop off) ∧ wf a
def WfInt (k : IntKind) (n : Int) : Prop := (Lit.int k n).wf = true
def WfStr (s : ByteArray) : Prop := s.size ≤ maxLen
def WfRow {α : Type} (wf : α → Prop) (l : List α) : Prop := l.length ≤ maxLen ∧ ∀ x ∈ l, wf x
theorem rd_int {P : Program} {t : TypeId} {k : IntKind} (hu : P.underlying t = some (.int k)) : Rd P t (Kd.int k) (WfInt k) := by
  intro H enc w base sp held fuel cs x h
  cases fuel with
  | zero => simp [DataW.trod] at h
  | succ n =>
    match cs with
    | [.int k' m] =>
      simp only [DataW.trod, hu] at h
      split at h
      · rename_i hk
        obtain ⟨rfl, hw⟩ := hk
        exact ⟨m, rfl, hw⟩
      · cases h
    | [] => simp [DataW.trod, hu] at h
    | [.bool _] => simp [DataW.trod, hu] at h
    | [.float _ _] => simp [DataW.trod, hu] at h
    | [.complex _ _ _] => simp [DataW.trod, hu] at h
    | [.string _] => simp [DataW.trod, hu] at h
    | [.pointer _] => simp [DataW.trod, hu] at h
    | [.slice _ _ _] => simp [DataW.trod, hu] at h
    | [.map _] => simp [DataW.trod, hu] at h
    | [.chan _] => simp [DataW.trod, hu] at h
    | [.func _ _ _] => simp [DataW.trod, hu] at h
    | [.nilFunc] => simp [DataW.trod, hu] at h
    | [.iface _ _] => simp [DataW.trod, hu] at h
    | [.nilIface] => simp [DataW.trod, hu] at h
    | [.agg _] => simp [DataW.trod, hu] at h
    | [.tuple _] => simp [DataW.trod, hu] at h
    | _ :: _ :: _ => simp [DataW.trod, hu] at h
theorem rd_str {P : Program} {t : TypeId} (hu : P.underlying t = some .string) : Rd P t Kd.string WfStr := by
  intro H enc w base sp held fuel cs x h
  cases fuel with
  | zero => simp [DataW.trod] at h
  | succ n =>
    match cs with
    | [.string s] =>
      simp only [DataW.trod, hu] at h
      split at h
      · rename_i hk
        exact ⟨s, rfl, hk⟩
      · cases h
    | [] => simp [DataW.trod, hu] at h
    | [.int _ _] => simp [DataW.trod, hu] at h
    | [.bool _] => simp [DataW.trod, hu] at h
    | [.float _ _] => simp [DataW.trod, hu] at h
    | [.complex _ _ _] => simp [DataW.trod, hu] at h
    | [.pointer _] => simp [DataW.trod, hu] at h
    | [.slice _ _ _] => simp [DataW.trod, hu] at h
    | [.map _] => simp [DataW.trod, hu] at h
    | [.chan _] => simp [DataW.trod, hu] at h
    | [.func _ _ _] => simp [DataW.trod, hu] at h
    | [.nilFunc] => simp [DataW.trod, hu] at h
    | [.iface _ _] => simp [DataW.trod, hu] at h
    | [.nilIface] => simp [DataW.trod, hu] at h
    | [.agg _] => simp [DataW.trod, hu] at h
    | [.tuple _] => simp [DataW.trod, hu] at h
    | _ :: _ :: _ => simp [DataW.trod, hu] at h
theorem rdF_last {P : Program} {f : Field} {off : Nat} {α : Type} {d : Kd α} {wf : α → Prop} (h : Rd P f.type d wf) (ho : f.offset = off) (hc : P.cellsOf f.type = d.sz) : RdF P [f] off d wf := by
  intro H enc w base sp held n cs hl hy
  obtain ⟨y, hy⟩ := hy f (List.mem_singleton.2 rfl)
  rw [ho, hc, List.take_of_length_le (by rw [List.length_drop]; omega)] at hy
  exact h H enc w base sp held n _ y hy
theorem rdF_cons {P : Program} {f : Field} {fs : List Field} {off off2 : Nat} {α β : Type} {d : Kd α} {e : Kd β} {wf : α → Prop} {wg : β → Prop} (h : Rd P f.type d wf) (ho : f.offset = off) (hc : P.cellsOf f.type = d.sz)
    (h2 : off2 = off + d.sz) (hs : RdF P fs off2 e wg) : RdF P (f :: fs) off (Kd.pair d e) (fun x => wf x.1 ∧ wg x.2) := by
  intro H enc w base sp held n cs hl hy
  obtain ⟨y, hy1⟩ := hy f (List.mem_cons_self ..)
  have hl' : cs.length = off + (d.sz + e.sz) := hl
  obtain ⟨a, ha, hwa⟩ := h H enc w base sp held n _ y hy1
  obtain ⟨b, hb, hwb⟩ := hs H enc w base sp held n cs (by omega) (fun g hg => hy g (List.mem_cons_of_mem _ hg))
  rw [ho, hc] at ha
  refine ⟨(a, b), ⟨_, _, ?_, ha, hb⟩, hwa, hwb⟩
  rw [h2, ← List.drop_drop, List.take_append_drop]
theorem rd_struct {P : Program} {t : TypeId} {fs : Array Field} {α β : Type} {d : Kd α} {wf : α → Prop} {wg : β → Prop} (g : β → α) (gi : α → β) (hg : ∀ a, g (gi a) = a) (hwg : ∀ a, wf a → wg (gi a))
    (hu : P.underlying t = some (.struct fs)) (hc : P.cellsOf t = d.sz) (hF : RdF P fs.toList 0 d wf) : Rd P t (Kd.iso d g) wg := by
  intro H enc w base sp held fuel cs x h
  obtain ⟨xs, n, _, rfl, hl, hlen, hf⟩ := DataW.trod_struct hu h
  obtain ⟨a, ha, hwa⟩ := hF H enc w base sp held n cs (by omega) (fun f hfm => by
    obtain ⟨i, hi, rfl⟩ := List.mem_iff_getElem.1 hfm
    have hi' : i < fs.size := by simpa using hi
    have z := hf i (fs[i]) (by simp [hi'])
    rw [List.getElem?_eq_getElem (by omega)] at z
    exact ⟨_, by simpa using z⟩)
  refine ⟨gi a, ?_, hwg a hwa⟩
  show d.K w (g (gi a)) cs
  rw [hg]
  simpa using ha
theorem rd_slice {P : Program} {t e : TypeId} {α : Type} {d : Kd α} {wf : α → Prop} (hu : P.underlying t = some (.slice e)) (hc : P.cellsOf e = d.sz) (hd : Rd P e d wf) : Rd P t (Kd.slice e d) (WfRow wf) := by
  intro H enc w base sp held fuel cs x h
  rcases Go.Deep.open_slice hu h with ⟨rfl, _⟩ | ⟨a, len, cap, m, n, D, Pl, rfl, hb, hl, hm, hmm, _, hx⟩
  · exact ⟨[], ⟨none, 0, rfl, Nat.le_refl _, rfl, by simp, fun h => absurd h (by simp)⟩, by simp [maxLen], by simp⟩
  · have hlm : len ≤ m := by rw [hmm]; split <;> omega
    have hall : ∀ i, i < len → ∃ cs', w.cells? base (a.add (i * P.cellsOf e)) (P.cellsOf e) = some cs' ∧ DataW.trod enc P w base sp held n e cs' = some (D i, Pl i) := fun i hi => hx i (by omega)
    have key : ∀ (k : Nat), k ≤ len → ∃ l : List α, l.length = k ∧ (∀ x ∈ l, wf x) ∧ ∀ j p, l[j]? = some p → ∃ c, c.length = d.sz ∧ d.K w p c ∧ ∀ i u, c[i]? = some u → w.cell? (a.add (j * d.sz + i)) = some u := by
      intro k
      induction k with
      | zero => intro _; exact ⟨[], rfl, by simp, by simp⟩
      | succ k ih =>
        intro hk
        obtain ⟨l, hl1, hl2, hl3⟩ := ih (by omega)
        obtain ⟨cs', h1, h2⟩ := hall k (by omega)
        obtain ⟨b, hb1, hb2⟩ := hd H enc w base sp held n cs' _ h2
        refine ⟨l ++ [b], by simp [hl1], ?_, ?_⟩
        · intro z hz
          rcases List.mem_append.1 hz with hz | hz
          · exact hl2 z hz
          · rw [List.mem_singleton.1 hz]; exact hb2
        · intro j p hj
          by_cases hjl : j < l.length
          · rw [List.getElem?_append_left hjl] at hj
            exact hl3 j p hj
          · rw [List.getElem?_append_right (by omega)] at hj
            have hj0 : j - l.length = 0 := by
              cases hz : j - l.length with
              | zero => rfl
              | succ q => rw [hz] at hj; simp at hj
            rw [hj0] at hj
            obtain rfl : b = p := by simpa using hj
            have hjk : j = k := by omega
            subst hjk
            refine ⟨cs', d.K_len hb1, hb1, fun i u hu' => ?_⟩
            obtain ⟨_, hlen', hcell⟩ := World.cells?_some h1
            have hi : i < cs'.length := by
              rcases Nat.lt_or_ge i cs'.length with h | h
              · exact h
              · rw [List.getElem?_eq_none h] at hu'; cases hu'
            have z := hcell i (by omega)
            rw [hu', Go.Deep.add_add, hc] at z
            exact z
    obtain ⟨l, hl1, hl2, hl3⟩ := key len (Nat.le_refl _)
    refine ⟨l, ⟨some a, cap, by rw [hl1], by omega, ?_⟩, by rw [hl1]; exact Nat.le_trans hl hm, hl2⟩
    exact ⟨rfl, by rw [hl1]; have : cap ≤ 2 ^ 63 - 1 := hm; omega, fun _ => ⟨a, rfl, hl3⟩⟩
end Go.Proofs.Ytefmkmhjbfpelaa.Rd
namespace Go.Proofs.Ytefmkmhjbfpelaa.QT
open Go.RowKit Go.Proofs.Ytefmkmhjbfpelaa Go.Proofs.YtefmkmhjbfpelaaW.PrintWords
def wf154 (x : S154) : Prop := Rd.WfStr x.f0 ∧ (Rd.WfInt .i64) x.f1
def wf74 (x : S74) : Prop := Rd.WfStr x.f0 ∧ Rd.WfStr x.f1 ∧ (Rd.WfInt .i64) x.f2 ∧ Rd.WfStr x.f3 ∧ (Rd.WfInt .i64) x.f4 ∧ (Rd.WfInt .i64) x.f5 ∧ (Rd.WfInt .i64) x.f6 ∧ (Rd.WfInt .i64) x.f7
def wf41 (x : S41) : Prop := (Rd.WfRow wf154) x.f0 ∧ (Rd.WfRow wf74) x.f1
set_option maxRecDepth 100000 in
theorem rd154 : Rd.Rd Try.prog 154 k154 wf154 := Rd.rd_struct _ (fun a => ⟨a.1, a.2⟩) (fun _ => rfl) (fun _ h => h) Try.underlying154 (by kernel_rfl) (Rd.rdF_cons (Rd.rd_str (Try.underlying9)) rfl (by kernel_rfl) (off2 := 1) rfl (Rd.rdF_last (Rd.rd_int (Try.underlying2)) rfl (by kernel_rfl)))
set_option maxRecDepth 100000 in
theorem rd74 : Rd.Rd Try.prog 74 k74 wf74 := Rd.rd_struct _ (fun a => ⟨a.1, a.2.1, a.2.2.1, a.2.2.2.1, a.2.2.2.2.1, a.2.2.2.2.2.1, a.2.2.2.2.2.2.1, a.2.2.2.2.2.2.2⟩) (fun _ => rfl) (fun _ h => h) Try.underlying74 (by kernel_rfl) (Rd.rdF_cons (Rd.rd_str (Try.underlying9)) rfl (by kernel_rfl) (off2 := 1) rfl (Rd.rdF_cons (Rd.rd_str (Try.underlying9)) rfl (by kernel_rfl) (off2 := 2) rfl (Rd.rdF_cons (Rd.rd_int (Try.underlying2)) rfl (by kernel_rfl) (off2 := 3) rfl (Rd.rdF_cons (Rd.rd_str (Try.underlying9)) rfl (by kernel_rfl) (off2 := 4) rfl (Rd.rdF_cons (Rd.rd_int (Try.underlying2)) rfl (by kernel_rfl) (off2 := 5) rfl (Rd.rdF_cons (Rd.rd_int (Try.underlying2)) rfl (by kernel_rfl) (off2 := 6) rfl (Rd.rdF_cons (Rd.rd_int (Try.underlying2)) rfl (by kernel_rfl) (off2 := 7) rfl (Rd.rdF_last (Rd.rd_int (Try.underlying2)) rfl (by kernel_rfl)))))))))
set_option maxRecDepth 100000 in
theorem rd41 : Rd.Rd Try.prog 41 k41 wf41 := Rd.rd_struct _ (fun a => ⟨a.1, a.2⟩) (fun _ => rfl) (fun _ h => h) Try.underlying41 (by kernel_rfl) (Rd.rdF_cons (Rd.rd_slice Try.underlying38 (by kernel_rfl) rd154) rfl (by kernel_rfl) (off2 := 1) rfl (Rd.rdF_last (Rd.rd_slice Try.underlying39 (by kernel_rfl) rd74) rfl (by kernel_rfl)))
end Go.Proofs.Ytefmkmhjbfpelaa.QT
namespace Go.Proofs.Ytefmkmhjbfpelaa.QT
open Go.Proofs.Ytefmkmhjbfpelaa Go.Proofs.YtefmkmhjbfpelaaW.PrintWords
def laws_FnExactBookHand.Pure : Prop := ∀ (l0_0 : List (S154)) (l0_1 : List (S74)) (a1 : ByteArray), (Rd.WfRow wf154) l0_0 → (Rd.WfRow wf74) l0_1 → Rd.WfStr a1 → ∃ k, laws_FnExactBookHand.f k l0_0 l0_1 a1 = some true
end Go.Proofs.Ytefmkmhjbfpelaa.QT
namespace Go.Proofs.Ytefmkmhjbfpelaa.Ev0
open Go.RowKit Go.Proofs.YtefmkmhjbfpelaaW.PrintWords
def Evt {α : Type} (f : Nat → Option α) (r : α) : Prop := ∃ K, ∀ k, K ≤ k → f k = some r
namespace Evt
variable {α β : Type}
theorem const {o : Option α} {r : α} (h : o = some r) : Evt (fun _ => o) r := ⟨0, fun _ _ => h⟩
theorem pure (r : α) : Evt (fun _ => some r) r := ⟨0, fun _ _ => rfl⟩
theorem bind {f : Nat → Option α} {g : Nat → α → Option β} {a : α} {r : β} (h : Evt f a) (h2 : Evt (fun k => g k a) r) : Evt (fun k => (f k).bind (g k)) r := by
  obtain ⟨K, hK⟩ := h
  obtain ⟨L, hL⟩ := h2
  refine ⟨K + L, fun k hk => ?_⟩
  show (f k).bind (g k) = some r
  rw [hK k (by omega)]
  exact hL k (by omega)
theorem succ {f : Nat → Option α} {r : α} (h : Evt (fun k => f (k + 1)) r) : Evt f r := by
  obtain ⟨K, hK⟩ := h
  refine ⟨K + 1, fun k hk => ?_⟩
  obtain ⟨m, rfl⟩ : ∃ m, k = m + 1 := ⟨k - 1, by omega⟩
  exact hK m (by omega)
theorem pos {c : Prop} [Decidable c] {f g : Nat → Option α} {r : α} (hc : c) (h : Evt f r) : Evt (fun k => if c then f k else g k) r := by
  simpa only [if_pos hc] using h
theorem neg {c : Prop} [Decidable c] {f g : Nat → Option α} {r : α} (hc : ¬ c) (h : Evt g r) : Evt (fun k => if c then f k else g k) r := by
  simpa only [if_neg hc] using h
theorem ite {c : Prop} [Decidable c] {f g : Nat → Option α} {r : α} (h1 : c → Evt f r) (h2 : ¬ c → Evt g r) : Evt (fun k => if c then f k else g k) r := by
  by_cases hc : c
  · exact pos hc (h1 hc)
  · exact neg hc (h2 hc)
theorem ex {f : Nat → Option α} {r : α} (h : Evt f r) : ∃ k, f k = some r := by
  obtain ⟨K, hK⟩ := h
  exact ⟨K, hK K (Nat.le_refl _)⟩
theorem same {f : Nat → Option α} {r r' : α} (h : Evt f r) (e : r = r') : Evt f r' := e ▸ h
end Evt
theorem w64 {x : Int} (h0 : -9223372036854775808 ≤ x) (h1 : x ≤ 9223372036854775807) : wrap64 x = x := by
  unfold wrap64
  omega
noncomputable def B (p : Prop) : Bool := @decide p (Classical.propDecidable p)
theorem B_true {p : Prop} (h : p) : B p = true := by unfold B; exact @decide_eq_true p (Classical.propDecidable p) h
theorem B_false {p : Prop} (h : ¬ p) : B p = false := by unfold B; exact @decide_eq_false p (Classical.propDecidable p) h
theorem B_iff {p : Prop} : B p = true ↔ p := by unfold B; exact @decide_eq_true_iff p (Classical.propDecidable p)
theorem B_congr {p q : Prop} (h : p ↔ q) : B p = B q := by rw [propext h]
theorem decide_B (p : Prop) [Decidable p] : decide p = B p := by
  by_cases h : p
  · rw [decide_eq_true h, B_true h]
  · rw [decide_eq_false h, B_false h]
theorem bool_B {b : Bool} {p : Prop} (h : b = true ↔ p) : b = B p := by
  cases b with
  | true => exact (B_true (h.1 rfl)).symm
  | false => exact (B_false (fun hp => by simpa using h.2 hp)).symm
theorem and_ {c p q : Prop} [Decidable c] {f : Nat → Option Bool} (hc : c ↔ p) (h : p → Evt f (B q)) : Evt (fun k => if c then f k else some false) (B (p ∧ q)) := by
  by_cases e : c
  · exact Evt.pos e ((h (hc.1 e)).same (B_congr ⟨fun x => ⟨hc.1 e, x⟩, fun x => x.2⟩))
  · exact Evt.neg e ((Evt.pure false).same (B_false (fun x => e (hc.2 x.1))).symm)
theorem last_ {p q : Prop} [Decidable p] (h : p ↔ q) : Evt (fun _ => some (decide p)) (B q) := (Evt.pure _).same ((decide_B p).trans (B_congr h))
theorem lastB_ {p q : Prop} (h : p ↔ q) : Evt (fun _ => some (B p)) (B q) := (Evt.pure _).same (B_congr h)
end Go.Proofs.Ytefmkmhjbfpelaa.Ev0
namespace Go.Proofs.Ytefmkmhjbfpelaa.Ev0
open Go.RowKit Go.Proofs.YtefmkmhjbfpelaaW.PrintWords
theorem up_loop {σ ρ : Type} (n : Int) (F : Nat → σ → Int → Option ρ) (st : Int → σ) (r : Int → ρ)
    (step : ∀ i, 0 ≤ i → i < n → Evt (fun k => F k (st (i + 1)) (i + 1)) (r (i + 1)) → Evt (fun k => F (k + 1) (st i) i) (r i))
    (stop : Evt (fun k => F (k + 1) (st n) n) (r n)) (i : Int) (h0 : 0 ≤ i) (hn : i ≤ n) : Evt (fun k => F k (st i) i) (r i) := by
  have key : ∀ (d : Nat) (i : Int), 0 ≤ i → i ≤ n → n - i ≤ d → Evt (fun k => F k (st i) i) (r i) := by
    intro d
    induction d with
    | zero =>
      intro i h0 h1 hd
      obtain rfl : i = n := by omega
      exact stop.succ
    | succ d ih =>
      intro i h0 h1 hd
      by_cases hlt : i < n
      · exact (step i h0 hlt (ih (i + 1) (by omega) (by omega) (by omega))).succ
      · obtain rfl : i = n := by omega
        exact stop.succ
  exact key (n - i).toNat i h0 hn (by omega)
def SzR (f : Nat → Option Int) (left : Int) (p : Prop) : Prop := ∃ t, Evt f t ∧ (t < 0 ∨ (0 ≤ t ∧ t ≤ left ∧ p))
theorem sz_loop (n : Nat) (hn : n ≤ 9223372036854775807) (p : Int → Prop) (f : Nat → Option Int) (F : Nat → Int → Int → Option Int) (left : Int) (hl0 : 0 ≤ left) (hl : left ≤ 1048576)
    (hf : ∀ k, f k = if wrap64 (left - (n : Int)) < 0 then some (-1) else F k (wrap64 (left - (n : Int))) 0)
    (step : ∀ s i, 0 ≤ i → i < (n : Int) → 0 ≤ s → s ≤ 1048576 → (∃ r, r < 0 ∧ Evt (fun k => F (k + 1) s i) r) ∨ (∃ s', 0 ≤ s' ∧ s' ≤ s ∧ p i ∧ ∀ r, Evt (fun k => F k s' (i + 1)) r → Evt (fun k => F (k + 1) s i) r))
    (stop : ∀ s i, (n : Int) ≤ i → Evt (fun k => F (k + 1) s i) s) : SzR f left (n ≤ 1048576 ∧ ∀ i, 0 ≤ i → i < (n : Int) → p i) := by
  have hw : wrap64 (left - (n : Int)) = left - (n : Int) := w64 (by omega) (by omega)
  by_cases h : left - (n : Int) < 0
  · refine ⟨-1, ⟨0, fun k _ => ?_⟩, .inl (by decide)⟩
    rw [hf, hw, if_pos h]
  · have key : ∀ (d : Nat) (s i : Int), 0 ≤ i → (n : Int) - i ≤ d → 0 ≤ s → s ≤ 1048576 → ∃ t, Evt (fun k => F k s i) t ∧ (t < 0 ∨ (0 ≤ t ∧ t ≤ s ∧ ∀ j, i ≤ j → j < (n : Int) → p j)) := by
      intro d
      induction d with
      | zero => intro s i h0 hd hs0 hs1; exact ⟨s, (stop s i (by omega)).succ, .inr ⟨hs0, Int.le_refl _, fun j h1 h2 => absurd h2 (by omega)⟩⟩
      | succ d ih =>
        intro s i h0 hd hs0 hs1
        by_cases hlt : i < (n : Int)
        · rcases step s i h0 hlt hs0 hs1 with ⟨r, hr0, hr⟩ | ⟨s', h1, h2, hp, hs⟩
          · exact ⟨r, hr.succ, .inl hr0⟩
          · obtain ⟨t, ht, h3⟩ := ih s' (i + 1) (by omega) (by omega) h1 (by omega)
            refine ⟨t, (hs t ht).succ, h3.imp id (fun ⟨g0, g1, g2⟩ => ⟨g0, by omega, fun j h1 h2 => ?_⟩)⟩
            by_cases e : j = i
            · rw [e]; exact hp
            · exact g2 j (by omega) h2
        · exact ⟨s, (stop s i (by omega)).succ, .inr ⟨hs0, Int.le_refl _, fun j h1 h2 => absurd h2 (by omega)⟩⟩
    obtain ⟨t, ⟨K, hK⟩, h3⟩ := key n (left - (n : Int)) 0 (Int.le_refl _) (by omega) (by omega) (by omega)
    refine ⟨t, ⟨K, fun k hk => ?_⟩, h3.imp id (fun ⟨g0, g1, g2⟩ => ⟨g0, by omega, by omega, g2⟩)⟩
    rw [hf, hw, if_neg h]
    exact hK k hk
theorem sz_step {s a : Int} {f : Option Int} {p : Prop} (hs0 : 0 ≤ s) (hs1 : s ≤ 1048576) (ha0 : 0 ≤ a) (ha : a ≤ 9223372036854775807)
    (h : 0 ≤ s - a → ∃ t, f = some t ∧ (t < 0 ∨ (0 ≤ t ∧ t ≤ s - a ∧ p))) : ∃ t, (if wrap64 (s - a) < 0 then some (-1) else f) = some t ∧ (t < 0 ∨ (0 ≤ t ∧ t ≤ s ∧ p)) := by
  have hw : wrap64 (s - a) = s - a := w64 (by omega) (by omega)
  rw [hw]
  by_cases hn : s - a < 0
  · exact ⟨-1, by rw [if_pos hn], .inl (by decide)⟩
  · obtain ⟨t, ht, h2⟩ := h (by omega)
    exact ⟨t, by rw [if_neg hn]; exact ht, h2.imp id (fun ⟨g0, g1, g2⟩ => ⟨g0, by omega, g2⟩)⟩
theorem wsub {s a : Int} (hs0 : 0 ≤ s) (hs1 : s ≤ 1048576) (ha0 : 0 ≤ a) (ha : a ≤ 9223372036854775807) : wrap64 (s - a) = s - a := w64 (by omega) (by omega)
theorem getD_at {α : Type} (l : List α) (z : α) (i : Nat) (h : i < l.length) : l.getD i z = l[i] := by
  rw [List.getD_eq_getElem?_getD, List.getElem?_eq_getElem h]
  rfl
theorem fill_loop {α β : Type} (l : List α) (zα : α) (z : β) (g : α → β) (F : Nat → List β → Int → Option (List β))
    (step : ∀ acc i, 0 ≤ i → i < (l.length : Int) → acc.length = l.length → ∀ r, Evt (fun k => F k (acc.set i.toNat (g (l.getD i.toNat zα))) (i + 1)) r → Evt (fun k => F (k + 1) acc i) r)
    (stop : ∀ acc i, (l.length : Int) ≤ i → Evt (fun k => F (k + 1) acc i) acc) : Evt (fun k => F k (List.replicate l.length z) 0) (l.map g) := by
  have h := up_loop (l.length : Int) F (fun i => (l.take i.toNat).map g ++ List.replicate (l.length - i.toNat) z) (fun _ => l.map g) ?_ ?_ 0 (Int.le_refl _) (by omega)
  · simpa using h
  · intro i h0 hlt ih
    refine step _ i h0 hlt (by simp; omega) _ ?_
    have hi : i.toNat < l.length := by omega
    have e : ((l.take i.toNat).map g ++ List.replicate (l.length - i.toNat) z).set i.toNat (g (l.getD i.toNat zα)) = (l.take (i + 1).toNat).map g ++ List.replicate (l.length - (i + 1).toNat) z := by
      have e1 : (i + 1).toNat = i.toNat + 1 := by omega
      rw [e1, List.take_succ_eq_append_getElem hi, List.map_append, getD_at l zα _ hi, List.set_append_right _ _ (by simp; omega)]
      have e2 : l.length - i.toNat = (l.length - (i.toNat + 1)) + 1 := by omega
      have e3 : i.toNat - ((l.take i.toNat).map g).length = 0 := by simp; omega
      rw [e2, e3, List.replicate_succ]
      simp
    rw [e]
    exact ih
  · have h := stop ((l.take ((l.length : Int)).toNat).map g ++ List.replicate (l.length - ((l.length : Int)).toNat) z) (l.length : Int) (Int.le_refl _)
    refine h.same ?_
    simp
theorem all_loop (n : Int) (h0 : 0 ≤ n) (F : Nat → Int → Option Bool) (step : ∀ i, 0 ≤ i → i < n → Evt (fun k => F k (i + 1)) true → Evt (fun k => F (k + 1) i) true)
    (stop : Evt (fun k => F (k + 1) n) true) : Evt (fun k => F k 0) true :=
  up_loop n (fun k (_ : Unit) i => F k i) (fun _ => ()) (fun _ => true) step stop 0 (Int.le_refl _) h0
theorem right_loop (n : Int) (hn : 0 ≤ n) (ok : Int → Prop) (q : Prop) (F : Nat → Int → Option Bool)
    (step : ∀ i, 0 ≤ i → i < n → (ok i → ∀ r, Evt (fun k => F k (i + 1)) r → Evt (fun k => F (k + 1) i) r) ∧ (¬ ok i → Evt (fun k => F (k + 1) i) false))
    (stop : Evt (fun k => F (k + 1) n) (B q)) : Evt (fun k => F k 0) (B ((∀ i, 0 ≤ i → i < n → ok i) ∧ q)) := by
  have h := up_loop n (fun k (_ : Unit) i => F k i) (fun _ => ()) (fun i => B ((∀ j, i ≤ j → j < n → ok j) ∧ q)) ?_ ?_ 0 (Int.le_refl _) hn
  · exact h
  · intro i h0 hlt ih
    by_cases hk : ok i
    · refine ((step i h0 hlt).1 hk _ ih).same (B_congr ⟨fun h => ⟨fun j h1 h2 => ?_, h.2⟩, fun h => ⟨fun j h1 h2 => h.1 j (by omega) h2, h.2⟩⟩)
      by_cases e : j = i
      · rw [e]; exact hk
      · exact h.1 j (by omega) h2
    · exact ((step i h0 hlt).2 hk).same (B_false (fun h => hk (h.1 i (Int.le_refl _) hlt))).symm
  · exact stop.same (B_congr ⟨fun h => ⟨fun j h1 h2 => absurd h2 (by omega), h⟩, fun h => h.2⟩)
theorem find_loop (n : Int) (hn : 0 ≤ n) (p : Int → Prop) (F : Nat → Int → Option Int)
    (step : ∀ i, 0 ≤ i → i < n → (p i → Evt (fun k => F (k + 1) i) i) ∧ (¬ p i → ∀ r, Evt (fun k => F k (i + 1)) r → Evt (fun k => F (k + 1) i) r))
    (stop : Evt (fun k => F (k + 1) n) (-1)) :
    ∃ r, Evt (fun k => F k 0) r ∧ ((r = -1 ∧ ∀ j, 0 ≤ j → j < n → ¬ p j) ∨ (0 ≤ r ∧ r < n ∧ p r ∧ ∀ j, 0 ≤ j → j < r → ¬ p j)) := by
  have key : ∀ (d : Nat) (i : Int), 0 ≤ i → i ≤ n → n - i ≤ d → ∃ r, Evt (fun k => F k i) r ∧ ((r = -1 ∧ ∀ j, i ≤ j → j < n → ¬ p j) ∨ (i ≤ r ∧ r < n ∧ p r ∧ ∀ j, i ≤ j → j < r → ¬ p j)) := by
    intro d
    induction d with
    | zero =>
      intro i h0 h1 hd
      obtain rfl : i = n := by omega
      exact ⟨-1, stop.succ, .inl ⟨rfl, fun j h1 h2 => absurd h2 (by omega)⟩⟩
    | succ d ih =>
      intro i h0 h1 hd
      by_cases hlt : i < n
      · by_cases hp : p i
        · exact ⟨i, ((step i h0 hlt).1 hp).succ, .inr ⟨Int.le_refl _, hlt, hp, fun j h1 h2 => absurd h2 (by omega)⟩⟩
        · obtain ⟨r, hr, h⟩ := ih (i + 1) (by omega) (by omega) (by omega)
          refine ⟨r, ((step i h0 hlt).2 hp r hr).succ, ?_⟩
          rcases h with ⟨h1, h2⟩ | ⟨h1, h2, h3, h4⟩
          · refine .inl ⟨h1, fun j g1 g2 => ?_⟩
            by_cases e : j = i
            · rw [e]; exact hp
            · exact h2 j (by omega) g2
          · refine .inr ⟨by omega, h2, h3, fun j g1 g2 => ?_⟩
            by_cases e : j = i
            · rw [e]; exact hp
            · exact h4 j (by omega) g2
      · obtain rfl : i = n := by omega
        exact ⟨-1, stop.succ, .inl ⟨rfl, fun j h1 h2 => absurd h2 (by omega)⟩⟩
  exact key n.toNat 0 (Int.le_refl _) hn (by omega)
end Go.Proofs.Ytefmkmhjbfpelaa.Ev0
