-- Merged by a program of this session (wip/tool/pack.py) out of its own texts for this claim.
import Derived.Deep.Slices
import Derived.ChangeArms
import Derived.WalkKit
import Derived.ProofKit
import Derived.OpenShut
import Derived.ShutString
import Derived.ChangeOld
import Derived.Below
import Derived.SizedLaws
import Derived.Lib.Strings
import Derived.Test.YtefmkmhjbfpelaaKFnExactBookTransit0
import Derived.Test.YtefmkmhjbfpelaaKFnExactBookTransit1
import Derived.Test.YtefmkmhjbfpelaaKFnExactBookTransit2
import Derived.Test.YtefmkmhjbfpelaaKFnExactBookTransit3
import Derived.Test.YtefmkmhjbfpelaaKFnExactBookTransit5
import Derived.Test.YtefmkmhjbfpelaaKFnExactBookTransit8
import Derived.Test.YtefmkmhjbfpelaaKFnExactBookTransit9
import Derived.Test.YtefmkmhjbfpelaaKFnExactBookTransit10
namespace Go.Proofs.Ytefmkmhjbfpelaa.QT
open Go.RowKit Go.Proofs.YtefmkmhjbfpelaaW.PrintWords Go.Proofs.YtefmkmhjbfpelaaW.PrintLast Go.Proofs.YtefmkmhjbfpelaaW.PrintMore
attribute [local go_sem] max2_int min2_int max_two min_two max_three min_three max_four min_four   -- for this text's walks alone
set_option linter.unusedVariables false
set_option linter.unusedSimpArgs false
set_option maxHeartbeats 8000000 in
set_option maxRecDepth 100000 in
theorem laws_FnExactBookTransit.calls (k : Nat) (A0_0 : Option Addr) (c0_0 : Nat) (l0_0 : List (S154)) (A0_1 : Option Addr) (c0_1 : Nat) (l0_1 : List (S74)) (a1 : ByteArray) (a2 : ByteArray) (r : Bool) (w : World) (hr0_0 : Kd.C k154 w A0_0 l0_0.length l0_0) (hc0_0 : l0_0.length ≤ c0_0) (hr0_1 : Kd.C k74 w A0_1 l0_1.length l0_1) (hc0_1 : l0_1.length ≤ c0_1) (h : laws_FnExactBookTransit.f k l0_0 l0_1 a1 a2 = some r) :
    Calls Try.prog 5 #[.agg #[.slice A0_0 l0_0.length c0_0, .slice A0_1 l0_1.length c0_1], .string a1, .string a2] w fun e w' => e = .returned (.bool r) ∧ Below w.heap.size w w' := by
  have hu41 := Try.underlying41; have hu47 := Try.underlying47; have HR0_0 := Aside0.mk hr0_0; have HC0_0 := Aside0.mk hc0_0; clear hr0_0 hc0_0; have HR0_1 := Aside0.mk hr0_1; have HC0_1 := Aside0.mk hc0_1; clear hr0_1 hc0_1; have HB := Aside0.mk (Below.refl w.heap.size w); have H : (if (a1.size : Int) > 1048576 then (some true) else (if (a2.size : Int) > 1048576 then (some true) else ((laws_szBook.f k l0_0 l0_1 1048576).bind fun t260 => (if t260 < 0 then (some true) else ((laws_toBook.f k l0_0 l0_1).bind fun bt261 => ((spec_BookTransit.f k bt261.1 bt261.2 a1 a2).bind fun t267 => ((laws_toBook.f k l0_0 l0_1).bind fun bt268 => ((impl_BookTransit.f k bt268.1 bt268.2 a1 a2).bind fun t275 => (if t275 = t267 then ((laws_toBook.f k l0_0 l0_1).bind fun bt276 => ((laws_eqBook.f k bt268.1 bt268.2 bt276.1 bt276.2).bind fun t282 => (if t282 = true then (some true) else (some false)))) else (some false)))))))))) = some r := h; clear h
  by_cases c4 : (a1.size : Int) > 1048576
  · rw [if_pos c4] at H; have c4b0 : decide (1048576 < (a1.size : Int)) = true := decide_eq_true c4; have c4b1 : decide (1048576 < a1.size) = true := decide_eq_true (by omega); clear c4; obtain rfl := Option.some.inj H
    go_enter Try.func5, Try.ntmps5
    go_wp2_with (first | ((with_reducible refine gate_dst (N := 3) rfl ?_); refine bx 3 (cs := #[.slice A0_0 l0_0.length c0_0, .slice A0_1 l0_1.length c0_1]) (t := 41) ?_; intro gb259 hg w5 hbox hb; have BK259 := Aside0.mk (hbox); have GW259 := Aside0.mk ((gs hg (bs HB))); have GE259 := Aside0.mk ((gs hg (bs HB))); replace HB := Aside0.mk (below_step (bs HB) hb); clear hb hbox hg))
    go_ret
    exact ⟨ff, bs HB⟩
  · rw [if_neg c4] at H; have c4b0 : decide (1048576 < (a1.size : Int)) = false := decide_eq_false c4; have c4b1 : decide (1048576 < a1.size) = false := decide_eq_false (by omega); clear c4
    by_cases c6 : (a2.size : Int) > 1048576
    · rw [if_pos c6] at H; have c6b0 : decide (1048576 < (a2.size : Int)) = true := decide_eq_true c6; have c6b1 : decide (1048576 < a2.size) = true := decide_eq_true (by omega); clear c6; obtain rfl := Option.some.inj H
      go_enter Try.func5, Try.ntmps5
      go_wp2_with (first | ((with_reducible refine gate_dst (N := 3) rfl ?_); refine bx 3 (cs := #[.slice A0_0 l0_0.length c0_0, .slice A0_1 l0_1.length c0_1]) (t := 41) ?_; intro gb259 hg w7 hbox hb; have BK259 := Aside0.mk (hbox); have GW259 := Aside0.mk ((gs hg (bs HB))); have GE259 := Aside0.mk ((gs hg (bs HB))); replace HB := Aside0.mk (below_step (bs HB) hb); clear hb hbox hg))
      go_ret
      exact ⟨ff, bs HB⟩
    · rw [if_neg c6] at H; have c6b0 : decide (1048576 < (a2.size : Int)) = false := decide_eq_false c6; have c6b1 : decide (1048576 < a2.size) = false := decide_eq_false (by omega); clear c6; replace H := Option.bind_eq_some_iff.mp H; obtain ⟨t260, A80, H⟩ := H; replace H : (if t260 < 0 then (some true) else ((laws_toBook.f k l0_0 l0_1).bind fun bt261 => ((spec_BookTransit.f k bt261.1 bt261.2 a1 a2).bind fun t267 => ((laws_toBook.f k l0_0 l0_1).bind fun bt268 => ((impl_BookTransit.f k bt268.1 bt268.2 a1 a2).bind fun t275 => (if t275 = t267 then ((laws_toBook.f k l0_0 l0_1).bind fun bt276 => ((laws_eqBook.f k bt268.1 bt268.2 bt276.1 bt276.2).bind fun t282 => (if t282 = true then (some true) else (some false)))) else (some false))))))) = some r := H; have A8 := Aside0.mk A80; clear A80
      go_enter Try.func5, Try.ntmps5
      try go_wp2_with (first | ((with_reducible refine gate_dst (N := 3) rfl ?_); refine bx 3 (cs := #[.slice A0_0 l0_0.length c0_0, .slice A0_1 l0_1.length c0_1]) (t := 41) ?_; intro gb259 hg w9 hbox hb; have BK259 := Aside0.mk (hbox); have GW259 := Aside0.mk ((gs hg (bs HB))); have GE259 := Aside0.mk ((gs hg (bs HB))); replace HB := Aside0.mk (below_step (bs HB) hb); clear hb hbox hg; obtain ⟨hcz10_0, hcz10_1, hfz10_0, hfz10_1⟩ := cf2 BK259))
      go_at_call 22; (with_reducible refine (laws_szBook.calls k _ _ l0_0 _ _ l0_1 1048576 t260 _ (Kd.C_below HR0_0.out (bs HB)) HC0_0.out (Kd.C_below HR0_1.out (bs HB)) HC0_1.out A8.out).mono ?_); rintro e w11 ⟨rfl, hb⟩; replace BK259 := Aside0.mk (blk_below (ks BK259) hb); replace HB := Aside0.mk (below_step (bs HB) hb); (try clear hb); (try clear hb2); (try clear hk); (try clear hi)
      by_cases c12 : t260 < 0
      · rw [if_pos c12] at H; have c12b0 : decide (t260 < 0) = true := decide_eq_true c12; clear c12; obtain rfl := Option.some.inj H
        go_wp2
        go_ret
        exact ⟨ff, bs HB⟩
      · rw [if_neg c12] at H; have c12b0 : decide (t260 < 0) = false := decide_eq_false c12; clear c12; replace H := Option.bind_eq_some_iff.mp H; obtain ⟨⟨t261, t264⟩, A130, H⟩ := H; replace H : ((spec_BookTransit.f k t261 t264 a1 a2).bind fun t267 => ((laws_toBook.f k l0_0 l0_1).bind fun bt268 => ((impl_BookTransit.f k bt268.1 bt268.2 a1 a2).bind fun t275 => (if t275 = t267 then ((laws_toBook.f k l0_0 l0_1).bind fun bt276 => ((laws_eqBook.f k bt268.1 bt268.2 bt276.1 bt276.2).bind fun t282 => (if t282 = true then (some true) else (some false)))) else (some false))))) = some r := H; have A13 := Aside0.mk A130; clear A130; obtain ⟨hcz14_0, hcz14_1, hfz14_0, hfz14_1⟩ := cf2 BK259
        try go_wp2_with (fail)
        go_at_call 24; (with_reducible refine (laws_toBook.calls k _ _ l0_0 _ _ l0_1 t261 t264 _ (Kd.C_below HR0_0.out (bs HB)) HC0_0.out (Kd.C_below HR0_1.out (bs HB)) HC0_1.out A13.out).mono ?_); rintro e w15 ⟨v262, v265, rfl, ho0, ho1, hb⟩; have HO263 := Aside0.mk (Kd.R_lower ho0 (below_size (bs HB))); have HO266 := Aside0.mk (Kd.R_lower ho1 (below_size (bs HB))); replace BK259 := Aside0.mk (blk_below (ks BK259) hb); replace HB := Aside0.mk (below_step (bs HB) hb); (try clear hb); (try clear hb2); (try clear hk); (try clear hi); (try clear ho0); (try clear ho1); replace H := Option.bind_eq_some_iff.mp H; obtain ⟨t267, A160, H⟩ := H; replace H : ((laws_toBook.f k l0_0 l0_1).bind fun bt268 => ((impl_BookTransit.f k bt268.1 bt268.2 a1 a2).bind fun t275 => (if t275 = t267 then ((laws_toBook.f k l0_0 l0_1).bind fun bt276 => ((laws_eqBook.f k bt268.1 bt268.2 bt276.1 bt276.2).bind fun t282 => (if t282 = true then (some true) else (some false)))) else (some false)))) = some r := H; have A16 := Aside0.mk A160; clear A160; obtain ⟨Ao17, co17, eo17⟩ := Kd.R_slice HO263.out; subst eo17; obtain ⟨Ao18, co18, eo18⟩ := Kd.R_slice HO266.out; subst eo18
        try go_wp2_with (fail)
        go_at_call 27; (with_reducible refine (spec_BookTransit.calls k _ _ t261 _ _ t264 a1 a2 t267 _ ?side1 ?side2 ?side3 ?side4 A16.out).mono ?_); (case side1 => repeat (first | exact (Kd.R_reads' HO263.out).2.2 | (with_reducible refine Kd.C_alloc ?_ _) | (with_reducible refine Kd.C_drewN ?_ _) | (with_reducible refine Kd.C_drew ?_))); (case side2 => exact (Kd.R_reads' HO263.out).2.1); (case side3 => repeat (first | exact (Kd.R_reads' HO266.out).2.2 | (with_reducible refine Kd.C_alloc ?_ _) | (with_reducible refine Kd.C_drewN ?_ _) | (with_reducible refine Kd.C_drew ?_))); (case side4 => exact (Kd.R_reads' HO266.out).2.1); rintro e w19 ⟨rfl, hb⟩; replace HO263 := Aside0.mk (Kd.R_below (rs HO263) hb); replace HO266 := Aside0.mk (Kd.R_below (rs HO266) hb); replace BK259 := Aside0.mk (blk_below (ks BK259) hb); replace HB := Aside0.mk (below_step (bs HB) hb); (try clear hb); (try clear hb2); (try clear hk); (try clear hi); replace H := Option.bind_eq_some_iff.mp H; obtain ⟨⟨t268, t271⟩, A200, H⟩ := H; replace H : ((impl_BookTransit.f k t268 t271 a1 a2).bind fun t275 => (if t275 = t267 then ((laws_toBook.f k l0_0 l0_1).bind fun bt276 => ((laws_eqBook.f k t268 t271 bt276.1 bt276.2).bind fun t282 => (if t282 = true then (some true) else (some false)))) else (some false))) = some r := H; have A20 := Aside0.mk A200; clear A200; obtain ⟨hcz21_0, hcz21_1, hfz21_0, hfz21_1⟩ := cf2 BK259
        try go_wp2_with (fail)
        go_at_call 24; (with_reducible refine (laws_toBook.calls k _ _ l0_0 _ _ l0_1 t268 t271 _ (Kd.C_below HR0_0.out (bs HB)) HC0_0.out (Kd.C_below HR0_1.out (bs HB)) HC0_1.out A20.out).mono ?_); rintro e w22 ⟨v269, v272, rfl, ho0, ho1, hb⟩; have HO270 := Aside0.mk (Kd.R_lower (Kd.R_new' ho0 (Kd.R_lt (rs HO263))) (below_size (bs HB))); replace HO263 := Aside0.mk (Kd.R_elder' (rs HO263) (Kd.R_base ho0) hb); have HO273 := Aside0.mk (Kd.R_lower (Kd.R_new' ho1 (Kd.R_lt (rs HO266))) (below_size (bs HB))); replace HO266 := Aside0.mk (Kd.R_elder' (rs HO266) (Kd.R_base ho1) hb); replace BK259 := Aside0.mk (blk_below (ks BK259) hb); replace HB := Aside0.mk (below_step (bs HB) hb); (try clear hb); (try clear hb2); (try clear hk); (try clear hi); (try clear ho0); (try clear ho1); replace H := Option.bind_eq_some_iff.mp H; obtain ⟨t275, A230, H⟩ := H; replace H : (if t275 = t267 then ((laws_toBook.f k l0_0 l0_1).bind fun bt276 => ((laws_eqBook.f k t268 t271 bt276.1 bt276.2).bind fun t282 => (if t282 = true then (some true) else (some false)))) else (some false)) = some r := H; have A23 := Aside0.mk A230; clear A230
        try go_wp2_with (first | ((with_reducible refine gate_dst (N := 9) rfl ?_); refine bx 9 (cs := #[.slice none 0 0, .slice none 0 0]) (t := 47) ?_; intro gb274 hg w24 hbox hb; replace HO263 := Aside0.mk (Kd.R_below (rs HO263) hb); replace HO266 := Aside0.mk (Kd.R_below (rs HO266) hb); replace HO270 := Aside0.mk (Kd.R_below (rs HO270) hb); replace HO273 := Aside0.mk (Kd.R_below (rs HO273) hb); have BK274 := Aside0.mk (hbox); have GW274 := Aside0.mk ((gs hg (bs HB))); have GE274 := Aside0.mk ((gs hg (bs HB))); replace HB := Aside0.mk (below_step (bs HB) hb); have NB259_274 := Aside0.mk ((gn hg (ks BK259))); have NB274_259 := Aside0.mk ((gm hg (ks BK259))); replace BK259 := Aside0.mk (blk_below (ks BK259) hb); clear hb hbox hg; obtain ⟨Ao25, co25, eo25⟩ := Kd.R_slice HO270.out; subst eo25; have hnb26 := NB274_259.out; have hnc26 := NB259_274.out; obtain ⟨hcz27_0, hcz27_1, hfz27_0, hfz27_1⟩ := cf2 BK274; obtain ⟨Ao28, co28, eo28⟩ := Kd.R_slice HO273.out; subst eo28))
        go_at_call 28; (with_reducible refine (impl_BookTransit.calls k _ _ t268 _ _ t271 a1 a2 t275 _ ?side1 ?side2 ?side3 ?side4 A23.out).mono ?_); (case side1 => refine (Kd.R_reads' (e := 117) (base := w.heap.size) (ok := fun k_ => (True ∧ some k_ ≠ (.slice Ao17 t261.length co17 : Value).ownBlock)) (n := t268.length) (c := co25) ?_).2.2; exact (by (with_reducible repeat (first | apply Kd.R_alloc | apply Kd.R_drewN | apply Kd.R_drew)); exact (Kd.R_mono (rf (Kd.R_types HO270.out BK274.out (by decide))) (fun _ h_ => h_.1)))); (case side2 => exact (Kd.R_reads' HO270.out).2.1); (case side3 => refine (Kd.R_reads' (e := 54) (base := w.heap.size) (ok := fun k_ => (True ∧ some k_ ≠ (.slice Ao18 t264.length co18 : Value).ownBlock)) (n := t271.length) (c := co28) ?_).2.2; exact (by (with_reducible repeat (first | apply Kd.R_alloc | apply Kd.R_drewN | apply Kd.R_drew)); exact (Kd.R_mono (rf (Kd.R_types HO273.out BK274.out (by decide))) (fun _ h_ => h_.1)))); (case side4 => exact (Kd.R_reads' HO273.out).2.1); rintro e w29 ⟨rfl, hb⟩; have n0_ := Aside0.mk (Kd.R_below (by (with_reducible repeat (first | apply Kd.R_alloc | apply Kd.R_drewN | apply Kd.R_drew)); exact (Kd.R_mono (rf (Kd.R_types HO263.out BK274.out (by decide))) (fun _ h_ => h_.1))) hb); have n1_ := Aside0.mk (Kd.R_below (by (with_reducible repeat (first | apply Kd.R_alloc | apply Kd.R_drewN | apply Kd.R_drew)); exact (Kd.R_mono (rf (Kd.R_types HO266.out BK274.out (by decide))) (fun _ h_ => h_.1))) hb); have n2_ := Aside0.mk (Kd.R_below (by (with_reducible repeat (first | apply Kd.R_alloc | apply Kd.R_drewN | apply Kd.R_drew)); exact (Kd.R_mono (rf (Kd.R_types HO270.out BK274.out (by decide))) (fun _ h_ => h_.1))) hb); have n3_ := Aside0.mk (Kd.R_below (by (with_reducible repeat (first | apply Kd.R_alloc | apply Kd.R_drewN | apply Kd.R_drew)); exact (Kd.R_mono (rf (Kd.R_types HO273.out BK274.out (by decide))) (fun _ h_ => h_.1))) hb); have n4_ := Aside0.mk (blk_below (ks BK259) hb); have n5_ := Aside0.mk (blk_below (g := gb274) (o := .cells #[.slice Ao25 t268.length co25, .slice Ao28 t271.length co28] 47 (0, 0)) (kp BK274) hb); have n6_ := Aside0.mk (below_step (bs HB) hb); clear HO263; clear HO266; clear HO270; clear HO273; clear BK259; clear BK274; clear HB; have HO263 := n0_; have HO266 := n1_; have HO270 := n2_; have HO273 := n3_; have BK259 := n4_; have BK274 := n5_; have HB := n6_; clear n0_ n1_ n2_ n3_ n4_ n5_ n6_; (try clear hb); (try clear hb2); (try clear hk); (try clear hi)
        by_cases c30 : t275 = t267
        · rw [if_pos c30] at H; have c30b0 : (t275 == t267) = true := beq_iff_eq.mpr c30; have c30b1 : (t275 != t267) = false := bne_eq_false_iff_eq.mpr c30; clear c30; replace H := Option.bind_eq_some_iff.mp H; obtain ⟨⟨t276, t279⟩, A310, H⟩ := H; replace H : ((laws_eqBook.f k t268 t271 t276 t279).bind fun t282 => (if t282 = true then (some true) else (some false))) = some r := H; have A31 := Aside0.mk A310; clear A310; replace H := Option.bind_eq_some_iff.mp H; obtain ⟨t282, A320, H⟩ := H; replace H : (if t282 = true then (some true) else (some false)) = some r := H; have A32 := Aside0.mk A320; clear A320
          by_cases c33 : t282 = true
          · subst c33
            have H1 : (some true) = some r := by rw [if_pos rfl] at H; exact H
            clear H; have H := H1; clear H1; obtain rfl := Option.some.inj H
            try go_wp2
            replace HO263 := Aside0.mk (Kd.R_drew HO263.out); replace HO266 := Aside0.mk (Kd.R_drew HO266.out); replace HO270 := Aside0.mk (Kd.R_drew HO270.out); replace HO273 := Aside0.mk (Kd.R_drew HO273.out); replace BK259 := Aside0.mk (blk_drew BK259.out); replace BK274 := Aside0.mk (blk_drew BK274.out); replace HB := Aside0.mk (below_drew1 HB.out); refine start_ (n := 5) (S := fun w' => w'.cell? ⟨gb274, 0, none⟩ = some (.slice Ao25 t268.length co25) ∧ w'.cell? ⟨gb274, 1, none⟩ = some (.slice Ao28 t271.length co28) ∧ w'.cell? ⟨gb259, 0, none⟩ = some (.slice A0_0 l0_0.length c0_0) ∧ w'.cell? ⟨gb259, 1, none⟩ = some (.slice A0_1 l0_1.length c0_1)) (ds := []) #[false, false, false, false, false] (by kernel_rfl) rfl rfl ⟨(blk_cell BK274.out 0).trans rfl, (blk_cell BK274.out 1).trans rfl, (blk_cell BK259.out 0).trans rfl, (blk_cell BK259.out 1).trans rfl⟩ (fun hHeld => ?_)
            generalize w29.drew = w34 at HO263 HO266 HO270 HO273 BK259 BK274 HB hHeld ⊢
            refine take_ (i := 0) (N := some 36) (v := ?_) (a' := ?_) #[true, false, false, false, false] rfl rfl (by kernel_rfl) (fun _ _ _ h => h) (Or.inl ⟨by rfl, ?_⟩) hHeld ?_ ?_
            rotate_left
            · rintro w' ⟨s0, s1, s2, s3⟩
              go_simp
              (with_reducible rfl)
            rotate_left
            · simp only [Act.put, List.setIfInBounds_toArray, List.set_cons_zero, List.set_cons_succ, i64_w, i32_w]
              rfl
            refine take_ (i := 1) (N := some 37) (v := ?_) (a' := ?_) #[true, true, false, false, false] rfl rfl (by kernel_rfl) (fun _ _ _ h => h) (Or.inl ⟨by rfl, ?_⟩) hHeld ?_ ?_
            rotate_left
            · rintro w' ⟨s0, s1, s2, s3⟩
              go_simp
              (with_reducible rfl)
            rotate_left
            · simp only [Act.put, List.setIfInBounds_toArray, List.set_cons_zero, List.set_cons_succ, i64_w, i32_w]
              rfl
            refine one_ (i := 2) (N := some 38) #[true, true, true, false, false] rfl rfl (by kernel_rfl) (by decide) (fun K hK => ?_); refine gA Try.func24 #[.agg #[.slice A0_0 l0_0.length c0_0, .slice A0_1 l0_1.length c0_1]] ?_; (with_reducible refine (laws_toBook.calls k _ _ l0_0 _ _ l0_1 t276 t279 _ ?side1 ?side2 ?side3 ?side4 A31.out).mono ?_)
            (case side1 => repeat (first | exact (Kd.C_below HR0_0.out HB.out) | (with_reducible refine Kd.C_alloc ?_ _) | (with_reducible refine Kd.C_drewN ?_ _) | (with_reducible refine Kd.C_drew ?_)))
            (case side2 => exact HC0_0.out)
            (case side3 => repeat (first | exact (Kd.C_below HR0_1.out HB.out) | (with_reducible refine Kd.C_alloc ?_ _) | (with_reducible refine Kd.C_drewN ?_ _) | (with_reducible refine Kd.C_drew ?_)))
            (case side4 => exact HC0_1.out)
            rintro e w35 ⟨v277, v280, rfl, ho0, ho1, hb⟩; refine ⟨_, rfl, ?_⟩; have HO278 := Aside0.mk (Kd.R_lower (Kd.R_new' (Kd.R_new' ho0 (Kd.R_lt (rs HO263))) (Kd.R_lt (rs HO270))) (below_size (bs HB))); replace HO263 := Aside0.mk (Kd.R_elder' (rs HO263) (Kd.R_base ho0) hb); replace HO270 := Aside0.mk (Kd.R_elder' (rs HO270) (Kd.R_base ho0) hb); have HO281 := Aside0.mk (Kd.R_lower (Kd.R_new' (Kd.R_new' ho1 (Kd.R_lt (rs HO266))) (Kd.R_lt (rs HO273))) (below_size (bs HB))); replace HO266 := Aside0.mk (Kd.R_elder' (rs HO266) (Kd.R_base ho1) hb); replace HO273 := Aside0.mk (Kd.R_elder' (rs HO273) (Kd.R_base ho1) hb); replace BK259 := Aside0.mk (blk_below (ks BK259) hb); replace BK274 := Aside0.mk (blk_below (ks BK274) hb); replace HB := Aside0.mk (below_step (bs HB) hb); (try clear hb); (try clear hb2); (try clear hk); (try clear hi); (try clear ho0); (try clear ho1); obtain ⟨Ao36, co36, eo36⟩ := Kd.R_slice HO278.out
            (first | subst eo36 | (injection eo36 with f1_ f2_ f3_; have f4_ := f1_.symm; have f5_ := f3_.symm; clear f1_ f2_ f3_; subst f4_; subst f5_))
            obtain ⟨Ao37, co37, eo37⟩ := Kd.R_slice HO281.out
            (first | subst eo37 | (injection eo37 with f1_ f2_ f3_; have f4_ := f1_.symm; have f5_ := f3_.symm; clear f1_ f2_ f3_; subst f4_; subst f5_))
            refine hK.out _ _ ⟨(blk_cell BK274.out 0).trans rfl, (blk_cell BK274.out 1).trans rfl, (blk_cell BK259.out 0).trans rfl, (blk_cell BK259.out 1).trans rfl⟩ (fun hHeld => ?_); clear hK K; refine nA 38 ?_; refine one_ (i := 3) (N := some 39) #[true, true, true, true, false] rfl rfl (by kernel_rfl) (by decide) (fun K hK => ?_); refine gA Try.func26 #[.agg #[.slice Ao25 t268.length co25, .slice Ao28 t271.length co28], .agg #[.slice Ao36 t276.length co36, .slice Ao37 t279.length co37]] ?_; (with_reducible refine (laws_eqBook.calls k _ _ t268 _ _ t271 _ _ t276 _ _ t279 true _ ?side1 ?side2 ?side3 ?side4 ?side5 ?side6 ?side7 ?side8 A32.out).mono ?_)
            (case side1 => repeat (first | exact (Kd.R_reads' HO270.out).2.2 | (with_reducible refine Kd.C_alloc ?_ _) | (with_reducible refine Kd.C_drewN ?_ _) | (with_reducible refine Kd.C_drew ?_)))
            (case side2 => exact (Kd.R_reads' HO270.out).2.1)
            (case side3 => repeat (first | exact (Kd.R_reads' HO273.out).2.2 | (with_reducible refine Kd.C_alloc ?_ _) | (with_reducible refine Kd.C_drewN ?_ _) | (with_reducible refine Kd.C_drew ?_)))
            (case side4 => exact (Kd.R_reads' HO273.out).2.1)
            (case side5 => repeat (first | exact (Kd.R_reads' HO278.out).2.2 | (with_reducible refine Kd.C_alloc ?_ _) | (with_reducible refine Kd.C_drewN ?_ _) | (with_reducible refine Kd.C_drew ?_)))
            (case side6 => exact (Kd.R_reads' HO278.out).2.1)
            (case side7 => repeat (first | exact (Kd.R_reads' HO281.out).2.2 | (with_reducible refine Kd.C_alloc ?_ _) | (with_reducible refine Kd.C_drewN ?_ _) | (with_reducible refine Kd.C_drew ?_)))
            (case side8 => exact (Kd.R_reads' HO281.out).2.1)
            rintro e w38 ⟨rfl, hb⟩; refine ⟨_, rfl, ?_⟩; replace HO263 := Aside0.mk (Kd.R_below (rs HO263) hb); replace HO266 := Aside0.mk (Kd.R_below (rs HO266) hb); replace HO270 := Aside0.mk (Kd.R_below (rs HO270) hb); replace HO273 := Aside0.mk (Kd.R_below (rs HO273) hb); replace HO278 := Aside0.mk (Kd.R_below (rs HO278) hb); replace HO281 := Aside0.mk (Kd.R_below (rs HO281) hb); replace BK259 := Aside0.mk (blk_below (ks BK259) hb); replace BK274 := Aside0.mk (blk_below (ks BK274) hb); replace HB := Aside0.mk (below_step (bs HB) hb); (try clear hb); (try clear hb2); (try clear hk); (try clear hi); refine hK.out _ _ ⟨(blk_cell BK274.out 0).trans rfl, (blk_cell BK274.out 1).trans rfl, (blk_cell BK259.out 0).trans rfl, (blk_cell BK259.out 1).trans rfl⟩ (fun hHeld => ?_); clear hK K; refine nA 39 ?_; refine pure_ (i := 4) (N := some 40) (v := ?_) (a' := ?_) #[true, true, true, true, true] rfl rfl (by kernel_rfl) (fun _ _ _ h => h) (Or.inl ⟨by rfl, ?_⟩) ?_ ?_
            rotate_left
            · intro w'
              go_simp
              (with_reducible rfl)
            rotate_left
            · simp only [Act.put, List.setIfInBounds_toArray, List.set_cons_zero, List.set_cons_succ, i64_w, i32_w]
              rfl
            refine done_ (by kernel_rfl) ?_
            try go_wp2
            go_ret
            exact ⟨ff, bs HB⟩
          · replace c33 := Bool.eq_false_iff.mpr c33; subst c33
            have H1 : (some false) = some r := by rw [if_neg (show ¬ (false = true) by decide)] at H; exact H
            clear H; have H := H1; clear H1; obtain rfl := Option.some.inj H
            try go_wp2
            replace HO263 := Aside0.mk (Kd.R_drew HO263.out); replace HO266 := Aside0.mk (Kd.R_drew HO266.out); replace HO270 := Aside0.mk (Kd.R_drew HO270.out); replace HO273 := Aside0.mk (Kd.R_drew HO273.out); replace BK259 := Aside0.mk (blk_drew BK259.out); replace BK274 := Aside0.mk (blk_drew BK274.out); replace HB := Aside0.mk (below_drew1 HB.out); refine start_ (n := 5) (S := fun w' => w'.cell? ⟨gb274, 0, none⟩ = some (.slice Ao25 t268.length co25) ∧ w'.cell? ⟨gb274, 1, none⟩ = some (.slice Ao28 t271.length co28) ∧ w'.cell? ⟨gb259, 0, none⟩ = some (.slice A0_0 l0_0.length c0_0) ∧ w'.cell? ⟨gb259, 1, none⟩ = some (.slice A0_1 l0_1.length c0_1)) (ds := []) #[false, false, false, false, false] (by kernel_rfl) rfl rfl ⟨(blk_cell BK274.out 0).trans rfl, (blk_cell BK274.out 1).trans rfl, (blk_cell BK259.out 0).trans rfl, (blk_cell BK259.out 1).trans rfl⟩ (fun hHeld => ?_)
            generalize w29.drew = w39 at HO263 HO266 HO270 HO273 BK259 BK274 HB hHeld ⊢
            refine take_ (i := 0) (N := some 36) (v := ?_) (a' := ?_) #[true, false, false, false, false] rfl rfl (by kernel_rfl) (fun _ _ _ h => h) (Or.inl ⟨by rfl, ?_⟩) hHeld ?_ ?_
            rotate_left
            · rintro w' ⟨s0, s1, s2, s3⟩
              go_simp
              (with_reducible rfl)
            rotate_left
            · simp only [Act.put, List.setIfInBounds_toArray, List.set_cons_zero, List.set_cons_succ, i64_w, i32_w]
              rfl
            refine take_ (i := 1) (N := some 37) (v := ?_) (a' := ?_) #[true, true, false, false, false] rfl rfl (by kernel_rfl) (fun _ _ _ h => h) (Or.inl ⟨by rfl, ?_⟩) hHeld ?_ ?_
            rotate_left
            · rintro w' ⟨s0, s1, s2, s3⟩
              go_simp
              (with_reducible rfl)
            rotate_left
            · simp only [Act.put, List.setIfInBounds_toArray, List.set_cons_zero, List.set_cons_succ, i64_w, i32_w]
              rfl
            refine one_ (i := 2) (N := some 38) #[true, true, true, false, false] rfl rfl (by kernel_rfl) (by decide) (fun K hK => ?_); refine gA Try.func24 #[.agg #[.slice A0_0 l0_0.length c0_0, .slice A0_1 l0_1.length c0_1]] ?_; (with_reducible refine (laws_toBook.calls k _ _ l0_0 _ _ l0_1 t276 t279 _ ?side1 ?side2 ?side3 ?side4 A31.out).mono ?_)
            (case side1 => repeat (first | exact (Kd.C_below HR0_0.out HB.out) | (with_reducible refine Kd.C_alloc ?_ _) | (with_reducible refine Kd.C_drewN ?_ _) | (with_reducible refine Kd.C_drew ?_)))
            (case side2 => exact HC0_0.out)
            (case side3 => repeat (first | exact (Kd.C_below HR0_1.out HB.out) | (with_reducible refine Kd.C_alloc ?_ _) | (with_reducible refine Kd.C_drewN ?_ _) | (with_reducible refine Kd.C_drew ?_)))
            (case side4 => exact HC0_1.out)
            rintro e w40 ⟨v277, v280, rfl, ho0, ho1, hb⟩; refine ⟨_, rfl, ?_⟩; have HO278 := Aside0.mk (Kd.R_lower (Kd.R_new' (Kd.R_new' ho0 (Kd.R_lt (rs HO263))) (Kd.R_lt (rs HO270))) (below_size (bs HB))); replace HO263 := Aside0.mk (Kd.R_elder' (rs HO263) (Kd.R_base ho0) hb); replace HO270 := Aside0.mk (Kd.R_elder' (rs HO270) (Kd.R_base ho0) hb); have HO281 := Aside0.mk (Kd.R_lower (Kd.R_new' (Kd.R_new' ho1 (Kd.R_lt (rs HO266))) (Kd.R_lt (rs HO273))) (below_size (bs HB))); replace HO266 := Aside0.mk (Kd.R_elder' (rs HO266) (Kd.R_base ho1) hb); replace HO273 := Aside0.mk (Kd.R_elder' (rs HO273) (Kd.R_base ho1) hb); replace BK259 := Aside0.mk (blk_below (ks BK259) hb); replace BK274 := Aside0.mk (blk_below (ks BK274) hb); replace HB := Aside0.mk (below_step (bs HB) hb); (try clear hb); (try clear hb2); (try clear hk); (try clear hi); (try clear ho0); (try clear ho1); obtain ⟨Ao41, co41, eo41⟩ := Kd.R_slice HO278.out
            (first | subst eo41 | (injection eo41 with f1_ f2_ f3_; have f4_ := f1_.symm; have f5_ := f3_.symm; clear f1_ f2_ f3_; subst f4_; subst f5_))
            obtain ⟨Ao42, co42, eo42⟩ := Kd.R_slice HO281.out
            (first | subst eo42 | (injection eo42 with f1_ f2_ f3_; have f4_ := f1_.symm; have f5_ := f3_.symm; clear f1_ f2_ f3_; subst f4_; subst f5_))
            refine hK.out _ _ ⟨(blk_cell BK274.out 0).trans rfl, (blk_cell BK274.out 1).trans rfl, (blk_cell BK259.out 0).trans rfl, (blk_cell BK259.out 1).trans rfl⟩ (fun hHeld => ?_); clear hK K; refine nA 38 ?_; refine one_ (i := 3) (N := some 39) #[true, true, true, true, false] rfl rfl (by kernel_rfl) (by decide) (fun K hK => ?_); refine gA Try.func26 #[.agg #[.slice Ao25 t268.length co25, .slice Ao28 t271.length co28], .agg #[.slice Ao41 t276.length co41, .slice Ao42 t279.length co42]] ?_; (with_reducible refine (laws_eqBook.calls k _ _ t268 _ _ t271 _ _ t276 _ _ t279 false _ ?side1 ?side2 ?side3 ?side4 ?side5 ?side6 ?side7 ?side8 A32.out).mono ?_)
            (case side1 => repeat (first | exact (Kd.R_reads' HO270.out).2.2 | (with_reducible refine Kd.C_alloc ?_ _) | (with_reducible refine Kd.C_drewN ?_ _) | (with_reducible refine Kd.C_drew ?_)))
            (case side2 => exact (Kd.R_reads' HO270.out).2.1)
            (case side3 => repeat (first | exact (Kd.R_reads' HO273.out).2.2 | (with_reducible refine Kd.C_alloc ?_ _) | (with_reducible refine Kd.C_drewN ?_ _) | (with_reducible refine Kd.C_drew ?_)))
            (case side4 => exact (Kd.R_reads' HO273.out).2.1)
            (case side5 => repeat (first | exact (Kd.R_reads' HO278.out).2.2 | (with_reducible refine Kd.C_alloc ?_ _) | (with_reducible refine Kd.C_drewN ?_ _) | (with_reducible refine Kd.C_drew ?_)))
            (case side6 => exact (Kd.R_reads' HO278.out).2.1)
            (case side7 => repeat (first | exact (Kd.R_reads' HO281.out).2.2 | (with_reducible refine Kd.C_alloc ?_ _) | (with_reducible refine Kd.C_drewN ?_ _) | (with_reducible refine Kd.C_drew ?_)))
            (case side8 => exact (Kd.R_reads' HO281.out).2.1)
            rintro e w43 ⟨rfl, hb⟩; refine ⟨_, rfl, ?_⟩; replace HO263 := Aside0.mk (Kd.R_below (rs HO263) hb); replace HO266 := Aside0.mk (Kd.R_below (rs HO266) hb); replace HO270 := Aside0.mk (Kd.R_below (rs HO270) hb); replace HO273 := Aside0.mk (Kd.R_below (rs HO273) hb); replace HO278 := Aside0.mk (Kd.R_below (rs HO278) hb); replace HO281 := Aside0.mk (Kd.R_below (rs HO281) hb); replace BK259 := Aside0.mk (blk_below (ks BK259) hb); replace BK274 := Aside0.mk (blk_below (ks BK274) hb); replace HB := Aside0.mk (below_step (bs HB) hb); (try clear hb); (try clear hb2); (try clear hk); (try clear hi); refine hK.out _ _ ⟨(blk_cell BK274.out 0).trans rfl, (blk_cell BK274.out 1).trans rfl, (blk_cell BK259.out 0).trans rfl, (blk_cell BK259.out 1).trans rfl⟩ (fun hHeld => ?_); clear hK K; refine nA 39 ?_; refine pure_ (i := 4) (N := some 40) (v := ?_) (a' := ?_) #[true, true, true, true, true] rfl rfl (by kernel_rfl) (fun _ _ _ h => h) (Or.inl ⟨by rfl, ?_⟩) ?_ ?_
            rotate_left
            · intro w'
              go_simp
              (with_reducible rfl)
            rotate_left
            · simp only [Act.put, List.setIfInBounds_toArray, List.set_cons_zero, List.set_cons_succ, i64_w, i32_w]
              rfl
            refine done_ (by kernel_rfl) ?_
            try go_wp2
            go_ret
            exact ⟨ff, bs HB⟩
        · rw [if_neg c30] at H; have c30b0 : (t275 == t267) = false := beq_eq_false_iff_ne.mpr c30; have c30b1 : (t275 != t267) = true := bne_iff_ne.mpr c30; obtain rfl := Option.some.inj H
          go_wp2
          go_ret
          exact ⟨ff, bs HB⟩
end Go.Proofs.Ytefmkmhjbfpelaa.QT
namespace Go.Proofs.Ytefmkmhjbfpelaa.Rd
open Go.RowKit Go.ChangeShapes Go.WideShapes Go.Proofs.YtefmkmhjbfpelaaW.PrintWords
def Rd (P : Program) (t : TypeId) {α : Type} (d : Kd α) (wf : α → Prop) : Prop :=
  ∀ (H : Type) (enc : TypeId × Value → H) (w : World) (base : Nat) (sp : Nat → Bool) (held : Bool) (fuel : Nat) (cs : List Value) (x : DataW H × List MemPlace),
    DataW.trod enc P w base sp held fuel t cs = some x → ∃ a : α, d.K w a cs ∧ wf a
def RdF (P : Program) (fs : List Field) (off : Nat) {α : Type} (d : Kd α) (wf : α → Prop) : Prop :=
  ∀ (H : Type) (enc : TypeId × Value → H) (w : World) (base : Nat) (sp : Nat → Bool) (held : Bool) (n : Nat) (cs : List Value),
    cs.length = off + d.sz → (∀ f ∈ fs, ∃ y, DataW.trod enc P w base sp held n f.type ((cs.drop f.offset).take (P.cellsOf f.type)) = some y) → ∃ a : α, d.K w a (cs.drop off) ∧ wf a
def WfInt (k : IntKind) (n : Int) : Prop := (Lit.int k n).wf = true
def WfStr (s : ByteArray) : Prop := s.size ≤ maxLen
def WfRow {α : Type} (wf : α → Prop) (l : List α) : Prop := l.length ≤ maxLen ∧ ∀ x ∈ l, wf x
theorem rd_int {P : Program} {t : TypeId} {k : IntKind} (hu : P.underlying t = some (.int k)) : Rd P t (Kd.int k) (WfInt k) := by
  intro H enc w base sp held fuel cs x h
  cases fuel with
  | zero => simp [DataW.trod] at h
  | succ n =>
    match cs with
    | [.int k' m] =>
      simp only [DataW.trod, hu] at h
      split at h
      · rename_i hk
        obtain ⟨rfl, hw⟩ := hk
        exact ⟨m, rfl, hw⟩
      · cases h
    | [] => simp [DataW.trod, hu] at h
    | [.bool _] => simp [DataW.trod, hu] at h
    | [.float _ _] => simp [DataW.trod, hu] at h
    | [.complex _ _ _] => simp [DataW.trod, hu] at h
    | [.string _] => simp [DataW.trod, hu] at h
    | [.pointer _] => simp [DataW.trod, hu] at h
    | [.slice _ _ _] => simp [DataW.trod, hu] at h
    | [.map _] => simp [DataW.trod, hu] at h
    | [.chan _] => simp [DataW.trod, hu] at h
    | [.func _ _ _] => simp [DataW.trod, hu] at h
    | [.nilFunc] => simp [DataW.trod, hu] at h
    | [.iface _ _] => simp [DataW.trod, hu] at h
    | [.nilIface] => simp [DataW.trod, hu] at h
    | [.agg _] => simp [DataW.trod, hu] at h
    | [.tuple _] => simp [DataW.trod, hu] at h
    | _ :: _ :: _ => simp [DataW.trod, hu] at h
theorem rd_str {P : Program} {t : TypeId} (hu : P.underlying t = some .string) : Rd P t Kd.string WfStr := by
  intro H enc w base sp held fuel cs x h
  cases fuel with
  | zero => simp [DataW.trod] at h
  | succ n =>
    match cs with
    | [.string s] =>
      simp only [DataW.trod, hu] at h
      split at h
      · rename_i hk
        exact ⟨s, rfl, hk⟩
      · cases h
    | [] => simp [DataW.trod, hu] at h
    | [.int _ _] => simp [DataW.trod, hu] at h
    | [.bool _] => simp [DataW.trod, hu] at h
    | [.float _ _] => simp [DataW.trod, hu] at h
    | [.complex _ _ _] => simp [DataW.trod, hu] at h
    | [.pointer _] => simp [DataW.trod, hu] at h
    | [.slice _ _ _] => simp [DataW.trod, hu] at h
    | [.map _] => simp [DataW.trod, hu] at h
    | [.chan _] => simp [DataW.trod, hu] at h
    | [.func _ _ _] => simp [DataW.trod, hu] at h
    | [.nilFunc] => simp [DataW.trod, hu] at h
    | [.iface _ _] => simp [DataW.trod, hu] at h
    | [.nilIface] => simp [DataW.trod, hu] at h
    | [.agg _] => simp [DataW.trod, hu] at h
    | [.tuple _] => simp [DataW.trod, hu] at h
    | _ :: _ :: _ => simp [DataW.trod, hu] at h
theorem rdF_last {P : Program} {f : Field} {off : Nat} {α : Type} {d : Kd α} {wf : α → Prop} (h : Rd P f.type d wf) (ho : f.offset = off) (hc : P.cellsOf f.type = d.sz) : RdF P [f] off d wf := by
  intro H enc w base sp held n cs hl hy
  obtain ⟨y, hy⟩ := hy f (List.mem_singleton.2 rfl)
  rw [ho, hc, List.take_of_length_le (by rw [List.length_drop]; omega)] at hy
  exact h H enc w base sp held n _ y hy
theorem rdF_cons {P : Program} {f : Field} {fs : List Field} {off off2 : Nat} {α β : Type} {d : Kd α} {e : Kd β} {wf : α → Prop} {wg : β → Prop} (h : Rd P f.type d wf) (ho : f.offset = off) (hc : P.cellsOf f.type = d.sz)
    (h2 : off2 = off + d.sz) (hs : RdF P fs off2 e wg) : RdF P (f :: fs) off (Kd.pair d e) (fun x => wf x.1 ∧ wg x.2) := by
  intro H enc w base sp held n cs hl hy
  obtain ⟨y, hy1⟩ := hy f (List.mem_cons_self ..)
  have hl' : cs.length = off + (d.sz + e.sz) := hl
  obtain ⟨a, ha, hwa⟩ := h H enc w base sp held n _ y hy1
  obtain ⟨b, hb, hwb⟩ := hs H enc w base sp held n cs (by omega) (fun g hg => hy g (List.mem_cons_of_mem _ hg))
  rw [ho, hc] at ha
  refine ⟨(a, b), ⟨_, _, ?_, ha, hb⟩, hwa, hwb⟩
  rw [h2, ← List.drop_drop, List.take_append_drop]
theorem rd_struct {P : Program} {t : TypeId} {fs : Array Field} {α β : Type} {d : Kd α} {wf : α → Prop} {wg : β → Prop} (g : β → α) (gi : α → β) (hg : ∀ a, g (gi a) = a) (hwg : ∀ a, wf a → wg (gi a))
    (hu : P.underlying t = some (.struct fs)) (hc : P.cellsOf t = d.sz) (hF : RdF P fs.toList 0 d wf) : Rd P t (Kd.iso d g) wg := by
  intro H enc w base sp held fuel cs x h
  obtain ⟨xs, n, _, rfl, hl, hlen, hf⟩ := DataW.trod_struct hu h
  obtain ⟨a, ha, hwa⟩ := hF H enc w base sp held n cs (by omega) (fun f hfm => by
    obtain ⟨i, hi, rfl⟩ := List.mem_iff_getElem.1 hfm
    have hi' : i < fs.size := by simpa using hi
    have z := hf i (fs[i]) (by simp [hi'])
    rw [List.getElem?_eq_getElem (by omega)] at z
    exact ⟨_, by simpa using z⟩)
  refine ⟨gi a, ?_, hwg a hwa⟩
  show d.K w (g (gi a)) cs
  rw [hg]
  simpa using ha
theorem rd_slice {P : Program} {t e : TypeId} {α : Type} {d : Kd α} {wf : α → Prop} (hu : P.underlying t = some (.slice e)) (hc : P.cellsOf e = d.sz) (hd : Rd P e d wf) : Rd P t (Kd.slice e d) (WfRow wf) := by
  intro H enc w base sp held fuel cs x h
  rcases Go.Deep.open_slice hu h with ⟨rfl, _⟩ | ⟨a, len, cap, m, n, D, Pl, rfl, hb, hl, hm, hmm, _, hx⟩
  · exact ⟨[], ⟨none, 0, rfl, Nat.le_refl _, rfl, by simp, fun h => absurd h (by simp)⟩, by simp [maxLen], by simp⟩
  · have hlm : len ≤ m := by rw [hmm]; split <;> omega
    have hall : ∀ i, i < len → ∃ cs', w.cells? base (a.add (i * P.cellsOf e)) (P.cellsOf e) = some cs' ∧ DataW.trod enc P w base sp held n e cs' = some (D i, Pl i) := fun i hi => hx i (by omega)
    have key : ∀ (k : Nat), k ≤ len → ∃ l : List α, l.length = k ∧ (∀ x ∈ l, wf x) ∧ ∀ j p, l[j]? = some p → ∃ c, c.length = d.sz ∧ d.K w p c ∧ ∀ i u, c[i]? = some u → w.cell? (a.add (j * d.sz + i)) = some u := by
      intro k
      induction k with
      | zero => intro _; exact ⟨[], rfl, by simp, by simp⟩
      | succ k ih =>
        intro hk
        obtain ⟨l, hl1, hl2, hl3⟩ := ih (by omega)
        obtain ⟨cs', h1, h2⟩ := hall k (by omega)
        obtain ⟨b, hb1, hb2⟩ := hd H enc w base sp held n cs' _ h2
        refine ⟨l ++ [b], by simp [hl1], ?_, ?_⟩
        · intro z hz
          rcases List.mem_append.1 hz with hz | hz
          · exact hl2 z hz
          · rw [List.mem_singleton.1 hz]; exact hb2
        · intro j p hj
          by_cases hjl : j < l.length
          · rw [List.getElem?_append_left hjl] at hj
            exact hl3 j p hj
          · rw [List.getElem?_append_right (by omega)] at hj
            have hj0 : j - l.length = 0 := by
              cases hz : j - l.length with
              | zero => rfl
              | succ q => rw [hz] at hj; simp at hj
            rw [hj0] at hj
            obtain rfl : b = p := by simpa using hj
            have hjk : j = k := by omega
            subst hjk
            refine ⟨cs', d.K_len hb1, hb1, fun i u hu' => ?_⟩
            obtain ⟨_, hlen', hcell⟩ := World.cells?_some h1
            have hi : i < cs'.length := by
              rcases Nat.lt_or_ge i cs'.length with h | h
              · exact h
              · rw [List.getElem?_eq_none h] at hu'; cases hu'
            have z := hcell i (by omega)
            rw [hu', Go.Deep.add_add, hc] at z
            exact z
    obtain ⟨l, hl1, hl2, hl3⟩ := key len (Nat.le_refl _)
    refine ⟨l, ⟨some a, cap, by rw [hl1], by omega, ?_⟩, by rw [hl1]; exact Nat.le_trans hl hm, hl2⟩
    exact ⟨rfl, by rw [hl1]; have : cap ≤ 2 ^ 63 - 1 := hm; omega, fun _ => ⟨a, rfl, hl3⟩⟩
end Go.Proofs.Ytefmkmhjbfpelaa.Rd
namespace Go.Proofs.Ytefmkmhjbfpelaa.QT
open Go.RowKit Go.Proofs.Ytefmkmhjbfpelaa Go.Proofs.YtefmkmhjbfpelaaW.PrintWords
def wf154 (x : S154) : Prop := Rd.WfStr x.f0 ∧ (Rd.WfInt .i64) x.f1
def wf74 (x : S74) : Prop := Rd.WfStr x.f0 ∧ Rd.WfStr x.f1 ∧ (Rd.WfInt .i64) x.f2 ∧ Rd.WfStr x.f3 ∧ (Rd.WfInt .i64) x.f4 ∧ (Rd.WfInt .i64) x.f5 ∧ (Rd.WfInt .i64) x.f6 ∧ (Rd.WfInt .i64) x.f7
def wf41 (x : S41) : Prop := (Rd.WfRow wf154) x.f0 ∧ (Rd.WfRow wf74) x.f1
set_option maxRecDepth 100000 in
theorem rd154 : Rd.Rd Try.prog 154 k154 wf154 := Rd.rd_struct _ (fun a => ⟨a.1, a.2⟩) (fun _ => rfl) (fun _ h => h) Try.underlying154 (by kernel_rfl) (Rd.rdF_cons (Rd.rd_str (Try.underlying9)) rfl (by kernel_rfl) (off2 := 1) rfl (Rd.rdF_last (Rd.rd_int (Try.underlying2)) rfl (by kernel_rfl)))
set_option maxRecDepth 100000 in
theorem rd74 : Rd.Rd Try.prog 74 k74 wf74 := Rd.rd_struct _ (fun a => ⟨a.1, a.2.1, a.2.2.1, a.2.2.2.1, a.2.2.2.2.1, a.2.2.2.2.2.1, a.2.2.2.2.2.2.1, a.2.2.2.2.2.2.2⟩) (fun _ => rfl) (fun _ h => h) Try.underlying74 (by kernel_rfl) (Rd.rdF_cons (Rd.rd_str (Try.underlying9)) rfl (by kernel_rfl) (off2 := 1) rfl (Rd.rdF_cons (Rd.rd_str (Try.underlying9)) rfl (by kernel_rfl) (off2 := 2) rfl (Rd.rdF_cons (Rd.rd_int (Try.underlying2)) rfl (by kernel_rfl) (off2 := 3) rfl (Rd.rdF_cons (Rd.rd_str (Try.underlying9)) rfl (by kernel_rfl) (off2 := 4) rfl (Rd.rdF_cons (Rd.rd_int (Try.underlying2)) rfl (by kernel_rfl) (off2 := 5) rfl (Rd.rdF_cons (Rd.rd_int (Try.underlying2)) rfl (by kernel_rfl) (off2 := 6) rfl (Rd.rdF_cons (Rd.rd_int (Try.underlying2)) rfl (by kernel_rfl) (off2 := 7) rfl (Rd.rdF_last (Rd.rd_int (Try.underlying2)) rfl (by kernel_rfl)))))))))
set_option maxRecDepth 100000 in
theorem rd41 : Rd.Rd Try.prog 41 k41 wf41 := Rd.rd_struct _ (fun a => ⟨a.1, a.2⟩) (fun _ => rfl) (fun _ h => h) Try.underlying41 (by kernel_rfl) (Rd.rdF_cons (Rd.rd_slice Try.underlying38 (by kernel_rfl) rd154) rfl (by kernel_rfl) (off2 := 1) rfl (Rd.rdF_last (Rd.rd_slice Try.underlying39 (by kernel_rfl) rd74) rfl (by kernel_rfl)))
end Go.Proofs.Ytefmkmhjbfpelaa.QT
namespace Go.Proofs.Ytefmkmhjbfpelaa.QT
open Go.Proofs.Ytefmkmhjbfpelaa Go.Proofs.YtefmkmhjbfpelaaW.PrintWords
def laws_FnExactBookTransit.Pure : Prop := ∀ (l0_0 : List (S154)) (l0_1 : List (S74)) (a1 : ByteArray) (a2 : ByteArray), (Rd.WfRow wf154) l0_0 → (Rd.WfRow wf74) l0_1 → Rd.WfStr a1 → Rd.WfStr a2 → ∃ k, laws_FnExactBookTransit.f k l0_0 l0_1 a1 a2 = some true
end Go.Proofs.Ytefmkmhjbfpelaa.QT
namespace Go.Proofs.Ytefmkmhjbfpelaa.Ev0
open Go.RowKit Go.Proofs.YtefmkmhjbfpelaaW.PrintWords
def Evt {α : Type} (f : Nat → Option α) (r : α) : Prop := ∃ K, ∀ k, K ≤ k → f k = some r
namespace Evt
variable {α β : Type}
theorem const {o : Option α} {r : α} (h : o = some r) : Evt (fun _ => o) r := ⟨0, fun _ _ => h⟩
theorem pure (r : α) : Evt (fun _ => some r) r := ⟨0, fun _ _ => rfl⟩
theorem bind {f : Nat → Option α} {g : Nat → α → Option β} {a : α} {r : β} (h : Evt f a) (h2 : Evt (fun k => g k a) r) : Evt (fun k => (f k).bind (g k)) r := by
  obtain ⟨K, hK⟩ := h
  obtain ⟨L, hL⟩ := h2
  refine ⟨K + L, fun k hk => ?_⟩
  show (f k).bind (g k) = some r
  rw [hK k (by omega)]
  exact hL k (by omega)
theorem succ {f : Nat → Option α} {r : α} (h : Evt (fun k => f (k + 1)) r) : Evt f r := by
  obtain ⟨K, hK⟩ := h
  refine ⟨K + 1, fun k hk => ?_⟩
  obtain ⟨m, rfl⟩ : ∃ m, k = m + 1 := ⟨k - 1, by omega⟩
  exact hK m (by omega)
theorem pos {c : Prop} [Decidable c] {f g : Nat → Option α} {r : α} (hc : c) (h : Evt f r) : Evt (fun k => if c then f k else g k) r := by
  simpa only [if_pos hc] using h
theorem neg {c : Prop} [Decidable c] {f g : Nat → Option α} {r : α} (hc : ¬ c) (h : Evt g r) : Evt (fun k => if c then f k else g k) r := by
  simpa only [if_neg hc] using h
theorem ite {c : Prop} [Decidable c] {f g : Nat → Option α} {r : α} (h1 : c → Evt f r) (h2 : ¬ c → Evt g r) : Evt (fun k => if c then f k else g k) r := by
  by_cases hc : c
  · exact pos hc (h1 hc)
  · exact neg hc (h2 hc)
theorem ex {f : Nat → Option α} {r : α} (h : Evt f r) : ∃ k, f k = some r := by
  obtain ⟨K, hK⟩ := h
  exact ⟨K, hK K (Nat.le_refl _)⟩
theorem same {f : Nat → Option α} {r r' : α} (h : Evt f r) (e : r = r') : Evt f r' := e ▸ h
end Evt
theorem w64 {x : Int} (h0 : -9223372036854775808 ≤ x) (h1 : x ≤ 9223372036854775807) : wrap64 x = x := by
  unfold wrap64
  omega
noncomputable def B (p : Prop) : Bool := @decide p (Classical.propDecidable p)
theorem B_true {p : Prop} (h : p) : B p = true := by unfold B; exact @decide_eq_true p (Classical.propDecidable p) h
theorem B_false {p : Prop} (h : ¬ p) : B p = false := by unfold B; exact @decide_eq_false p (Classical.propDecidable p) h
theorem B_iff {p : Prop} : B p = true ↔ p := by unfold B; exact @decide_eq_true_iff p (Classical.propDecidable p)
theorem B_congr {p q : Prop} (h : p ↔ q) : B p = B q := by rw [propext h]
theorem decide_B (p : Prop) [Decidable p] : decide p = B p := by
  by_cases h : p
  · rw [decide_eq_true h, B_true h]
  · rw [decide_eq_false h, B_false h]
theorem bool_B {b : Bool} {p : Prop} (h : b = true ↔ p) : b = B p := by
  cases b with
  | true => exact (B_true (h.1 rfl)).symm
  | false => exact (B_false (fun hp => by simpa using h.2 hp)).symm
theorem and_ {c p q : Prop} [Decidable c] {f : Nat → Option Bool} (hc : c ↔ p) (h : p → Evt f (B q)) : Evt (fun k => if c then f k else some false) (B (p ∧ q)) := by
  by_cases e : c
  · exact Evt.pos e ((h (hc.1 e)).same (B_congr ⟨fun x => ⟨hc.1 e, x⟩, fun x => x.2⟩))
  · exact Evt.neg e ((Evt.pure false).same (B_false (fun x => e (hc.2 x.1))).symm)
theorem last_ {p q : Prop} [Decidable p] (h : p ↔ q) : Evt (fun _ => some (decide p)) (B q) := (Evt.pure _).same ((decide_B p).trans (B_congr h))
theorem lastB_ {p q : Prop} (h : p ↔ q) : Evt (fun _ => some (B p)) (B q) := (Evt.pure _).same (B_congr h)
end Go.Proofs.Ytefmkmhjbfpelaa.Ev0
namespace Go.Proofs.Ytefmkmhjbfpelaa.Ev0
open Go.RowKit Go.Proofs.YtefmkmhjbfpelaaW.PrintWords
theorem up_loop {σ ρ : Type} (n : Int) (F : Nat → σ → Int → Option ρ) (st : Int → σ) (r : Int → ρ)
    (step : ∀ i, 0 ≤ i → i < n → Evt (fun k => F k (st (i + 1)) (i + 1)) (r (i + 1)) → Evt (fun k => F (k + 1) (st i) i) (r i))
    (stop : Evt (fun k => F (k + 1) (st n) n) (r n)) (i : Int) (h0 : 0 ≤ i) (hn : i ≤ n) : Evt (fun k => F k (st i) i) (r i) := by
  have key : ∀ (d : Nat) (i : Int), 0 ≤ i → i ≤ n → n - i ≤ d → Evt (fun k => F k (st i) i) (r i) := by
    intro d
    induction d with
    | zero =>
      intro i h0 h1 hd
      obtain rfl : i = n := by omega
      exact stop.succ
    | succ d ih =>
      intro i h0 h1 hd
      by_cases hlt : i < n
      · exact (step i h0 hlt (ih (i + 1) (by omega) (by omega) (by omega))).succ
      · obtain rfl : i = n := by omega
        exact stop.succ
  exact key (n - i).toNat i h0 hn (by omega)
def SzR (f : Nat → Option Int) (left : Int) (p : Prop) : Prop := ∃ t, Evt f t ∧ (t < 0 ∨ (0 ≤ t ∧ t ≤ left ∧ p))
theorem sz_loop (n : Nat) (hn : n ≤ 9223372036854775807) (p : Int → Prop) (f : Nat → Option Int) (F : Nat → Int → Int → Option Int) (left : Int) (hl0 : 0 ≤ left) (hl : left ≤ 1048576)
    (hf : ∀ k, f k = if wrap64 (left - (n : Int)) < 0 then some (-1) else F k (wrap64 (left - (n : Int))) 0)
    (step : ∀ s i, 0 ≤ i → i < (n : Int) → 0 ≤ s → s ≤ 1048576 → (∃ r, r < 0 ∧ Evt (fun k => F (k + 1) s i) r) ∨ (∃ s', 0 ≤ s' ∧ s' ≤ s ∧ p i ∧ ∀ r, Evt (fun k => F k s' (i + 1)) r → Evt (fun k => F (k + 1) s i) r))
    (stop : ∀ s i, (n : Int) ≤ i → Evt (fun k => F (k + 1) s i) s) : SzR f left (n ≤ 1048576 ∧ ∀ i, 0 ≤ i → i < (n : Int) → p i) := by
  have hw : wrap64 (left - (n : Int)) = left - (n : Int) := w64 (by omega) (by omega)
  by_cases h : left - (n : Int) < 0
  · refine ⟨-1, ⟨0, fun k _ => ?_⟩, .inl (by decide)⟩
    rw [hf, hw, if_pos h]
  · have key : ∀ (d : Nat) (s i : Int), 0 ≤ i → (n : Int) - i ≤ d → 0 ≤ s → s ≤ 1048576 → ∃ t, Evt (fun k => F k s i) t ∧ (t < 0 ∨ (0 ≤ t ∧ t ≤ s ∧ ∀ j, i ≤ j → j < (n : Int) → p j)) := by
      intro d
      induction d with
      | zero => intro s i h0 hd hs0 hs1; exact ⟨s, (stop s i (by omega)).succ, .inr ⟨hs0, Int.le_refl _, fun j h1 h2 => absurd h2 (by omega)⟩⟩
      | succ d ih =>
        intro s i h0 hd hs0 hs1
        by_cases hlt : i < (n : Int)
        · rcases step s i h0 hlt hs0 hs1 with ⟨r, hr0, hr⟩ | ⟨s', h1, h2, hp, hs⟩
          · exact ⟨r, hr.succ, .inl hr0⟩
          · obtain ⟨t, ht, h3⟩ := ih s' (i + 1) (by omega) (by omega) h1 (by omega)
            refine ⟨t, (hs t ht).succ, h3.imp id (fun ⟨g0, g1, g2⟩ => ⟨g0, by omega, fun j h1 h2 => ?_⟩)⟩
            by_cases e : j = i
            · rw [e]; exact hp
            · exact g2 j (by omega) h2
        · exact ⟨s, (stop s i (by omega)).succ, .inr ⟨hs0, Int.le_refl _, fun j h1 h2 => absurd h2 (by omega)⟩⟩
    obtain ⟨t, ⟨K, hK⟩, h3⟩ := key n (left - (n : Int)) 0 (Int.le_refl _) (by omega) (by omega) (by omega)
    refine ⟨t, ⟨K, fun k hk => ?_⟩, h3.imp id (fun ⟨g0, g1, g2⟩ => ⟨g0, by omega, by omega, g2⟩)⟩
    rw [hf, hw, if_neg h]
    exact hK k hk
theorem sz_step {s a : Int} {f : Option Int} {p : Prop} (hs0 : 0 ≤ s) (hs1 : s ≤ 1048576) (ha0 : 0 ≤ a) (ha : a ≤ 9223372036854775807)
    (h : 0 ≤ s - a → ∃ t, f = some t ∧ (t < 0 ∨ (0 ≤ t ∧ t ≤ s - a ∧ p))) : ∃ t, (if wrap64 (s - a) < 0 then some (-1) else f) = some t ∧ (t < 0 ∨ (0 ≤ t ∧ t ≤ s ∧ p)) := by
  have hw : wrap64 (s - a) = s - a := w64 (by omega) (by omega)
  rw [hw]
  by_cases hn : s - a < 0
  · exact ⟨-1, by rw [if_pos hn], .inl (by decide)⟩
  · obtain ⟨t, ht, h2⟩ := h (by omega)
    exact ⟨t, by rw [if_neg hn]; exact ht, h2.imp id (fun ⟨g0, g1, g2⟩ => ⟨g0, by omega, g2⟩)⟩
theorem wsub {s a : Int} (hs0 : 0 ≤ s) (hs1 : s ≤ 1048576) (ha0 : 0 ≤ a) (ha : a ≤ 9223372036854775807) : wrap64 (s - a) = s - a := w64 (by omega) (by omega)
theorem getD_at {α : Type} (l : List α) (z : α) (i : Nat) (h : i < l.length) : l.getD i z = l[i] := by
  rw [List.getD_eq_getElem?_getD, List.getElem?_eq_getElem h]
  rfl
theorem fill_loop {α β : Type} (l : List α) (zα : α) (z : β) (g : α → β) (F : Nat → List β → Int → Option (List β))
    (step : ∀ acc i, 0 ≤ i → i < (l.length : Int) → acc.length = l.length → ∀ r, Evt (fun k => F k (acc.set i.toNat (g (l.getD i.toNat zα))) (i + 1)) r → Evt (fun k => F (k + 1) acc i) r)
    (stop : ∀ acc i, (l.length : Int) ≤ i → Evt (fun k => F (k + 1) acc i) acc) : Evt (fun k => F k (List.replicate l.length z) 0) (l.map g) := by
  have h := up_loop (l.length : Int) F (fun i => (l.take i.toNat).map g ++ List.replicate (l.length - i.toNat) z) (fun _ => l.map g) ?_ ?_ 0 (Int.le_refl _) (by omega)
  · simpa using h
  · intro i h0 hlt ih
    refine step _ i h0 hlt (by simp; omega) _ ?_
    have hi : i.toNat < l.length := by omega
    have e : ((l.take i.toNat).map g ++ List.replicate (l.length - i.toNat) z).set i.toNat (g (l.getD i.toNat zα)) = (l.take (i + 1).toNat).map g ++ List.replicate (l.length - (i + 1).toNat) z := by
      have e1 : (i + 1).toNat = i.toNat + 1 := by omega
      rw [e1, List.take_succ_eq_append_getElem hi, List.map_append, getD_at l zα _ hi, List.set_append_right _ _ (by simp; omega)]
      have e2 : l.length - i.toNat = (l.length - (i.toNat + 1)) + 1 := by omega
      have e3 : i.toNat - ((l.take i.toNat).map g).length = 0 := by simp; omega
      rw [e2, e3, List.replicate_succ]
      simp
    rw [e]
    exact ih
  · have h := stop ((l.take ((l.length : Int)).toNat).map g ++ List.replicate (l.length - ((l.length : Int)).toNat) z) (l.length : Int) (Int.le_refl _)
    refine h.same ?_
    simp
theorem all_loop (n : Int) (h0 : 0 ≤ n) (F : Nat → Int → Option Bool) (step : ∀ i, 0 ≤ i → i < n → Evt (fun k => F k (i + 1)) true → Evt (fun k => F (k + 1) i) true)
    (stop : Evt (fun k => F (k + 1) n) true) : Evt (fun k => F k 0) true :=
  up_loop n (fun k (_ : Unit) i => F k i) (fun _ => ()) (fun _ => true) step stop 0 (Int.le_refl _) h0
theorem right_loop (n : Int) (hn : 0 ≤ n) (ok : Int → Prop) (q : Prop) (F : Nat → Int → Option Bool)
    (step : ∀ i, 0 ≤ i → i < n → (ok i → ∀ r, Evt (fun k => F k (i + 1)) r → Evt (fun k => F (k + 1) i) r) ∧ (¬ ok i → Evt (fun k => F (k + 1) i) false))
    (stop : Evt (fun k => F (k + 1) n) (B q)) : Evt (fun k => F k 0) (B ((∀ i, 0 ≤ i → i < n → ok i) ∧ q)) := by
  have h := up_loop n (fun k (_ : Unit) i => F k i) (fun _ => ()) (fun i => B ((∀ j, i ≤ j → j < n → ok j) ∧ q)) ?_ ?_ 0 (Int.le_refl _) hn
  · exact h
  · intro i h0 hlt ih
    by_cases hk : ok i
    · refine ((step i h0 hlt).1 hk _ ih).same (B_congr ⟨fun h => ⟨fun j h1 h2 => ?_, h.2⟩, fun h => ⟨fun j h1 h2 => h.1 j (by omega) h2, h.2⟩⟩)
      by_cases e : j = i
      · rw [e]; exact hk
      · exact h.1 j (by omega) h2
    · exact ((step i h0 hlt).2 hk).same (B_false (fun h => hk (h.1 i (Int.le_refl _) hlt))).symm
  · exact stop.same (B_congr ⟨fun h => ⟨fun j h1 h2 => absurd h2 (by omega), h⟩, fun h => h.2⟩)
theorem find_loop (n : Int) (hn : 0 ≤ n) (p : Int → Prop) (F : Nat → Int → Option Int)
    (step : ∀ i, 0 ≤ i → i < n → (p i → Evt (fun k => F (k + 1) i) i) ∧ (¬ p i → ∀ r, Evt (fun k => F k (i + 1)) r → Evt (fun k => F (k + 1) i) r))
    (stop : Evt (fun k => F (k + 1) n) (-1)) :
    ∃ r, Evt (fun k => F k 0) r ∧ ((r = -1 ∧ ∀ j, 0 ≤ j → j < n → ¬ p j) ∨ (0 ≤ r ∧ r < n ∧ p r ∧ ∀ j, 0 ≤ j → j < r → ¬ p j)) := by
  have key : ∀ (d : Nat) (i : Int), 0 ≤ i → i ≤ n → n - i ≤ d → ∃ r, Evt (fun k => F k i) r ∧ ((r = -1 ∧ ∀ j, i ≤ j → j < n → ¬ p j) ∨ (i ≤ r ∧ r < n ∧ p r ∧ ∀ j, i ≤ j → j < r → ¬ p j)) := by
    intro d
    induction d with
    | zero =>
      intro i h0 h1 hd
      obtain rfl : i = n := by omega
      exact ⟨-1, stop.succ, .inl ⟨rfl, fun j h1 h2 => absurd h2 (by omega)⟩⟩
    | succ d ih =>
      intro i h0 h1 hd
      by_cases hlt : i < n
      · by_cases hp : p i
        · exact ⟨i, ((step i h0 hlt).1 hp).succ, .inr ⟨Int.le_refl _, hlt, hp, fun j h1 h2 => absurd h2 (by omega)⟩⟩
        · obtain ⟨r, hr, h⟩ := ih (i + 1) (by omega) (by omega) (by omega)
          refine ⟨r, ((step i h0 hlt).2 hp r hr).succ, ?_⟩
          rcases h with ⟨h1, h2⟩ | ⟨h1, h2, h3, h4⟩
          · refine .inl ⟨h1, fun j g1 g2 => ?_⟩
            by_cases e : j = i
            · rw [e]; exact hp
            · exact h2 j (by omega) g2
          · refine .inr ⟨by omega, h2, h3, fun j g1 g2 => ?_⟩
            by_cases e : j = i
            · rw [e]; exact hp
            · exact h4 j (by omega) g2
      · obtain rfl : i = n := by omega
        exact ⟨-1, stop.succ, .inl ⟨rfl, fun j h1 h2 => absurd h2 (by omega)⟩⟩
  exact key n.toNat 0 (Int.le_refl _) hn (by omega)
end Go.Proofs.Ytefmkmhjbfpelaa.Ev0
namespace Go.Proofs.Ytefmkmhjbfpelaa.QT
open Go.RowKit Go.Proofs.YtefmkmhjbfpelaaW.PrintWords Go.Proofs.Ytefmkmhjbfpelaa.Ev0
def less (a b : ByteArray) : Prop := Op.bytesLess a.toList b.toList = true
noncomputable def cmpS (a b : ByteArray) : Int := if Op.bytesLess a.toList b.toList = true then -1 else if Op.bytesLess b.toList a.toList = true then 1 else 0
def cmpI (a b : Int) : Int := if a < b then -1 else if a > b then 1 else 0
theorem cmpS_ev (a b : ByteArray) : cmp_Compare_string.f a b = some (cmpS a b) := by
  have e1 : ∀ x : ByteArray, cmp_isNaN_string.f x = some false := fun x => by simp [cmp_isNaN_string.f]
  unfold cmp_Compare_string.f cmpS
  simp only [e1, Option.bind_some, Bool.false_eq_true, if_false]
  split
  · rfl
  · split <;> rfl
theorem cmpI_ev (a b : Int) : cmp_Compare_int64.f a b = some (cmpI a b) := by
  have e1 : ∀ x : Int, cmp_isNaN_int64.f x = some false := fun x => by simp [cmp_isNaN_int64.f]
  unfold cmp_Compare_int64.f cmpI
  simp only [e1, Option.bind_some, Bool.false_eq_true, if_false]
  split
  · rfl
  · split <;> rfl
theorem cmpS_cases (a b : ByteArray) : (less a b ∧ ¬ less b a ∧ ¬ a.toList = b.toList ∧ cmpS a b = -1) ∨ (¬ less a b ∧ less b a ∧ ¬ a.toList = b.toList ∧ cmpS a b = 1) ∨ (¬ less a b ∧ ¬ less b a ∧ a.toList = b.toList ∧ cmpS a b = 0) := by
  have t1 := Bs.less_tri a.toList b.toList
  have t2 := Bs.less_tri b.toList a.toList
  unfold less cmpS
  cases h1 : Op.bytesLess a.toList b.toList <;> cases h2 : Op.bytesLess b.toList a.toList
  · right; right
    rw [h1, h2] at t1
    refine ⟨by simp, by simp, by simpa using t1, by simp⟩
  · right; left
    refine ⟨by simp, by simp, ?_, by simp⟩
    intro e
    rw [e, Bs.less_irrefl] at h2
    cases h2
  · left
    refine ⟨by simp, by simp, ?_, by simp⟩
    intro e
    rw [e, Bs.less_irrefl] at h1
    cases h1
  · rw [h1, h2] at t1
    simp at t1
theorem cmpI_cases (a b : Int) : (a < b ∧ cmpI a b = -1) ∨ (b < a ∧ cmpI a b = 1) ∨ (a = b ∧ cmpI a b = 0) := by
  unfold cmpI
  split
  · left; exact ⟨by assumption, rfl⟩
  · split
    · right; left; exact ⟨by omega, rfl⟩
    · right; right; exact ⟨by omega, rfl⟩
def orL : List Int → Int
  | [] => 0
  | x :: xs => if x = 0 then orL xs else x
theorem or_ev (l : List Int) (hl : l.length ≤ 1000) : Evt (fun k => cmp_Or_int.f k l) (orL l) := by
  unfold cmp_Or_int.f
  have h := up_loop (l.length : Int) (fun k (_ : Unit) i => cmp_Or_int.l0 k 0 l (l.length : Int) i) (fun _ => ()) (fun i => orL (l.drop i.toNat)) ?_ ?_ 0 (Int.le_refl _) (by omega)
  · simpa using h
  · intro i h0 hlt ih
    simp only [cmp_Or_int.l0]
    refine Evt.pos hlt (Evt.pos h0 (Evt.pos hlt ?_))
    rw [w64 (show -9223372036854775808 ≤ i + 1 by omega) (by omega)]
    have hi : i.toNat < l.length := by omega
    have e : l.drop i.toNat = rd l i :: l.drop (i + 1).toNat := by
      rw [show (i + 1).toNat = i.toNat + 1 by omega, List.drop_eq_getElem_cons hi]
      congr 1
      unfold rd
      rw [getD_at l 0 _ hi]
    rw [e]
    unfold orL
    by_cases hz : rd l i = 0
    · rw [if_pos hz]
      exact Evt.pos hz ih
    · rw [if_neg hz]
      exact Evt.neg hz (Evt.pure _)
  · simp only [cmp_Or_int.l0]
    refine Evt.neg (by omega) ((Evt.pure _).same ?_)
    simp [orL]
end Go.Proofs.Ytefmkmhjbfpelaa.QT
namespace Go.Proofs.Ytefmkmhjbfpelaa.QT
open Go.RowKit Go.Proofs.YtefmkmhjbfpelaaW.PrintWords Go.Proofs.Ytefmkmhjbfpelaa.Ev0
theorem within_ev (a b c : Int) : impl_within.f a b c = some (B (b ≤ a ∧ a ≤ c)) := by
  unfold impl_within.f
  by_cases h : b ≤ a
  · rw [if_pos h, decide_B]
    exact congrArg some (B_congr ⟨fun x => ⟨h, x⟩, fun x => x.2⟩)
  · rw [if_neg h, B_false (fun x => h x.1)]
theorem isGreat_ev (c : Int) : impl_isGreat.f c = some (B (65 ≤ c ∧ c ≤ 90)) := by
  unfold impl_isGreat.f
  by_cases h : c ≥ 65
  · rw [if_pos h, decide_B]
    exact congrArg some (B_congr ⟨fun x => ⟨h, x⟩, fun x => x.2⟩)
  · rw [if_neg h, B_false (fun x => h x.1)]
theorem isDigit_ev (c : Int) : impl_isDigit.f c = some (B (48 ≤ c ∧ c ≤ 57)) := by
  unfold impl_isDigit.f
  by_cases h : c ≥ 48
  · rw [if_pos h, decide_B]
    exact congrArg some (B_congr ⟨fun x => ⟨h, x⟩, fun x => x.2⟩)
  · rw [if_neg h, B_false (fun x => h x.1)]
theorem isQty_ev (n : Int) : impl_isQty.f n = some (B (1 ≤ n ∧ n ≤ 1000000)) := by
  unfold impl_isQty.f
  rw [within_ev]
  rfl
theorem l01Qty_ev (n : Int) : spec_l01Qty.f n = some (B (1 ≤ n ∧ n ≤ 1000000)) := by
  unfold spec_l01Qty.f
  by_cases h : n ≥ 1
  · rw [if_pos h, decide_B]
    exact congrArg some (B_congr ⟨fun x => ⟨h, x⟩, fun x => x.2⟩)
  · rw [if_neg h, B_false (fun x => h x.1)]
def okc (c : Int) : Prop := (65 ≤ c ∧ c ≤ 90) ∨ (48 ≤ c ∧ c ≤ 57) ∨ c = 45
def NameP (s : ByteArray) : Prop := 1 ≤ (s.size : Int) ∧ (s.size : Int) ≤ 12 ∧ (65 ≤ bt s 0 ∧ bt s 0 ≤ 90) ∧ ∀ j : Int, 0 ≤ j → j < s.size → okc (bt s j)
noncomputable def nameB (s : ByteArray) : Bool := B (NameP s)
theorem specName_l (s : ByteArray) (hs : (s.size : Int) ≤ 9223372036854775807) (d : Nat) : ∀ i : Int, 0 ≤ i → (s.size : Int) - i ≤ d → Evt (fun k => spec_l01Name.l0 k s i) (B (∀ j : Int, i ≤ j → j < s.size → okc (bt s j))) := by
  induction d with
  | zero =>
    intro i h0 hd
    apply Evt.succ
    simp only [spec_l01Name.l0]
    refine Evt.neg (by omega) ((Evt.pure true).same (B_true ?_).symm)
    intro j h1 h2
    omega
  | succ d ih =>
    intro i h0 hd
    apply Evt.succ
    simp only [spec_l01Name.l0]
    by_cases hlt : i < (s.size : Int)
    · refine Evt.pos hlt (Evt.pos h0 ?_)
      have hw : wrap64 (i + 1) = i + 1 := w64 (by omega) (by omega)
      rw [hw]
      have yes : okc (bt s i) → Evt (fun k => spec_l01Name.l0 k s (i + 1)) (B (∀ j : Int, i ≤ j → j < s.size → okc (bt s j))) := fun hc =>
        (ih (i + 1) (by omega) (by omega)).same (B_congr ⟨fun h j h1 h2 => by
          by_cases e : j = i
          · rw [e]; exact hc
          · exact h j (by omega) h2, fun h j h1 h2 => h j (by omega) h2⟩)
      have no : ¬ okc (bt s i) → Evt (fun _ => some false) (B (∀ j : Int, i ≤ j → j < s.size → okc (bt s j))) := fun hc =>
        (Evt.pure false).same (B_false (fun h => hc (h i (Int.le_refl _) hlt))).symm
      have digit : Evt (fun k => if bt s i ≥ 48 then (if bt s i ≤ 57 then spec_l01Name.l0 k s (i + 1) else (if bt s i = 45 then spec_l01Name.l0 k s (i + 1) else some false)) else (if bt s i = 45 then spec_l01Name.l0 k s (i + 1) else some false)) (B (∀ j : Int, i ≤ j → j < s.size → okc (bt s j))) ∨ (65 ≤ bt s i ∧ bt s i ≤ 90) := by
        by_cases hg : 65 ≤ bt s i ∧ bt s i ≤ 90
        · exact .inr hg
        · refine .inl (Evt.ite (fun h1 => Evt.ite (fun h2 => yes (.inr (.inl ⟨h1, h2⟩))) (fun h2 => Evt.ite (fun h3 => yes (.inr (.inr h3))) (fun h3 => no (fun hk => ?_)))) (fun h1 => Evt.ite (fun h3 => yes (.inr (.inr h3))) (fun h3 => no (fun hk => ?_))))
          · rcases hk with hk | hk | hk
            · exact hg hk
            · omega
            · exact h3 hk
          · rcases hk with hk | hk | hk
            · exact hg hk
            · omega
            · exact h3 hk
      refine Evt.ite (fun h1 => Evt.ite (fun h2 => yes (.inl ⟨h1, h2⟩)) (fun h2 => ?_)) (fun h1 => ?_)
      · exact digit.resolve_right (fun h => h2 h.2)
      · exact digit.resolve_right (fun h => h1 h.1)
    · refine Evt.neg hlt ((Evt.pure true).same (B_true ?_).symm)
      intro j h1 h2
      omega
theorem specName_ev (s : ByteArray) (hs : (s.size : Int) ≤ 9223372036854775807) : Evt (fun k => spec_l01Name.f k s) (nameB s) := by
  unfold spec_l01Name.f
  have bad : ¬ NameP s → Evt (fun k => spec_l01Name.j0 k s true) (nameB s) := fun h => by
    apply Evt.succ
    simp only [spec_l01Name.j0]
    exact (Evt.pure false).same (B_false h).symm
  refine Evt.ite (fun h => bad (fun hn => by have := hn.1; omega)) (fun h1 => Evt.ite (fun h => bad (fun hn => by have := hn.2.1; omega)) (fun h2 => Evt.pos (by omega) (Evt.ite (fun h => bad (fun hn => by have := hn.2.2.1.1; omega)) (fun h3 => ?_))))
  by_cases h4 : bt s 0 > 90
  · rw [decide_eq_true h4]
    exact bad (fun hn => by have := hn.2.2.1.2; omega)
  · rw [decide_eq_false h4]
    apply Evt.succ
    simp only [spec_l01Name.j0]
    refine (specName_l s hs s.size 0 (Int.le_refl _) (by omega)).same (B_congr ⟨fun h => ⟨by omega, by omega, ⟨by omega, by omega⟩, h⟩, fun h => h.2.2.2⟩)
theorem implName_l (s : ByteArray) (hs : (s.size : Int) ≤ 9223372036854775807) (d : Nat) : ∀ i : Int, 0 ≤ i → (s.size : Int) - i ≤ d →
    Evt (fun k => impl_isName.l0 k s (s.size : Int) i) (B ((∀ j : Int, i ≤ j → j < s.size → (65 ≤ bt s j ∧ bt s j ≤ 90) ∨ (j ≠ 0 ∧ okc (bt s j))) ∧ 1 ≤ (s.size : Int) ∧ (s.size : Int) ≤ 12)) := by
  induction d with
  | zero =>
    intro i h0 hd
    apply Evt.succ
    simp only [impl_isName.l0]
    refine Evt.neg (by omega) (Evt.const ?_)
    rw [within_ev]
    exact congrArg some (B_congr ⟨fun h => ⟨fun j h1 h2 => by omega, h⟩, fun h => h.2⟩)
  | succ d ih =>
    intro i h0 hd
    apply Evt.succ
    simp only [impl_isName.l0]
    by_cases hlt : i < (s.size : Int)
    · refine Evt.pos hlt (Evt.pos h0 (Evt.pos hlt ?_))
      have hw : wrap64 (i + 1) = i + 1 := w64 (by omega) (by omega)
      rw [hw, isGreat_ev, isDigit_ev]
      have yes : ((65 ≤ bt s i ∧ bt s i ≤ 90) ∨ (i ≠ 0 ∧ okc (bt s i))) → Evt (fun k => impl_isName.l0 k s (s.size : Int) (i + 1)) (B ((∀ j : Int, i ≤ j → j < s.size → (65 ≤ bt s j ∧ bt s j ≤ 90) ∨ (j ≠ 0 ∧ okc (bt s j))) ∧ 1 ≤ (s.size : Int) ∧ (s.size : Int) ≤ 12)) := fun hc =>
        (ih (i + 1) (by omega) (by omega)).same (B_congr ⟨fun h => ⟨fun j h1 h2 => by
          by_cases e : j = i
          · rw [e]; exact hc
          · exact h.1 j (by omega) h2, h.2⟩, fun h => ⟨fun j h1 h2 => h.1 j (by omega) h2, h.2⟩⟩)
      have no : ¬ ((65 ≤ bt s i ∧ bt s i ≤ 90) ∨ (i ≠ 0 ∧ okc (bt s i))) → Evt (fun _ => some false) (B ((∀ j : Int, i ≤ j → j < s.size → (65 ≤ bt s j ∧ bt s j ≤ 90) ∨ (j ≠ 0 ∧ okc (bt s j))) ∧ 1 ≤ (s.size : Int) ∧ (s.size : Int) ≤ 12)) := fun hc =>
        (Evt.pure false).same (B_false (fun h => hc (h.1 i (Int.le_refl _) hlt))).symm
      simp only [Option.bind_some]
      refine Evt.ite (fun h1 => yes (.inl (B_iff.1 h1))) (fun h1 => ?_)
      have g1 : ¬ (65 ≤ bt s i ∧ bt s i ≤ 90) := fun h => h1 (B_iff.2 h)
      refine Evt.ite (fun h2 => no (fun h => h.elim g1 (fun h => h.1 h2))) (fun h2 => Evt.ite (fun h3 => yes (.inr ⟨h2, .inr (.inl (B_iff.1 h3))⟩)) (fun h3 => Evt.ite (fun h4 => yes (.inr ⟨h2, .inr (.inr h4)⟩)) (fun h4 => no (fun h => ?_))))
      rcases h with h | ⟨_, h | h | h⟩
      · exact g1 h
      · exact g1 h
      · exact h3 (B_iff.2 h)
      · exact h4 h
    · refine Evt.neg hlt (Evt.const ?_)
      rw [within_ev]
      exact congrArg some (B_congr ⟨fun h => ⟨fun j h1 h2 => by omega, h⟩, fun h => h.2⟩)
theorem implName_ev (s : ByteArray) (hs : (s.size : Int) ≤ 9223372036854775807) : Evt (fun k => impl_isName.f k s) (nameB s) := by
  unfold impl_isName.f
  refine (implName_l s hs s.size 0 (Int.le_refl _) (by omega)).same (B_congr ⟨fun h => ⟨h.2.1, h.2.2, ?_, ?_⟩, fun h => ⟨?_, h.1, h.2.1⟩⟩)
  · rcases h.1 0 (Int.le_refl _) (by omega) with h | h
    · exact h
    · exact absurd rfl h.1
  · intro j h1 h2
    rcases h.1 j h1 h2 with h | h
    · exact .inl h
    · exact h.2
  · intro j h1 h2
    by_cases e : j = 0
    · rw [e]; exact .inl h.2.2.1
    · exact .inr ⟨e, h.2.2.2 j h1 h2⟩
end Go.Proofs.Ytefmkmhjbfpelaa.QT
namespace Go.Proofs.Ytefmkmhjbfpelaa.QT
open Go.RowKit Go.Proofs.YtefmkmhjbfpelaaW.PrintWords Go.Proofs.Ytefmkmhjbfpelaa.Ev0
def LineP (a b : ByteArray) (n : Int) (i : ByteArray) (o s g c : Int) : Prop :=
  NameP a ∧ NameP b ∧ NameP i ∧ (1 ≤ n ∧ n ≤ 999) ∧ (1 ≤ o ∧ o ≤ 1000000) ∧ (0 ≤ s ∧ s ≤ o) ∧ (0 ≤ g ∧ g ≤ s) ∧ (0 ≤ c ∧ c ≤ wrap64 (o - s))
noncomputable def lineB (a b : ByteArray) (n : Int) (i : ByteArray) (o s g c : Int) : Bool := B (LineP a b n i o s g c)
theorem specLine_ev (a b : ByteArray) (n : Int) (i : ByteArray) (o s g c : Int) (ha : (a.size : Int) ≤ 9223372036854775807) (hb : (b.size : Int) ≤ 9223372036854775807) (hi : (i.size : Int) ≤ 9223372036854775807) :
    Evt (fun k => spec_LineRight.f k a b n i o s g c) (lineB a b n i o s g c) := by
  unfold spec_LineRight.f
  have key : Evt (fun k => spec_LineRight.f k a b n i o s g c) (B (NameP a ∧ NameP b ∧ NameP i ∧ 1 ≤ n ∧ n ≤ 999 ∧ (1 ≤ o ∧ o ≤ 1000000) ∧ 0 ≤ s ∧ 0 ≤ g ∧ 0 ≤ c ∧ g ≤ s ∧ s ≤ o ∧ c ≤ wrap64 (o - s))) := by
    unfold spec_LineRight.f
    refine Evt.bind (specName_ev a ha) (and_ B_iff fun _ => Evt.bind (specName_ev b hb) (and_ B_iff fun _ => Evt.bind (specName_ev i hi) (and_ B_iff fun _ => and_ Iff.rfl fun _ => and_ Iff.rfl fun _ => ?_)))
    rw [l01Qty_ev]
    simp only [Option.bind_some]
    exact and_ B_iff fun _ => and_ Iff.rfl fun _ => and_ Iff.rfl fun _ => and_ Iff.rfl fun _ => and_ Iff.rfl fun _ => and_ Iff.rfl fun _ => last_ Iff.rfl
  refine key.same (B_congr ⟨?_, ?_⟩)
  · rintro ⟨h1, h2, h3, h4, h5, h6, h7, h8, h9, h10, h11, h12⟩
    exact ⟨h1, h2, h3, ⟨h4, h5⟩, h6, ⟨h7, h11⟩, ⟨h8, h10⟩, ⟨h9, h12⟩⟩
  · rintro ⟨h1, h2, h3, ⟨h4, h5⟩, h6, ⟨h7, h11⟩, ⟨h8, h10⟩, ⟨h9, h12⟩⟩
    exact ⟨h1, h2, h3, h4, h5, h6, h7, h8, h9, h10, h11, h12⟩
theorem implLine_ev (a b : ByteArray) (n : Int) (i : ByteArray) (o s g c : Int) (ha : (a.size : Int) ≤ 9223372036854775807) (hb : (b.size : Int) ≤ 9223372036854775807) (hi : (i.size : Int) ≤ 9223372036854775807) :
    Evt (fun k => impl_LineRight.f k a b n i o s g c) (lineB a b n i o s g c) := by
  unfold impl_LineRight.f lineB LineP
  simp only [within_ev, isQty_ev, Option.bind_some]
  exact Evt.bind (implName_ev a ha) (and_ B_iff fun _ => Evt.bind (implName_ev b hb) (and_ B_iff fun _ => Evt.bind (implName_ev i hi) (and_ B_iff fun _ => and_ B_iff fun _ => and_ B_iff fun _ => and_ B_iff fun _ => and_ B_iff fun _ => lastB_ Iff.rfl)))
end Go.Proofs.Ytefmkmhjbfpelaa.QT
