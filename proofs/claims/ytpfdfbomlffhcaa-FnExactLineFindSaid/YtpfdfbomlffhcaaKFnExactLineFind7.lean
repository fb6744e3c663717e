-- Merged by a program of this session (wip/tool/pack.py) out of its own texts for this claim.
import Derived.Deep.Slices
import Derived.ChangeArms
import Derived.WalkKit
import Derived.ProofKit
import Derived.OpenShut
import Derived.ShutString
import Derived.ChangeOld
import Derived.Below
import Derived.SizedLaws
import Derived.Test.YtpfdfbomlffhcaaKFnExactLineFind0
import Derived.Test.YtpfdfbomlffhcaaKFnExactLineFind1
import Derived.Test.YtpfdfbomlffhcaaKFnExactLineFind2
import Derived.Test.YtpfdfbomlffhcaaKFnExactLineFind4
import Derived.Test.YtpfdfbomlffhcaaKFnExactLineFind6
namespace Go.Proofs.Ytpfdfbomlffhcaa.QF
open Go.RowKit Go.Proofs.YtpfdfbomlffhcaaW.PrintWords Go.Proofs.YtpfdfbomlffhcaaW.PrintLast Go.Proofs.YtpfdfbomlffhcaaW.PrintMore
attribute [local go_sem] max2_int min2_int max_two min_two max_three min_three max_four min_four   -- for this text's walks alone
set_option linter.unusedVariables false
set_option linter.unusedSimpArgs false
set_option maxHeartbeats 8000000 in
set_option maxRecDepth 100000 in
theorem impl_LineFind.calls (k : Nat) (A0 : Option Addr) (c0 : Nat) (l0 : List (S26)) (a1 : ByteArray) (a2 : ByteArray) (a3 : Int) (r : Int) (w : World) (hr0 : Kd.C k26 w A0 l0.length l0) (hc0 : l0.length ≤ c0) (h : impl_LineFind.f k l0 a1 a2 a3 = some r) :
    Calls Try.prog 39 #[.slice A0 l0.length c0, .string a1, .string a2, .int .i64 a3] w fun e w' => e = .returned (.int .i64 r) ∧ Below w.heap.size w w' := by
  have HR0 := Aside0.mk hr0; have HC0 := Aside0.mk hc0; clear hr0 hc0; have HB := Aside0.mk (Below.refl w.heap.size w); have H : ((impl_OrderLine.f l0).bind fun t172 => (if t172 = true then (impl_LineFind.j0 k l0 a1 a2 a3 true) else ((impl_longText.f k (([a1, a2] : List ByteArray))).bind fun t176 => (impl_LineFind.j0 k l0 a1 a2 a3 t176)))) = some r := h; clear h; have HC5 := Aside0.mk H; clear H
  go_enter Try.func39, Try.ntmps39
  go_upto_region 1 with (fail)
  go_cut [9] (fun v9 wc => ∃ (kq : Nat) (x9_4 : Bool), v9 = .bool x9_4 ∧ Aside0 (impl_LineFind.j0 kq l0 a1 a2 a3 x9_4 = some r) ∧ Aside0 (kq ≤ k) ∧ Aside0 (Below w.heap.size w wc))
  case first =>
    have H := HC5.out; clear HC5; replace H := Option.bind_eq_some_iff.mp H; obtain ⟨t172, A60, H⟩ := H; replace H : (if t172 = true then (impl_LineFind.j0 k l0 a1 a2 a3 true) else ((impl_longText.f k (([a1, a2] : List ByteArray))).bind fun t176 => (impl_LineFind.j0 k l0 a1 a2 a3 t176))) = some r := H; have A6 := Aside0.mk A60; clear A60
    try go_wp2_with (fail)
    go_at_call 80; (with_reducible refine (impl_OrderLine.calls _ _ l0 t172 _ (Kd.C_below HR0.out (bs HB)) HC0.out A6.out).mono ?_); rintro e w' ⟨rfl, ⟨nd, rfl⟩⟩
    by_cases c7 : t172 = true
    · subst c7
      have H1 : (impl_LineFind.j0 k l0 a1 a2 a3 true) = some r := by rw [if_pos rfl] at H; exact H
      clear H; have H := H1; clear H1; have H' := Aside0.mk H; clear H
      go_wp2
      go_meet
      case rel => exact ⟨_, (true), fg, H', ⟨fl⟩, ⟨bs HB⟩⟩
    · replace c7 := Bool.eq_false_iff.mpr c7; subst c7
      have H1 : ((impl_longText.f k (([a1, a2] : List ByteArray))).bind fun t176 => (impl_LineFind.j0 k l0 a1 a2 a3 t176)) = some r := by rw [if_neg (show ¬ (false = true) by decide)] at H; exact H
      clear H; have H := H1; clear H1; obtain ⟨y173, hy173⟩ : ∃ y_ : List ByteArray, y_ = (([a1, a2] : List ByteArray)) := ⟨_, rfl⟩
      replace H : ((impl_longText.f k y173).bind fun t176 => (impl_LineFind.j0 k l0 a1 a2 a3 t176)) = some r := by first | (rw [hy173]; with_reducible exact H) | (have H2_ := (Option.bind_some _ _).symm.trans H; rw [hy173]; with_reducible exact H2_) | (have H2_ := (Option.bind_some _ _).symm.trans H; with_reducible exact H2_) | with_reducible exact H | (rw [hy173]; exact H) | exact H
      have Ny173 := Aside0.mk hy173; clear hy173; replace H := Option.bind_eq_some_iff.mp H; obtain ⟨t176, A80, H⟩ := H; replace H : (impl_LineFind.j0 k l0 a1 a2 a3 t176) = some r := H; have A8 := Aside0.mk A80; clear A80; have H' := Aside0.mk H; clear H
      go_wp2_with (first | ((with_reducible refine gate_dst (N := 15) rfl ?_); (try (refine gate_guard (by rfl) ?_; dsimp only)); refine Kd.R_lit Kd.string _ 9 ?hg (N := 15) ?hd (xs := ([a1, a2] : List ByteArray)) (inner := [.string a1, .string a2]) (ok := fun _ => True) (okp := fun _ => True) ?hr ?hp (fun _ hk => hk) trivial (Below.refl _ _) (Nat.le_refl _) (by simp) ?_; (case hd => rfl); (case hg => rfl); (case hr => first | (go_simp; done) | (go_simp; rfl)); (case hp => exact (Reps.one (show Kd.M Kd.string _ _ _ a1 [.string a1] from rfl) (Reps.one (show Kd.M Kd.string _ _ _ a2 [.string a2] from rfl) (Reps.none _ _)))); intro v174 w9 ho10 hb hg_ hnew_; clear hg_ hnew_; (first | rw [← Ny173.out] at ho10 | (simp only [Int.reduceToNat] at ho10; rw [← Ny173.out] at ho10)); have HO175 := Aside0.mk (Kd.R_lower ho10 (below_size (bs HB))); replace HB := Aside0.mk (below_step (bs HB) hb); clear hb ho10; obtain ⟨Ao11, co11, eo11⟩ := Kd.R_slice HO175.out; subst eo11) | (go_at_call 58; (with_reducible refine (impl_longText.calls k _ _ y173 t176 _ ?side1 ?side2 A8.out).mono ?_); (case side1 => repeat (first | exact (Kd.R_reads' HO175.out).2.2 | (with_reducible refine Kd.C_alloc ?_ _) | (with_reducible refine Kd.C_drewN ?_ _) | (with_reducible refine Kd.C_drew ?_))); (case side2 => exact (Kd.R_reads' HO175.out).2.1); rintro e w' ⟨rfl, ⟨nd, rfl⟩⟩))
      go_meet
      case rel => exact ⟨_, (t176), fg, H', ⟨fl⟩, ⟨bs HB⟩⟩
  case rest =>
    clear HC5
    try clear p2
    try clear c3
    try clear c7
    obtain ⟨kq, x9_4, rfl, HA, HJ4, HB⟩ := hcut
    cases kq with
    | zero => exact absurd HA.out (by simp [impl_LineFind.j0])
    | succ kj4 =>
      have H := HA.out; clear HA; simp only [impl_LineFind.j0] at H
      by_cases c12 : x9_4 = true
      · subst c12
        have H1 : (some 0) = some r := by rw [if_pos rfl] at H; exact H
        clear H; have H := H1; clear H1; obtain rfl := Option.some.inj H
        go_wp2
        go_ret
        exact ⟨ff, bs HB⟩
      · replace c12 := Bool.eq_false_iff.mpr c12; subst c12
        have H1 : ((impl_LinesRight.f kj4 l0).bind fun t177 => (if t177 = true then ((impl_lineAt.f l0 a1 a2 a3).bind fun t178 => (some t178)) else (some (-1)))) = some r := by rw [if_neg (show ¬ (false = true) by decide)] at H; exact H
        clear H; have H := H1; clear H1; replace H := Option.bind_eq_some_iff.mp H; obtain ⟨t177, A130, H⟩ := H; replace H : (if t177 = true then ((impl_lineAt.f l0 a1 a2 a3).bind fun t178 => (some t178)) else (some (-1))) = some r := H; have A13 := Aside0.mk A130; clear A130
        try go_wp2_with (fail)
        go_at_call 36; (with_reducible refine (impl_LinesRight.calls kj4 _ _ l0 t177 _ (Kd.C_below HR0.out (bs HB)) HC0.out A13.out).mono ?_); rintro e w14 ⟨rfl, hb⟩; replace HB := Aside0.mk (below_step (bs HB) hb); (try clear hb); (try clear hb2); (try clear hk); (try clear hi)
        by_cases c15 : t177 = true
        · subst c15
          have H1 : ((impl_lineAt.f l0 a1 a2 a3).bind fun t178 => (some t178)) = some r := by rw [if_pos rfl] at H; exact H
          clear H; have H := H1; clear H1; replace H := Option.bind_eq_some_iff.mp H; obtain ⟨t178, A160, H⟩ := H; replace H : (some t178) = some r := H; have A16 := Aside0.mk A160; clear A160; obtain rfl := Option.some.inj H
          go_wp2_with (first | ((first | ((with_reducible refine gate_callee (f := 81) rfl ?_); refine goesL_ (some 26) rfl rfl Try.func81 (by kernel_rfl) rfl #[.slice A0 l0.length c0, .string a1, .string a2, .int .i64 a3] rfl (by (try simp only [List.map_toArray, List.map_cons, List.map_nil]); first | done | rfl | (simp only [List.length_drop, List.length_take]; rfl)) ?_; (with_reducible refine (impl_lineAt.calls _ _ l0 a1 a2 a3 t178 _ (Kd.C_below HR0.out (bs HB)) HC0.out A16.out).mono ?_); rintro e w17 ⟨rfl, hb⟩; refine ⟨_, rfl, ?_⟩) | (go_at_call 81; (with_reducible refine (impl_lineAt.calls _ _ l0 a1 a2 a3 t178 _ (Kd.C_below HR0.out (bs HB)) HC0.out A16.out).mono ?_); rintro e w17 ⟨rfl, hb⟩)); replace HB := Aside0.mk (below_step (bs HB) hb); (try clear hb); (try clear hb2); (try clear hk); (try clear hi)))
          go_ret
          exact ⟨ff, bs HB⟩
        · replace c15 := Bool.eq_false_iff.mpr c15; subst c15
          have H1 : (some (-1)) = some r := by rw [if_neg (show ¬ (false = true) by decide)] at H; exact H
          clear H; have H := H1; clear H1; obtain rfl := Option.some.inj H
          go_wp2
          go_ret
          exact ⟨ff, bs HB⟩
set_option maxHeartbeats 8000000 in
set_option maxRecDepth 100000 in
theorem laws_eqOrderLine.calls (a0_0 : ByteArray) (a0_1 : ByteArray) (a0_2 : Int) (a0_3 : ByteArray) (a0_4 : Int) (a0_5 : Int) (a0_6 : Int) (a0_7 : Int) (a1_0 : ByteArray) (a1_1 : ByteArray) (a1_2 : Int) (a1_3 : ByteArray) (a1_4 : Int) (a1_5 : Int) (a1_6 : Int) (a1_7 : Int) (r : Bool) (w : World) (h : laws_eqOrderLine.f a0_0 a0_1 a0_2 a0_3 a0_4 a0_5 a0_6 a0_7 a1_0 a1_1 a1_2 a1_3 a1_4 a1_5 a1_6 a1_7 = some r) :
    Calls Try.prog 66 #[.agg #[.string a0_0, .string a0_1, .int .i64 a0_2, .string a0_3, .int .i64 a0_4, .int .i64 a0_5, .int .i64 a0_6, .int .i64 a0_7], .agg #[.string a1_0, .string a1_1, .int .i64 a1_2, .string a1_3, .int .i64 a1_4, .int .i64 a1_5, .int .i64 a1_6, .int .i64 a1_7]] w fun e w' => e = .returned (.bool r) ∧ Below w.heap.size w w' := by
  have hu26 := Try.underlying26; have HB := Aside0.mk (Below.refl w.heap.size w); have H : (if a0_0.toList = a1_0.toList then (if a0_1.toList = a1_1.toList then (if a0_2 = a1_2 then (if a0_3.toList = a1_3.toList then (if a0_4 = a1_4 then (if a0_5 = a1_5 then (if a0_6 = a1_6 then (if a0_7 = a1_7 then (some true) else (some false)) else (some false)) else (some false)) else (some false)) else (some false)) else (some false)) else (some false)) else (some false)) = some r := h; clear h
  by_cases c3 : a0_0.toList = a1_0.toList
  · rw [if_pos c3] at H; have c3b0 : (a0_0.toList == a1_0.toList) = true := beq_iff_eq.mpr c3; have c3b1 : (a0_0.toList != a1_0.toList) = false := bne_eq_false_iff_eq.mpr c3; clear c3
    by_cases c4 : a0_1.toList = a1_1.toList
    · rw [if_pos c4] at H; have c4b0 : (a0_1.toList == a1_1.toList) = true := beq_iff_eq.mpr c4; have c4b1 : (a0_1.toList != a1_1.toList) = false := bne_eq_false_iff_eq.mpr c4; clear c4
      by_cases c5 : a0_2 = a1_2
      · rw [if_pos c5] at H; have c5b0 : (a0_2 == a1_2) = true := beq_iff_eq.mpr c5; have c5b1 : (a0_2 != a1_2) = false := bne_eq_false_iff_eq.mpr c5; clear c5
        by_cases c6 : a0_3.toList = a1_3.toList
        · rw [if_pos c6] at H; have c6b0 : (a0_3.toList == a1_3.toList) = true := beq_iff_eq.mpr c6; have c6b1 : (a0_3.toList != a1_3.toList) = false := bne_eq_false_iff_eq.mpr c6; clear c6
          by_cases c7 : a0_4 = a1_4
          · rw [if_pos c7] at H; have c7b0 : (a0_4 == a1_4) = true := beq_iff_eq.mpr c7; have c7b1 : (a0_4 != a1_4) = false := bne_eq_false_iff_eq.mpr c7; clear c7
            by_cases c8 : a0_5 = a1_5
            · rw [if_pos c8] at H; have c8b0 : (a0_5 == a1_5) = true := beq_iff_eq.mpr c8; have c8b1 : (a0_5 != a1_5) = false := bne_eq_false_iff_eq.mpr c8; clear c8
              by_cases c9 : a0_6 = a1_6
              · rw [if_pos c9] at H; have c9b0 : (a0_6 == a1_6) = true := beq_iff_eq.mpr c9; have c9b1 : (a0_6 != a1_6) = false := bne_eq_false_iff_eq.mpr c9; clear c9
                by_cases c10 : a0_7 = a1_7
                · rw [if_pos c10] at H; have c10b0 : (a0_7 == a1_7) = true := beq_iff_eq.mpr c10; have c10b1 : (a0_7 != a1_7) = false := bne_eq_false_iff_eq.mpr c10; clear c10; obtain rfl := Option.some.inj H
                  go_enter Try.func66, Try.ntmps66
                  go_wp2_with (first | ((with_reducible refine gate_dst (N := 2) rfl ?_); refine bx 2 (cs := #[.string a0_0, .string a0_1, .int .i64 a0_2, .string a0_3, .int .i64 a0_4, .int .i64 a0_5, .int .i64 a0_6, .int .i64 a0_7]) (t := 26) ?_; intro gb179 hg w11 hbox hb; have BK179 := Aside0.mk (hbox); have GW179 := Aside0.mk ((gs hg (bs HB))); have GE179 := Aside0.mk ((gs hg (bs HB))); replace HB := Aside0.mk (below_step (bs HB) hb); clear hb hbox hg) | ((with_reducible refine gate_dst (N := 3) rfl ?_); refine bx 3 (cs := #[.string a1_0, .string a1_1, .int .i64 a1_2, .string a1_3, .int .i64 a1_4, .int .i64 a1_5, .int .i64 a1_6, .int .i64 a1_7]) (t := 26) ?_; intro gb180 hg w12 hbox hb; have BK180 := Aside0.mk (hbox); have GW180 := Aside0.mk ((gs hg (bs HB))); have GE180 := Aside0.mk ((gs hg (bs HB))); replace HB := Aside0.mk (below_step (bs HB) hb); have NB179_180 := Aside0.mk ((gn hg (ks BK179))); have NB180_179 := Aside0.mk ((gm hg (ks BK179))); replace BK179 := Aside0.mk (blk_below (ks BK179) hb); clear hb hbox hg; have hnb13 := NB179_180.out; have hnc13 := NB180_179.out; obtain ⟨hcz14_0, hcz14_1, hcz14_2, hcz14_3, hcz14_4, hcz14_5, hcz14_6, hcz14_7, hfz14_0, hfz14_1, hfz14_2, hfz14_3, hfz14_4, hfz14_5, hfz14_6, hfz14_7⟩ := cf8 BK179; obtain ⟨hcz15_0, hcz15_1, hcz15_2, hcz15_3, hcz15_4, hcz15_5, hcz15_6, hcz15_7, hfz15_0, hfz15_1, hfz15_2, hfz15_3, hfz15_4, hfz15_5, hfz15_6, hfz15_7⟩ := cf8 BK180))
                  go_ret
                  exact ⟨ff, bs HB⟩
                · rw [if_neg c10] at H; have c10b0 : (a0_7 == a1_7) = false := beq_eq_false_iff_ne.mpr c10; have c10b1 : (a0_7 != a1_7) = true := bne_iff_ne.mpr c10; obtain rfl := Option.some.inj H
                  go_enter Try.func66, Try.ntmps66
                  go_wp2_with (first | ((with_reducible refine gate_dst (N := 2) rfl ?_); refine bx 2 (cs := #[.string a0_0, .string a0_1, .int .i64 a0_2, .string a0_3, .int .i64 a0_4, .int .i64 a0_5, .int .i64 a0_6, .int .i64 a0_7]) (t := 26) ?_; intro gb179 hg w16 hbox hb; have BK179 := Aside0.mk (hbox); have GW179 := Aside0.mk ((gs hg (bs HB))); have GE179 := Aside0.mk ((gs hg (bs HB))); replace HB := Aside0.mk (below_step (bs HB) hb); clear hb hbox hg) | ((with_reducible refine gate_dst (N := 3) rfl ?_); refine bx 3 (cs := #[.string a1_0, .string a1_1, .int .i64 a1_2, .string a1_3, .int .i64 a1_4, .int .i64 a1_5, .int .i64 a1_6, .int .i64 a1_7]) (t := 26) ?_; intro gb180 hg w17 hbox hb; have BK180 := Aside0.mk (hbox); have GW180 := Aside0.mk ((gs hg (bs HB))); have GE180 := Aside0.mk ((gs hg (bs HB))); replace HB := Aside0.mk (below_step (bs HB) hb); have NB179_180 := Aside0.mk ((gn hg (ks BK179))); have NB180_179 := Aside0.mk ((gm hg (ks BK179))); replace BK179 := Aside0.mk (blk_below (ks BK179) hb); clear hb hbox hg; have hnb18 := NB179_180.out; have hnc18 := NB180_179.out; obtain ⟨hcz19_0, hcz19_1, hcz19_2, hcz19_3, hcz19_4, hcz19_5, hcz19_6, hcz19_7, hfz19_0, hfz19_1, hfz19_2, hfz19_3, hfz19_4, hfz19_5, hfz19_6, hfz19_7⟩ := cf8 BK179; obtain ⟨hcz20_0, hcz20_1, hcz20_2, hcz20_3, hcz20_4, hcz20_5, hcz20_6, hcz20_7, hfz20_0, hfz20_1, hfz20_2, hfz20_3, hfz20_4, hfz20_5, hfz20_6, hfz20_7⟩ := cf8 BK180))
                  go_ret
                  exact ⟨ff, bs HB⟩
              · rw [if_neg c9] at H; have c9b0 : (a0_6 == a1_6) = false := beq_eq_false_iff_ne.mpr c9; have c9b1 : (a0_6 != a1_6) = true := bne_iff_ne.mpr c9; obtain rfl := Option.some.inj H
                go_enter Try.func66, Try.ntmps66
                go_wp2_with (first | ((with_reducible refine gate_dst (N := 2) rfl ?_); refine bx 2 (cs := #[.string a0_0, .string a0_1, .int .i64 a0_2, .string a0_3, .int .i64 a0_4, .int .i64 a0_5, .int .i64 a0_6, .int .i64 a0_7]) (t := 26) ?_; intro gb179 hg w21 hbox hb; have BK179 := Aside0.mk (hbox); have GW179 := Aside0.mk ((gs hg (bs HB))); have GE179 := Aside0.mk ((gs hg (bs HB))); replace HB := Aside0.mk (below_step (bs HB) hb); clear hb hbox hg) | ((with_reducible refine gate_dst (N := 3) rfl ?_); refine bx 3 (cs := #[.string a1_0, .string a1_1, .int .i64 a1_2, .string a1_3, .int .i64 a1_4, .int .i64 a1_5, .int .i64 a1_6, .int .i64 a1_7]) (t := 26) ?_; intro gb180 hg w22 hbox hb; have BK180 := Aside0.mk (hbox); have GW180 := Aside0.mk ((gs hg (bs HB))); have GE180 := Aside0.mk ((gs hg (bs HB))); replace HB := Aside0.mk (below_step (bs HB) hb); have NB179_180 := Aside0.mk ((gn hg (ks BK179))); have NB180_179 := Aside0.mk ((gm hg (ks BK179))); replace BK179 := Aside0.mk (blk_below (ks BK179) hb); clear hb hbox hg; have hnb23 := NB179_180.out; have hnc23 := NB180_179.out; obtain ⟨hcz24_0, hcz24_1, hcz24_2, hcz24_3, hcz24_4, hcz24_5, hcz24_6, hcz24_7, hfz24_0, hfz24_1, hfz24_2, hfz24_3, hfz24_4, hfz24_5, hfz24_6, hfz24_7⟩ := cf8 BK179; obtain ⟨hcz25_0, hcz25_1, hcz25_2, hcz25_3, hcz25_4, hcz25_5, hcz25_6, hcz25_7, hfz25_0, hfz25_1, hfz25_2, hfz25_3, hfz25_4, hfz25_5, hfz25_6, hfz25_7⟩ := cf8 BK180))
                go_ret
                exact ⟨ff, bs HB⟩
            · rw [if_neg c8] at H; have c8b0 : (a0_5 == a1_5) = false := beq_eq_false_iff_ne.mpr c8; have c8b1 : (a0_5 != a1_5) = true := bne_iff_ne.mpr c8; obtain rfl := Option.some.inj H
              go_enter Try.func66, Try.ntmps66
              go_wp2_with (first | ((with_reducible refine gate_dst (N := 2) rfl ?_); refine bx 2 (cs := #[.string a0_0, .string a0_1, .int .i64 a0_2, .string a0_3, .int .i64 a0_4, .int .i64 a0_5, .int .i64 a0_6, .int .i64 a0_7]) (t := 26) ?_; intro gb179 hg w26 hbox hb; have BK179 := Aside0.mk (hbox); have GW179 := Aside0.mk ((gs hg (bs HB))); have GE179 := Aside0.mk ((gs hg (bs HB))); replace HB := Aside0.mk (below_step (bs HB) hb); clear hb hbox hg) | ((with_reducible refine gate_dst (N := 3) rfl ?_); refine bx 3 (cs := #[.string a1_0, .string a1_1, .int .i64 a1_2, .string a1_3, .int .i64 a1_4, .int .i64 a1_5, .int .i64 a1_6, .int .i64 a1_7]) (t := 26) ?_; intro gb180 hg w27 hbox hb; have BK180 := Aside0.mk (hbox); have GW180 := Aside0.mk ((gs hg (bs HB))); have GE180 := Aside0.mk ((gs hg (bs HB))); replace HB := Aside0.mk (below_step (bs HB) hb); have NB179_180 := Aside0.mk ((gn hg (ks BK179))); have NB180_179 := Aside0.mk ((gm hg (ks BK179))); replace BK179 := Aside0.mk (blk_below (ks BK179) hb); clear hb hbox hg; have hnb28 := NB179_180.out; have hnc28 := NB180_179.out; obtain ⟨hcz29_0, hcz29_1, hcz29_2, hcz29_3, hcz29_4, hcz29_5, hcz29_6, hcz29_7, hfz29_0, hfz29_1, hfz29_2, hfz29_3, hfz29_4, hfz29_5, hfz29_6, hfz29_7⟩ := cf8 BK179; obtain ⟨hcz30_0, hcz30_1, hcz30_2, hcz30_3, hcz30_4, hcz30_5, hcz30_6, hcz30_7, hfz30_0, hfz30_1, hfz30_2, hfz30_3, hfz30_4, hfz30_5, hfz30_6, hfz30_7⟩ := cf8 BK180))
              go_ret
              exact ⟨ff, bs HB⟩
          · rw [if_neg c7] at H; have c7b0 : (a0_4 == a1_4) = false := beq_eq_false_iff_ne.mpr c7; have c7b1 : (a0_4 != a1_4) = true := bne_iff_ne.mpr c7; obtain rfl := Option.some.inj H
            go_enter Try.func66, Try.ntmps66
            go_wp2_with (first | ((with_reducible refine gate_dst (N := 2) rfl ?_); refine bx 2 (cs := #[.string a0_0, .string a0_1, .int .i64 a0_2, .string a0_3, .int .i64 a0_4, .int .i64 a0_5, .int .i64 a0_6, .int .i64 a0_7]) (t := 26) ?_; intro gb179 hg w31 hbox hb; have BK179 := Aside0.mk (hbox); have GW179 := Aside0.mk ((gs hg (bs HB))); have GE179 := Aside0.mk ((gs hg (bs HB))); replace HB := Aside0.mk (below_step (bs HB) hb); clear hb hbox hg) | ((with_reducible refine gate_dst (N := 3) rfl ?_); refine bx 3 (cs := #[.string a1_0, .string a1_1, .int .i64 a1_2, .string a1_3, .int .i64 a1_4, .int .i64 a1_5, .int .i64 a1_6, .int .i64 a1_7]) (t := 26) ?_; intro gb180 hg w32 hbox hb; have BK180 := Aside0.mk (hbox); have GW180 := Aside0.mk ((gs hg (bs HB))); have GE180 := Aside0.mk ((gs hg (bs HB))); replace HB := Aside0.mk (below_step (bs HB) hb); have NB179_180 := Aside0.mk ((gn hg (ks BK179))); have NB180_179 := Aside0.mk ((gm hg (ks BK179))); replace BK179 := Aside0.mk (blk_below (ks BK179) hb); clear hb hbox hg; have hnb33 := NB179_180.out; have hnc33 := NB180_179.out; obtain ⟨hcz34_0, hcz34_1, hcz34_2, hcz34_3, hcz34_4, hcz34_5, hcz34_6, hcz34_7, hfz34_0, hfz34_1, hfz34_2, hfz34_3, hfz34_4, hfz34_5, hfz34_6, hfz34_7⟩ := cf8 BK179; obtain ⟨hcz35_0, hcz35_1, hcz35_2, hcz35_3, hcz35_4, hcz35_5, hcz35_6, hcz35_7, hfz35_0, hfz35_1, hfz35_2, hfz35_3, hfz35_4, hfz35_5, hfz35_6, hfz35_7⟩ := cf8 BK180))
            go_ret
            exact ⟨ff, bs HB⟩
        · rw [if_neg c6] at H; have c6b0 : (a0_3.toList == a1_3.toList) = false := beq_eq_false_iff_ne.mpr c6; have c6b1 : (a0_3.toList != a1_3.toList) = true := bne_iff_ne.mpr c6; obtain rfl := Option.some.inj H
          go_enter Try.func66, Try.ntmps66
          go_wp2_with (first | ((with_reducible refine gate_dst (N := 2) rfl ?_); refine bx 2 (cs := #[.string a0_0, .string a0_1, .int .i64 a0_2, .string a0_3, .int .i64 a0_4, .int .i64 a0_5, .int .i64 a0_6, .int .i64 a0_7]) (t := 26) ?_; intro gb179 hg w36 hbox hb; have BK179 := Aside0.mk (hbox); have GW179 := Aside0.mk ((gs hg (bs HB))); have GE179 := Aside0.mk ((gs hg (bs HB))); replace HB := Aside0.mk (below_step (bs HB) hb); clear hb hbox hg) | ((with_reducible refine gate_dst (N := 3) rfl ?_); refine bx 3 (cs := #[.string a1_0, .string a1_1, .int .i64 a1_2, .string a1_3, .int .i64 a1_4, .int .i64 a1_5, .int .i64 a1_6, .int .i64 a1_7]) (t := 26) ?_; intro gb180 hg w37 hbox hb; have BK180 := Aside0.mk (hbox); have GW180 := Aside0.mk ((gs hg (bs HB))); have GE180 := Aside0.mk ((gs hg (bs HB))); replace HB := Aside0.mk (below_step (bs HB) hb); have NB179_180 := Aside0.mk ((gn hg (ks BK179))); have NB180_179 := Aside0.mk ((gm hg (ks BK179))); replace BK179 := Aside0.mk (blk_below (ks BK179) hb); clear hb hbox hg; have hnb38 := NB179_180.out; have hnc38 := NB180_179.out; obtain ⟨hcz39_0, hcz39_1, hcz39_2, hcz39_3, hcz39_4, hcz39_5, hcz39_6, hcz39_7, hfz39_0, hfz39_1, hfz39_2, hfz39_3, hfz39_4, hfz39_5, hfz39_6, hfz39_7⟩ := cf8 BK179; obtain ⟨hcz40_0, hcz40_1, hcz40_2, hcz40_3, hcz40_4, hcz40_5, hcz40_6, hcz40_7, hfz40_0, hfz40_1, hfz40_2, hfz40_3, hfz40_4, hfz40_5, hfz40_6, hfz40_7⟩ := cf8 BK180))
          go_ret
          exact ⟨ff, bs HB⟩
      · rw [if_neg c5] at H; have c5b0 : (a0_2 == a1_2) = false := beq_eq_false_iff_ne.mpr c5; have c5b1 : (a0_2 != a1_2) = true := bne_iff_ne.mpr c5; obtain rfl := Option.some.inj H
        go_enter Try.func66, Try.ntmps66
        go_wp2_with (first | ((with_reducible refine gate_dst (N := 2) rfl ?_); refine bx 2 (cs := #[.string a0_0, .string a0_1, .int .i64 a0_2, .string a0_3, .int .i64 a0_4, .int .i64 a0_5, .int .i64 a0_6, .int .i64 a0_7]) (t := 26) ?_; intro gb179 hg w41 hbox hb; have BK179 := Aside0.mk (hbox); have GW179 := Aside0.mk ((gs hg (bs HB))); have GE179 := Aside0.mk ((gs hg (bs HB))); replace HB := Aside0.mk (below_step (bs HB) hb); clear hb hbox hg) | ((with_reducible refine gate_dst (N := 3) rfl ?_); refine bx 3 (cs := #[.string a1_0, .string a1_1, .int .i64 a1_2, .string a1_3, .int .i64 a1_4, .int .i64 a1_5, .int .i64 a1_6, .int .i64 a1_7]) (t := 26) ?_; intro gb180 hg w42 hbox hb; have BK180 := Aside0.mk (hbox); have GW180 := Aside0.mk ((gs hg (bs HB))); have GE180 := Aside0.mk ((gs hg (bs HB))); replace HB := Aside0.mk (below_step (bs HB) hb); have NB179_180 := Aside0.mk ((gn hg (ks BK179))); have NB180_179 := Aside0.mk ((gm hg (ks BK179))); replace BK179 := Aside0.mk (blk_below (ks BK179) hb); clear hb hbox hg; have hnb43 := NB179_180.out; have hnc43 := NB180_179.out; obtain ⟨hcz44_0, hcz44_1, hcz44_2, hcz44_3, hcz44_4, hcz44_5, hcz44_6, hcz44_7, hfz44_0, hfz44_1, hfz44_2, hfz44_3, hfz44_4, hfz44_5, hfz44_6, hfz44_7⟩ := cf8 BK179; obtain ⟨hcz45_0, hcz45_1, hcz45_2, hcz45_3, hcz45_4, hcz45_5, hcz45_6, hcz45_7, hfz45_0, hfz45_1, hfz45_2, hfz45_3, hfz45_4, hfz45_5, hfz45_6, hfz45_7⟩ := cf8 BK180))
        go_ret
        exact ⟨ff, bs HB⟩
    · rw [if_neg c4] at H; have c4b0 : (a0_1.toList == a1_1.toList) = false := beq_eq_false_iff_ne.mpr c4; have c4b1 : (a0_1.toList != a1_1.toList) = true := bne_iff_ne.mpr c4; obtain rfl := Option.some.inj H
      go_enter Try.func66, Try.ntmps66
      go_wp2_with (first | ((with_reducible refine gate_dst (N := 2) rfl ?_); refine bx 2 (cs := #[.string a0_0, .string a0_1, .int .i64 a0_2, .string a0_3, .int .i64 a0_4, .int .i64 a0_5, .int .i64 a0_6, .int .i64 a0_7]) (t := 26) ?_; intro gb179 hg w46 hbox hb; have BK179 := Aside0.mk (hbox); have GW179 := Aside0.mk ((gs hg (bs HB))); have GE179 := Aside0.mk ((gs hg (bs HB))); replace HB := Aside0.mk (below_step (bs HB) hb); clear hb hbox hg) | ((with_reducible refine gate_dst (N := 3) rfl ?_); refine bx 3 (cs := #[.string a1_0, .string a1_1, .int .i64 a1_2, .string a1_3, .int .i64 a1_4, .int .i64 a1_5, .int .i64 a1_6, .int .i64 a1_7]) (t := 26) ?_; intro gb180 hg w47 hbox hb; have BK180 := Aside0.mk (hbox); have GW180 := Aside0.mk ((gs hg (bs HB))); have GE180 := Aside0.mk ((gs hg (bs HB))); replace HB := Aside0.mk (below_step (bs HB) hb); have NB179_180 := Aside0.mk ((gn hg (ks BK179))); have NB180_179 := Aside0.mk ((gm hg (ks BK179))); replace BK179 := Aside0.mk (blk_below (ks BK179) hb); clear hb hbox hg; have hnb48 := NB179_180.out; have hnc48 := NB180_179.out; obtain ⟨hcz49_0, hcz49_1, hcz49_2, hcz49_3, hcz49_4, hcz49_5, hcz49_6, hcz49_7, hfz49_0, hfz49_1, hfz49_2, hfz49_3, hfz49_4, hfz49_5, hfz49_6, hfz49_7⟩ := cf8 BK179; obtain ⟨hcz50_0, hcz50_1, hcz50_2, hcz50_3, hcz50_4, hcz50_5, hcz50_6, hcz50_7, hfz50_0, hfz50_1, hfz50_2, hfz50_3, hfz50_4, hfz50_5, hfz50_6, hfz50_7⟩ := cf8 BK180))
      go_ret
      exact ⟨ff, bs HB⟩
  · rw [if_neg c3] at H; have c3b0 : (a0_0.toList == a1_0.toList) = false := beq_eq_false_iff_ne.mpr c3; have c3b1 : (a0_0.toList != a1_0.toList) = true := bne_iff_ne.mpr c3; obtain rfl := Option.some.inj H
    go_enter Try.func66, Try.ntmps66
    go_wp2_with (first | ((with_reducible refine gate_dst (N := 2) rfl ?_); refine bx 2 (cs := #[.string a0_0, .string a0_1, .int .i64 a0_2, .string a0_3, .int .i64 a0_4, .int .i64 a0_5, .int .i64 a0_6, .int .i64 a0_7]) (t := 26) ?_; intro gb179 hg w51 hbox hb; have BK179 := Aside0.mk (hbox); have GW179 := Aside0.mk ((gs hg (bs HB))); have GE179 := Aside0.mk ((gs hg (bs HB))); replace HB := Aside0.mk (below_step (bs HB) hb); clear hb hbox hg) | ((with_reducible refine gate_dst (N := 3) rfl ?_); refine bx 3 (cs := #[.string a1_0, .string a1_1, .int .i64 a1_2, .string a1_3, .int .i64 a1_4, .int .i64 a1_5, .int .i64 a1_6, .int .i64 a1_7]) (t := 26) ?_; intro gb180 hg w52 hbox hb; have BK180 := Aside0.mk (hbox); have GW180 := Aside0.mk ((gs hg (bs HB))); have GE180 := Aside0.mk ((gs hg (bs HB))); replace HB := Aside0.mk (below_step (bs HB) hb); have NB179_180 := Aside0.mk ((gn hg (ks BK179))); have NB180_179 := Aside0.mk ((gm hg (ks BK179))); replace BK179 := Aside0.mk (blk_below (ks BK179) hb); clear hb hbox hg; have hnb53 := NB179_180.out; have hnc53 := NB180_179.out; obtain ⟨hcz54_0, hcz54_1, hcz54_2, hcz54_3, hcz54_4, hcz54_5, hcz54_6, hcz54_7, hfz54_0, hfz54_1, hfz54_2, hfz54_3, hfz54_4, hfz54_5, hfz54_6, hfz54_7⟩ := cf8 BK179; obtain ⟨hcz55_0, hcz55_1, hcz55_2, hcz55_3, hcz55_4, hcz55_5, hcz55_6, hcz55_7, hfz55_0, hfz55_1, hfz55_2, hfz55_3, hfz55_4, hfz55_5, hfz55_6, hfz55_7⟩ := cf8 BK180))
    go_ret
    exact ⟨ff, bs HB⟩
end Go.Proofs.Ytpfdfbomlffhcaa.QF
namespace Go.Proofs.Ytpfdfbomlffhcaa.QF
open Go.RowKit Go.Proofs.YtpfdfbomlffhcaaW.PrintWords Go.Proofs.YtpfdfbomlffhcaaW.PrintLast Go.Proofs.YtpfdfbomlffhcaaW.PrintMore
attribute [local go_sem] max2_int min2_int max_two min_two max_three min_three max_four min_four   -- for this text's walks alone
set_option linter.unusedVariables false
set_option linter.unusedSimpArgs false
def laws_eqOrderLineS.T6 : Bool × List (List Nat × List Nat) := (true, [([], []), ([], []), ([0, 1], [0, 1]), ([2], [2]), ([], []), ([], []), ([4, 5], [4, 5]), ([6], [6]), ([3, 7], [3, 7]), ([8], [8])])
def laws_eqOrderLineS.B6 : List Nat := [0, 0, 3, 7, 0, 0, 48, 112, 255, 511]
theorem laws_eqOrderLineS.tab6 : rtab .any (opsOf Try.f37 6) = laws_eqOrderLineS.T6 := by kernel_rfl
theorem laws_eqOrderLineS.bits6 : waitsOk laws_eqOrderLineS.T6.2 laws_eqOrderLineS.B6 = true := by kernel_rfl
set_option maxHeartbeats 8000000 in
set_option maxRecDepth 100000 in
theorem laws_eqOrderLineS.calls (k : Nat) (A0 : Option Addr) (c0 : Nat) (l0 : List (S26)) (A1 : Option Addr) (c1 : Nat) (l1 : List (S26)) (r : Bool) (w : World) (hr0 : Kd.C k26 w A0 l0.length l0) (hc0 : l0.length ≤ c0) (hr1 : Kd.C k26 w A1 l1.length l1) (hc1 : l1.length ≤ c1) (h : laws_eqOrderLineS.f k l0 l1 = some r) :
    Calls Try.prog 37 #[.slice A0 l0.length c0, .slice A1 l1.length c1] w fun e w' => e = .returned (.bool r) ∧ Below w.heap.size w w' := by
  have hu26 := Try.underlying26; have HR0 := Aside0.mk hr0; have HC0 := Aside0.mk hc0; clear hr0 hc0; have HR1 := Aside0.mk hr1; have HC1 := Aside0.mk hc1; clear hr1 hc1; have HB := Aside0.mk (Below.refl w.heap.size w); have H : (if (l0.length : Int) = (l1.length : Int) then (laws_eqOrderLineS.l0 k l0 l1 0) else (some false)) = some r := h; clear h
  by_cases c3 : (l0.length : Int) = (l1.length : Int)
  · rw [if_pos c3] at H; have c3b0 : ((l0.length : Int) == (l1.length : Int)) = true := beq_iff_eq.mpr c3; have c3b1 : ((l0.length : Int) != (l1.length : Int)) = false := bne_eq_false_iff_eq.mpr c3
    have c3b2 : (l0.length == l1.length) = true := by first | simpa using c3 | (simp at c3 ⊢; omega)
    clear c3; have H' := Aside0.mk H; clear H
    go_enter Try.func37, Try.ntmps37
    go_wp2
    go_loopg [5] k (fun kq v5 w' => ∃ (x5_1 : Int), v5 = .int .i64 x5_1 ∧ Aside0 (laws_eqOrderLineS.l0 kq l0 l1 x5_1 = some r) ∧ Aside0 (kq ≤ k) ∧ Aside0 (Below w.heap.size w w'))
    case atStart => exact ⟨(0), fg, H', ⟨Nat.le_refl _⟩, ⟨bs HB⟩⟩
    case round =>
      clear H'
      try clear c1
      try clear p2
      try clear c3
      try clear c3b0
      try clear c3b1
      try clear c3b2
      obtain ⟨x5_1, rfl, HA, HK1, HB⟩ := hrel
      cases gk with
      | zero => exact absurd HA.out (by simp [laws_eqOrderLineS.l0])
      | succ k1 =>
        have H := HA.out; clear HA; simp only [laws_eqOrderLineS.l0] at H
        by_cases c4 : x5_1 < (l0.length : Int)
        · rw [if_pos c4] at H; have c4b0 : decide (x5_1 < (l0.length : Int)) = true := decide_eq_true c4; clear c4
          by_cases c5 : 0 ≤ x5_1
          · rw [if_pos c5] at H; have c5b0 : decide (0 ≤ x5_1) = true := decide_eq_true c5; clear c5
            by_cases c6 : x5_1 < (l1.length : Int)
            · rw [if_pos c6] at H; have c6b0 : decide (x5_1 < (l1.length : Int)) = true := decide_eq_true c6; clear c6; replace H := Option.bind_eq_some_iff.mp H; obtain ⟨t183, A70, H⟩ := H; replace H : (if t183 = true then (laws_eqOrderLineS.l0 k1 l0 l1 (wrap64 (x5_1 + 1))) else (some false)) = some r := H; have A7 := Aside0.mk A70; clear A70
              by_cases c8 : t183 = true
              · subst c8
                have H1 : (laws_eqOrderLineS.l0 k1 l0 l1 (wrap64 (x5_1 + 1))) = some r := by rw [if_pos rfl] at H; exact H
                clear H; have H := H1; clear H1; have H' := Aside0.mk H; clear H
                try go_wp2
                replace HB := Aside0.mk (below_drew1 HB.out); have p181 : 0 ≤ (x5_1 : Int) := oa; have q181 : x5_1 < (l0.length : Int) := oa; obtain ⟨ad181, e181, hx181_0, hx181_1, hx181_2, hx181_3, hx181_4, hx181_5, hx181_6, hx181_7⟩ := at_T26 HR0.out x5_1 p181 q181; have hw181_7 := hx181_7; have hw181_6 := hx181_6; have hw181_5 := hx181_5; have hw181_4 := hx181_4; have hw181_3 := hx181_3; have hw181_2 := hx181_2; have hw181_1 := hx181_1; have hw181_0 := hx181_0
                cases e181
                replace hx181_0 := cb HB hx181_0; replace hx181_1 := cb HB hx181_1; replace hx181_2 := cb HB hx181_2; replace hx181_3 := cb HB hx181_3; replace hx181_4 := cb HB hx181_4; replace hx181_5 := cb HB hx181_5; replace hx181_6 := cb HB hx181_6; replace hx181_7 := cb HB hx181_7; replace p181 := eq_true p181; replace q181 := eq_true q181; have p182 : 0 ≤ (x5_1 : Int) := oa; have q182 : x5_1 < (l1.length : Int) := oa; obtain ⟨ad182, e182, hx182_0, hx182_1, hx182_2, hx182_3, hx182_4, hx182_5, hx182_6, hx182_7⟩ := at_T26 HR1.out x5_1 p182 q182; have hw182_7 := hx182_7; have hw182_6 := hx182_6; have hw182_5 := hx182_5; have hw182_4 := hx182_4; have hw182_3 := hx182_3; have hw182_2 := hx182_2; have hw182_1 := hx182_1; have hw182_0 := hx182_0
                cases e182
                replace hx182_0 := cb HB hx182_0; replace hx182_1 := cb HB hx182_1; replace hx182_2 := cb HB hx182_2; replace hx182_3 := cb HB hx182_3; replace hx182_4 := cb HB hx182_4; replace hx182_5 := cb HB hx182_5; replace hx182_6 := cb HB hx182_6; replace hx182_7 := cb HB hx182_7; replace p182 := eq_true p182; replace q182 := eq_true q182; refine start_ (n := 10) (S := fun w' => w'.cell? (ad181.add ((x5_1).toNat * 8)) = some (.string ((rd_T26 l0 x5_1).f0)) ∧ w'.cell? ⟨(ad181.add ((x5_1).toNat * 8)).block, (ad181.add ((x5_1).toNat * 8)).off + 1, none⟩ = some (.string ((rd_T26 l0 x5_1).f1)) ∧ w'.cell? ⟨(ad181.add ((x5_1).toNat * 8)).block, (ad181.add ((x5_1).toNat * 8)).off + 2, none⟩ = some (.int .i64 ((rd_T26 l0 x5_1).f2)) ∧ w'.cell? ⟨(ad181.add ((x5_1).toNat * 8)).block, (ad181.add ((x5_1).toNat * 8)).off + 3, none⟩ = some (.string ((rd_T26 l0 x5_1).f3)) ∧ w'.cell? ⟨(ad181.add ((x5_1).toNat * 8)).block, (ad181.add ((x5_1).toNat * 8)).off + 4, none⟩ = some (.int .i64 ((rd_T26 l0 x5_1).f4)) ∧ w'.cell? ⟨(ad181.add ((x5_1).toNat * 8)).block, (ad181.add ((x5_1).toNat * 8)).off + 5, none⟩ = some (.int .i64 ((rd_T26 l0 x5_1).f5)) ∧ w'.cell? ⟨(ad181.add ((x5_1).toNat * 8)).block, (ad181.add ((x5_1).toNat * 8)).off + 6, none⟩ = some (.int .i64 ((rd_T26 l0 x5_1).f6)) ∧ w'.cell? ⟨(ad181.add ((x5_1).toNat * 8)).block, (ad181.add ((x5_1).toNat * 8)).off + 7, none⟩ = some (.int .i64 ((rd_T26 l0 x5_1).f7)) ∧ w'.cell? (ad182.add ((x5_1).toNat * 8)) = some (.string ((rd_T26 l1 x5_1).f0)) ∧ w'.cell? ⟨(ad182.add ((x5_1).toNat * 8)).block, (ad182.add ((x5_1).toNat * 8)).off + 1, none⟩ = some (.string ((rd_T26 l1 x5_1).f1)) ∧ w'.cell? ⟨(ad182.add ((x5_1).toNat * 8)).block, (ad182.add ((x5_1).toNat * 8)).off + 2, none⟩ = some (.int .i64 ((rd_T26 l1 x5_1).f2)) ∧ w'.cell? ⟨(ad182.add ((x5_1).toNat * 8)).block, (ad182.add ((x5_1).toNat * 8)).off + 3, none⟩ = some (.string ((rd_T26 l1 x5_1).f3)) ∧ w'.cell? ⟨(ad182.add ((x5_1).toNat * 8)).block, (ad182.add ((x5_1).toNat * 8)).off + 4, none⟩ = some (.int .i64 ((rd_T26 l1 x5_1).f4)) ∧ w'.cell? ⟨(ad182.add ((x5_1).toNat * 8)).block, (ad182.add ((x5_1).toNat * 8)).off + 5, none⟩ = some (.int .i64 ((rd_T26 l1 x5_1).f5)) ∧ w'.cell? ⟨(ad182.add ((x5_1).toNat * 8)).block, (ad182.add ((x5_1).toNat * 8)).off + 6, none⟩ = some (.int .i64 ((rd_T26 l1 x5_1).f6)) ∧ w'.cell? ⟨(ad182.add ((x5_1).toNat * 8)).block, (ad182.add ((x5_1).toNat * 8)).off + 7, none⟩ = some (.int .i64 ((rd_T26 l1 x5_1).f7))) (ds := []) #[false, false, false, false, false, false, false, false, false, false] (by kernel_rfl) rfl rfl ⟨((cb HB hw181_0).trans rfl), ((cb HB hw181_1).trans rfl), ((cb HB hw181_2).trans rfl), ((cb HB hw181_3).trans rfl), ((cb HB hw181_4).trans rfl), ((cb HB hw181_5).trans rfl), ((cb HB hw181_6).trans rfl), ((cb HB hw181_7).trans rfl), ((cb HB hw182_0).trans rfl), ((cb HB hw182_1).trans rfl), ((cb HB hw182_2).trans rfl), ((cb HB hw182_3).trans rfl), ((cb HB hw182_4).trans rfl), ((cb HB hw182_5).trans rfl), ((cb HB hw182_6).trans rfl), ((cb HB hw182_7).trans rfl)⟩ (fun hHeld => ?_); refine with_tabW laws_eqOrderLineS.tab6 laws_eqOrderLineS.bits6 (fun HT_ HW_ => ?_)
                generalize wr.drew = w9 at HB hx181_0 hx181_1 hx181_2 hx181_3 hx181_4 hx181_5 hx181_6 hx181_7 hx182_0 hx182_1 hx182_2 hx182_3 hx182_4 hx182_5 hx182_6 hx182_7 hHeld ⊢
                refine pA 0 17 HT_ ?_; refine pA 1 18 HT_ ?_; refine pA 2 19 HT_ ?_; refine pA 4 21 HT_ ?_; refine pA 5 22 HT_ ?_; refine pA 6 23 HT_ ?_; refine tA 3 20 HT_ HW_ hHeld ?_; refine tA 7 24 HT_ HW_ hHeld ?_; refine oA 8 25 HT_ (fun K hK => ?_); refine gA Try.func66 #[.agg #[.string ((rd_T26 l0 x5_1).f0), .string ((rd_T26 l0 x5_1).f1), .int .i64 ((rd_T26 l0 x5_1).f2), .string ((rd_T26 l0 x5_1).f3), .int .i64 ((rd_T26 l0 x5_1).f4), .int .i64 ((rd_T26 l0 x5_1).f5), .int .i64 ((rd_T26 l0 x5_1).f6), .int .i64 ((rd_T26 l0 x5_1).f7)], .agg #[.string ((rd_T26 l1 x5_1).f0), .string ((rd_T26 l1 x5_1).f1), .int .i64 ((rd_T26 l1 x5_1).f2), .string ((rd_T26 l1 x5_1).f3), .int .i64 ((rd_T26 l1 x5_1).f4), .int .i64 ((rd_T26 l1 x5_1).f5), .int .i64 ((rd_T26 l1 x5_1).f6), .int .i64 ((rd_T26 l1 x5_1).f7)]] ?_; (with_reducible refine (laws_eqOrderLine.calls ((rd_T26 l0 x5_1).f0) ((rd_T26 l0 x5_1).f1) ((rd_T26 l0 x5_1).f2) ((rd_T26 l0 x5_1).f3) ((rd_T26 l0 x5_1).f4) ((rd_T26 l0 x5_1).f5) ((rd_T26 l0 x5_1).f6) ((rd_T26 l0 x5_1).f7) ((rd_T26 l1 x5_1).f0) ((rd_T26 l1 x5_1).f1) ((rd_T26 l1 x5_1).f2) ((rd_T26 l1 x5_1).f3) ((rd_T26 l1 x5_1).f4) ((rd_T26 l1 x5_1).f5) ((rd_T26 l1 x5_1).f6) ((rd_T26 l1 x5_1).f7) true _ A7.out).mono ?_); rintro e w10 ⟨rfl, hb⟩; refine ⟨_, rfl, ?_⟩; replace HB := Aside0.mk (below_step (bs HB) hb); (try clear hb); (try clear hb2); (try clear hk); (try clear hi); refine hK.out _ _ ⟨((cb HB hw181_0).trans rfl), ((cb HB hw181_1).trans rfl), ((cb HB hw181_2).trans rfl), ((cb HB hw181_3).trans rfl), ((cb HB hw181_4).trans rfl), ((cb HB hw181_5).trans rfl), ((cb HB hw181_6).trans rfl), ((cb HB hw181_7).trans rfl), ((cb HB hw182_0).trans rfl), ((cb HB hw182_1).trans rfl), ((cb HB hw182_2).trans rfl), ((cb HB hw182_3).trans rfl), ((cb HB hw182_4).trans rfl), ((cb HB hw182_5).trans rfl), ((cb HB hw182_6).trans rfl), ((cb HB hw182_7).trans rfl)⟩ (fun hHeld => ?_); clear hK K; refine nA 25 ?_; refine pA 9 26 HT_ ?_; refine done_ (done_of HT_.out (by kernel_rfl)) ?_
                try go_wp2
                go_roundg k1
                case measure => have := HK1.out; omega
                case rel => exact ⟨(wrap64 (x5_1 + 1)), fg, H', ⟨by have := HK1.out; omega⟩, ⟨bs HB⟩⟩
              · replace c8 := Bool.eq_false_iff.mpr c8; subst c8
                have H1 : (some false) = some r := by rw [if_neg (show ¬ (false = true) by decide)] at H; exact H
                clear H; have H := H1; clear H1; obtain rfl := Option.some.inj H
                try go_wp2
                replace HB := Aside0.mk (below_drew1 HB.out); have p181 : 0 ≤ (x5_1 : Int) := oa; have q181 : x5_1 < (l0.length : Int) := oa; obtain ⟨ad181, e181, hx181_0, hx181_1, hx181_2, hx181_3, hx181_4, hx181_5, hx181_6, hx181_7⟩ := at_T26 HR0.out x5_1 p181 q181; have hw181_7 := hx181_7; have hw181_6 := hx181_6; have hw181_5 := hx181_5; have hw181_4 := hx181_4; have hw181_3 := hx181_3; have hw181_2 := hx181_2; have hw181_1 := hx181_1; have hw181_0 := hx181_0
                cases e181
                replace hx181_0 := cb HB hx181_0; replace hx181_1 := cb HB hx181_1; replace hx181_2 := cb HB hx181_2; replace hx181_3 := cb HB hx181_3; replace hx181_4 := cb HB hx181_4; replace hx181_5 := cb HB hx181_5; replace hx181_6 := cb HB hx181_6; replace hx181_7 := cb HB hx181_7; replace p181 := eq_true p181; replace q181 := eq_true q181; have p182 : 0 ≤ (x5_1 : Int) := oa; have q182 : x5_1 < (l1.length : Int) := oa; obtain ⟨ad182, e182, hx182_0, hx182_1, hx182_2, hx182_3, hx182_4, hx182_5, hx182_6, hx182_7⟩ := at_T26 HR1.out x5_1 p182 q182; have hw182_7 := hx182_7; have hw182_6 := hx182_6; have hw182_5 := hx182_5; have hw182_4 := hx182_4; have hw182_3 := hx182_3; have hw182_2 := hx182_2; have hw182_1 := hx182_1; have hw182_0 := hx182_0
                cases e182
                replace hx182_0 := cb HB hx182_0; replace hx182_1 := cb HB hx182_1; replace hx182_2 := cb HB hx182_2; replace hx182_3 := cb HB hx182_3; replace hx182_4 := cb HB hx182_4; replace hx182_5 := cb HB hx182_5; replace hx182_6 := cb HB hx182_6; replace hx182_7 := cb HB hx182_7; replace p182 := eq_true p182; replace q182 := eq_true q182; refine start_ (n := 10) (S := fun w' => w'.cell? (ad181.add ((x5_1).toNat * 8)) = some (.string ((rd_T26 l0 x5_1).f0)) ∧ w'.cell? ⟨(ad181.add ((x5_1).toNat * 8)).block, (ad181.add ((x5_1).toNat * 8)).off + 1, none⟩ = some (.string ((rd_T26 l0 x5_1).f1)) ∧ w'.cell? ⟨(ad181.add ((x5_1).toNat * 8)).block, (ad181.add ((x5_1).toNat * 8)).off + 2, none⟩ = some (.int .i64 ((rd_T26 l0 x5_1).f2)) ∧ w'.cell? ⟨(ad181.add ((x5_1).toNat * 8)).block, (ad181.add ((x5_1).toNat * 8)).off + 3, none⟩ = some (.string ((rd_T26 l0 x5_1).f3)) ∧ w'.cell? ⟨(ad181.add ((x5_1).toNat * 8)).block, (ad181.add ((x5_1).toNat * 8)).off + 4, none⟩ = some (.int .i64 ((rd_T26 l0 x5_1).f4)) ∧ w'.cell? ⟨(ad181.add ((x5_1).toNat * 8)).block, (ad181.add ((x5_1).toNat * 8)).off + 5, none⟩ = some (.int .i64 ((rd_T26 l0 x5_1).f5)) ∧ w'.cell? ⟨(ad181.add ((x5_1).toNat * 8)).block, (ad181.add ((x5_1).toNat * 8)).off + 6, none⟩ = some (.int .i64 ((rd_T26 l0 x5_1).f6)) ∧ w'.cell? ⟨(ad181.add ((x5_1).toNat * 8)).block, (ad181.add ((x5_1).toNat * 8)).off + 7, none⟩ = some (.int .i64 ((rd_T26 l0 x5_1).f7)) ∧ w'.cell? (ad182.add ((x5_1).toNat * 8)) = some (.string ((rd_T26 l1 x5_1).f0)) ∧ w'.cell? ⟨(ad182.add ((x5_1).toNat * 8)).block, (ad182.add ((x5_1).toNat * 8)).off + 1, none⟩ = some (.string ((rd_T26 l1 x5_1).f1)) ∧ w'.cell? ⟨(ad182.add ((x5_1).toNat * 8)).block, (ad182.add ((x5_1).toNat * 8)).off + 2, none⟩ = some (.int .i64 ((rd_T26 l1 x5_1).f2)) ∧ w'.cell? ⟨(ad182.add ((x5_1).toNat * 8)).block, (ad182.add ((x5_1).toNat * 8)).off + 3, none⟩ = some (.string ((rd_T26 l1 x5_1).f3)) ∧ w'.cell? ⟨(ad182.add ((x5_1).toNat * 8)).block, (ad182.add ((x5_1).toNat * 8)).off + 4, none⟩ = some (.int .i64 ((rd_T26 l1 x5_1).f4)) ∧ w'.cell? ⟨(ad182.add ((x5_1).toNat * 8)).block, (ad182.add ((x5_1).toNat * 8)).off + 5, none⟩ = some (.int .i64 ((rd_T26 l1 x5_1).f5)) ∧ w'.cell? ⟨(ad182.add ((x5_1).toNat * 8)).block, (ad182.add ((x5_1).toNat * 8)).off + 6, none⟩ = some (.int .i64 ((rd_T26 l1 x5_1).f6)) ∧ w'.cell? ⟨(ad182.add ((x5_1).toNat * 8)).block, (ad182.add ((x5_1).toNat * 8)).off + 7, none⟩ = some (.int .i64 ((rd_T26 l1 x5_1).f7))) (ds := []) #[false, false, false, false, false, false, false, false, false, false] (by kernel_rfl) rfl rfl ⟨((cb HB hw181_0).trans rfl), ((cb HB hw181_1).trans rfl), ((cb HB hw181_2).trans rfl), ((cb HB hw181_3).trans rfl), ((cb HB hw181_4).trans rfl), ((cb HB hw181_5).trans rfl), ((cb HB hw181_6).trans rfl), ((cb HB hw181_7).trans rfl), ((cb HB hw182_0).trans rfl), ((cb HB hw182_1).trans rfl), ((cb HB hw182_2).trans rfl), ((cb HB hw182_3).trans rfl), ((cb HB hw182_4).trans rfl), ((cb HB hw182_5).trans rfl), ((cb HB hw182_6).trans rfl), ((cb HB hw182_7).trans rfl)⟩ (fun hHeld => ?_); refine with_tabW laws_eqOrderLineS.tab6 laws_eqOrderLineS.bits6 (fun HT_ HW_ => ?_)
                generalize wr.drew = w11 at HB hx181_0 hx181_1 hx181_2 hx181_3 hx181_4 hx181_5 hx181_6 hx181_7 hx182_0 hx182_1 hx182_2 hx182_3 hx182_4 hx182_5 hx182_6 hx182_7 hHeld ⊢
                refine pA 0 17 HT_ ?_; refine pA 1 18 HT_ ?_; refine pA 2 19 HT_ ?_; refine pA 4 21 HT_ ?_; refine pA 5 22 HT_ ?_; refine pA 6 23 HT_ ?_; refine tA 3 20 HT_ HW_ hHeld ?_; refine tA 7 24 HT_ HW_ hHeld ?_; refine oA 8 25 HT_ (fun K hK => ?_); refine gA Try.func66 #[.agg #[.string ((rd_T26 l0 x5_1).f0), .string ((rd_T26 l0 x5_1).f1), .int .i64 ((rd_T26 l0 x5_1).f2), .string ((rd_T26 l0 x5_1).f3), .int .i64 ((rd_T26 l0 x5_1).f4), .int .i64 ((rd_T26 l0 x5_1).f5), .int .i64 ((rd_T26 l0 x5_1).f6), .int .i64 ((rd_T26 l0 x5_1).f7)], .agg #[.string ((rd_T26 l1 x5_1).f0), .string ((rd_T26 l1 x5_1).f1), .int .i64 ((rd_T26 l1 x5_1).f2), .string ((rd_T26 l1 x5_1).f3), .int .i64 ((rd_T26 l1 x5_1).f4), .int .i64 ((rd_T26 l1 x5_1).f5), .int .i64 ((rd_T26 l1 x5_1).f6), .int .i64 ((rd_T26 l1 x5_1).f7)]] ?_; (with_reducible refine (laws_eqOrderLine.calls ((rd_T26 l0 x5_1).f0) ((rd_T26 l0 x5_1).f1) ((rd_T26 l0 x5_1).f2) ((rd_T26 l0 x5_1).f3) ((rd_T26 l0 x5_1).f4) ((rd_T26 l0 x5_1).f5) ((rd_T26 l0 x5_1).f6) ((rd_T26 l0 x5_1).f7) ((rd_T26 l1 x5_1).f0) ((rd_T26 l1 x5_1).f1) ((rd_T26 l1 x5_1).f2) ((rd_T26 l1 x5_1).f3) ((rd_T26 l1 x5_1).f4) ((rd_T26 l1 x5_1).f5) ((rd_T26 l1 x5_1).f6) ((rd_T26 l1 x5_1).f7) false _ A7.out).mono ?_); rintro e w12 ⟨rfl, hb⟩; refine ⟨_, rfl, ?_⟩; replace HB := Aside0.mk (below_step (bs HB) hb); (try clear hb); (try clear hb2); (try clear hk); (try clear hi); refine hK.out _ _ ⟨((cb HB hw181_0).trans rfl), ((cb HB hw181_1).trans rfl), ((cb HB hw181_2).trans rfl), ((cb HB hw181_3).trans rfl), ((cb HB hw181_4).trans rfl), ((cb HB hw181_5).trans rfl), ((cb HB hw181_6).trans rfl), ((cb HB hw181_7).trans rfl), ((cb HB hw182_0).trans rfl), ((cb HB hw182_1).trans rfl), ((cb HB hw182_2).trans rfl), ((cb HB hw182_3).trans rfl), ((cb HB hw182_4).trans rfl), ((cb HB hw182_5).trans rfl), ((cb HB hw182_6).trans rfl), ((cb HB hw182_7).trans rfl)⟩ (fun hHeld => ?_); clear hK K; refine nA 25 ?_; refine pA 9 26 HT_ ?_; refine done_ (done_of HT_.out (by kernel_rfl)) ?_
                try go_wp2
                go_ret
                exact ⟨ff, bs HB⟩
            · rw [if_neg c6] at H
              exact absurd H (by simp)
          · rw [if_neg c5] at H
            exact absurd H (by simp)
        · rw [if_neg c4] at H; have c4b0 : decide (x5_1 < (l0.length : Int)) = false := decide_eq_false c4; clear c4; obtain rfl := Option.some.inj H
          go_wp2
          go_ret
          exact ⟨ff, bs HB⟩
  · rw [if_neg c3] at H; have c3b0 : ((l0.length : Int) == (l1.length : Int)) = false := beq_eq_false_iff_ne.mpr c3; have c3b1 : ((l0.length : Int) != (l1.length : Int)) = true := bne_iff_ne.mpr c3
    have c3b2 : (l0.length == l1.length) = false := by first | simpa using c3 | (simp at c3 ⊢; omega)
    obtain rfl := Option.some.inj H
    go_enter Try.func37, Try.ntmps37
    go_wp2
    go_ret
    exact ⟨ff, bs HB⟩
end Go.Proofs.Ytpfdfbomlffhcaa.QF
namespace Go.Proofs.Ytpfdfbomlffhcaa.QF
open Go.RowKit Go.Proofs.YtpfdfbomlffhcaaW.PrintWords Go.Proofs.YtpfdfbomlffhcaaW.PrintLast Go.Proofs.YtpfdfbomlffhcaaW.PrintMore
attribute [local go_sem] max2_int min2_int max_two min_two max_three min_three max_four min_four   -- for this text's walks alone
set_option linter.unusedVariables false
set_option linter.unusedSimpArgs false
set_option maxHeartbeats 8000000 in
set_option maxRecDepth 100000 in
theorem laws_FnExactLineFind.calls (k : Nat) (A0 : Option Addr) (c0 : Nat) (l0 : List (S23)) (a1 : ByteArray) (a2 : ByteArray) (a3 : Int) (r : Bool) (w : World) (hr0 : Kd.C k23 w A0 l0.length l0) (hc0 : l0.length ≤ c0) (h : laws_FnExactLineFind.f k l0 a1 a2 a3 = some r) :
    Calls Try.prog 9 #[.slice A0 l0.length c0, .string a1, .string a2, .int .i64 a3] w fun e w' => e = .returned (.bool r) ∧ Below w.heap.size w w' := by
  have HR0 := Aside0.mk hr0; have HC0 := Aside0.mk hc0; clear hr0 hc0; have HB := Aside0.mk (Below.refl w.heap.size w); have H : (if (a1.size : Int) > 1048576 then (some true) else (if (a2.size : Int) > 1048576 then (some true) else ((laws_szOrderLineS.f k l0 1048576).bind fun t184 => (if t184 < 0 then (some true) else ((laws_toOrderLineS.f k l0).bind fun t185 => ((spec_LineFind.f k t185 a1 a2 a3).bind fun t188 => ((laws_toOrderLineS.f k l0).bind fun t189 => ((impl_LineFind.f k t189 a1 a2 a3).bind fun t192 => (if t192 = t188 then ((laws_toOrderLineS.f k l0).bind fun t193 => ((laws_eqOrderLineS.f k t189 t193).bind fun t196 => (if t196 = true then (some true) else (some false)))) else (some false)))))))))) = some r := h; clear h
  by_cases c5 : (a1.size : Int) > 1048576
  · rw [if_pos c5] at H; have c5b0 : decide (1048576 < (a1.size : Int)) = true := decide_eq_true c5; have c5b1 : decide (1048576 < a1.size) = true := decide_eq_true (by omega); clear c5; obtain rfl := Option.some.inj H
    go_enter Try.func9, Try.ntmps9
    go_wp2
    go_ret
    exact ⟨ff, bs HB⟩
  · rw [if_neg c5] at H; have c5b0 : decide (1048576 < (a1.size : Int)) = false := decide_eq_false c5; have c5b1 : decide (1048576 < a1.size) = false := decide_eq_false (by omega); clear c5
    by_cases c6 : (a2.size : Int) > 1048576
    · rw [if_pos c6] at H; have c6b0 : decide (1048576 < (a2.size : Int)) = true := decide_eq_true c6; have c6b1 : decide (1048576 < a2.size) = true := decide_eq_true (by omega); clear c6; obtain rfl := Option.some.inj H
      go_enter Try.func9, Try.ntmps9
      go_wp2
      go_ret
      exact ⟨ff, bs HB⟩
    · rw [if_neg c6] at H; have c6b0 : decide (1048576 < (a2.size : Int)) = false := decide_eq_false c6; have c6b1 : decide (1048576 < a2.size) = false := decide_eq_false (by omega); clear c6; replace H := Option.bind_eq_some_iff.mp H; obtain ⟨t184, A70, H⟩ := H; replace H : (if t184 < 0 then (some true) else ((laws_toOrderLineS.f k l0).bind fun t185 => ((spec_LineFind.f k t185 a1 a2 a3).bind fun t188 => ((laws_toOrderLineS.f k l0).bind fun t189 => ((impl_LineFind.f k t189 a1 a2 a3).bind fun t192 => (if t192 = t188 then ((laws_toOrderLineS.f k l0).bind fun t193 => ((laws_eqOrderLineS.f k t189 t193).bind fun t196 => (if t196 = true then (some true) else (some false)))) else (some false))))))) = some r := H; have A7 := Aside0.mk A70; clear A70
      go_enter Try.func9, Try.ntmps9
      try go_wp2_with (fail)
      go_at_call 33; (with_reducible refine (laws_szOrderLineS.calls k _ _ l0 1048576 t184 _ ?side1 HC0.out A7.out).mono ?_); (case side1 => repeat (first | exact HR0.out | (with_reducible refine Kd.C_alloc ?_ _) | (with_reducible refine Kd.C_drewN ?_ _) | (with_reducible refine Kd.C_drew ?_))); rintro e w8 ⟨rfl, hb⟩; replace HB := Aside0.mk (below_step (bs HB) hb); (try clear hb); (try clear hb2); (try clear hk); (try clear hi)
      by_cases c9 : t184 < 0
      · rw [if_pos c9] at H; have c9b0 : decide (t184 < 0) = true := decide_eq_true c9; clear c9; obtain rfl := Option.some.inj H
        go_wp2
        go_ret
        exact ⟨ff, bs HB⟩
      · rw [if_neg c9] at H; have c9b0 : decide (t184 < 0) = false := decide_eq_false c9; clear c9; replace H := Option.bind_eq_some_iff.mp H; obtain ⟨t185, A100, H⟩ := H; replace H : ((spec_LineFind.f k t185 a1 a2 a3).bind fun t188 => ((laws_toOrderLineS.f k l0).bind fun t189 => ((impl_LineFind.f k t189 a1 a2 a3).bind fun t192 => (if t192 = t188 then ((laws_toOrderLineS.f k l0).bind fun t193 => ((laws_eqOrderLineS.f k t189 t193).bind fun t196 => (if t196 = true then (some true) else (some false)))) else (some false))))) = some r := H; have A10 := Aside0.mk A100; clear A100
        try go_wp2_with (fail)
        go_at_call 35; (with_reducible refine (laws_toOrderLineS.calls k _ _ l0 t185 _ (Kd.C_below HR0.out (bs HB)) HC0.out A10.out).mono ?_); rintro e w11 ⟨v186, rfl, ho0, hb⟩; have HO187 := Aside0.mk (Kd.R_lower ho0 (below_size (bs HB))); replace HB := Aside0.mk (below_step (bs HB) hb); (try clear hb); (try clear hb2); (try clear hk); (try clear hi); (try clear ho0); replace H := Option.bind_eq_some_iff.mp H; obtain ⟨t188, A120, H⟩ := H; replace H : ((laws_toOrderLineS.f k l0).bind fun t189 => ((impl_LineFind.f k t189 a1 a2 a3).bind fun t192 => (if t192 = t188 then ((laws_toOrderLineS.f k l0).bind fun t193 => ((laws_eqOrderLineS.f k t189 t193).bind fun t196 => (if t196 = true then (some true) else (some false)))) else (some false)))) = some r := H; have A12 := Aside0.mk A120; clear A120; obtain ⟨Ao13, co13, eo13⟩ := Kd.R_slice HO187.out; subst eo13
        try go_wp2_with (fail)
        go_at_call 38; (with_reducible refine (spec_LineFind.calls k _ _ t185 a1 a2 a3 t188 _ ?side1 ?side2 A12.out).mono ?_); (case side1 => repeat (first | exact (Kd.R_reads' HO187.out).2.2 | (with_reducible refine Kd.C_alloc ?_ _) | (with_reducible refine Kd.C_drewN ?_ _) | (with_reducible refine Kd.C_drew ?_))); (case side2 => exact (Kd.R_reads' HO187.out).2.1); rintro e w14 ⟨rfl, hb⟩; replace HO187 := Aside0.mk (Kd.R_below (rs HO187) hb); replace HB := Aside0.mk (below_step (bs HB) hb); (try clear hb); (try clear hb2); (try clear hk); (try clear hi); replace H := Option.bind_eq_some_iff.mp H; obtain ⟨t189, A150, H⟩ := H; replace H : ((impl_LineFind.f k t189 a1 a2 a3).bind fun t192 => (if t192 = t188 then ((laws_toOrderLineS.f k l0).bind fun t193 => ((laws_eqOrderLineS.f k t189 t193).bind fun t196 => (if t196 = true then (some true) else (some false)))) else (some false))) = some r := H; have A15 := Aside0.mk A150; clear A150
        try go_wp2_with (fail)
        go_at_call 35; (with_reducible refine (laws_toOrderLineS.calls k _ _ l0 t189 _ (Kd.C_below HR0.out (bs HB)) HC0.out A15.out).mono ?_); rintro e w16 ⟨v190, rfl, ho0, hb⟩; have HO191 := Aside0.mk (Kd.R_lower (Kd.R_new' ho0 (Kd.R_lt (rs HO187))) (below_size (bs HB))); replace HO187 := Aside0.mk (Kd.R_elder' (rs HO187) (Kd.R_base ho0) hb); replace HB := Aside0.mk (below_step (bs HB) hb); (try clear hb); (try clear hb2); (try clear hk); (try clear hi); (try clear ho0); replace H := Option.bind_eq_some_iff.mp H; obtain ⟨t192, A170, H⟩ := H; replace H : (if t192 = t188 then ((laws_toOrderLineS.f k l0).bind fun t193 => ((laws_eqOrderLineS.f k t189 t193).bind fun t196 => (if t196 = true then (some true) else (some false)))) else (some false)) = some r := H; have A17 := Aside0.mk A170; clear A170; obtain ⟨Ao18, co18, eo18⟩ := Kd.R_slice HO191.out; subst eo18
        try go_wp2_with (fail)
        go_at_call 39; (with_reducible refine (impl_LineFind.calls k _ _ t189 a1 a2 a3 t192 _ ?side1 ?side2 A17.out).mono ?_); (case side1 => repeat (first | exact (Kd.R_reads' HO191.out).2.2 | (with_reducible refine Kd.C_alloc ?_ _) | (with_reducible refine Kd.C_drewN ?_ _) | (with_reducible refine Kd.C_drew ?_))); (case side2 => exact (Kd.R_reads' HO191.out).2.1); rintro e w19 ⟨rfl, hb⟩; replace HO187 := Aside0.mk (Kd.R_below (rs HO187) hb); replace HO191 := Aside0.mk (Kd.R_below (rs HO191) hb); replace HB := Aside0.mk (below_step (bs HB) hb); (try clear hb); (try clear hb2); (try clear hk); (try clear hi)
        by_cases c20 : t192 = t188
        · rw [if_pos c20] at H; have c20b0 : (t192 == t188) = true := beq_iff_eq.mpr c20; have c20b1 : (t192 != t188) = false := bne_eq_false_iff_eq.mpr c20; clear c20; replace H := Option.bind_eq_some_iff.mp H; obtain ⟨t193, A210, H⟩ := H; replace H : ((laws_eqOrderLineS.f k t189 t193).bind fun t196 => (if t196 = true then (some true) else (some false))) = some r := H; have A21 := Aside0.mk A210; clear A210
          try go_wp2_with (fail)
          go_at_call 35; (with_reducible refine (laws_toOrderLineS.calls k _ _ l0 t193 _ (Kd.C_below HR0.out (bs HB)) HC0.out A21.out).mono ?_); rintro e w22 ⟨v194, rfl, ho0, hb⟩; have HO195 := Aside0.mk (Kd.R_lower (Kd.R_new' (Kd.R_new' ho0 (Kd.R_lt (rs HO187))) (Kd.R_lt (rs HO191))) (below_size (bs HB))); replace HO187 := Aside0.mk (Kd.R_elder' (rs HO187) (Kd.R_base ho0) hb); replace HO191 := Aside0.mk (Kd.R_elder' (rs HO191) (Kd.R_base ho0) hb); replace HB := Aside0.mk (below_step (bs HB) hb); (try clear hb); (try clear hb2); (try clear hk); (try clear hi); (try clear ho0); replace H := Option.bind_eq_some_iff.mp H; obtain ⟨t196, A230, H⟩ := H; replace H : (if t196 = true then (some true) else (some false)) = some r := H; have A23 := Aside0.mk A230; clear A230; obtain ⟨Ao24, co24, eo24⟩ := Kd.R_slice HO195.out; subst eo24
          try go_wp2_with (fail)
          go_at_call 37; (with_reducible refine (laws_eqOrderLineS.calls k _ _ t189 _ _ t193 t196 _ ?side1 ?side2 ?side3 ?side4 A23.out).mono ?_); (case side1 => repeat (first | exact (Kd.R_reads' HO191.out).2.2 | (with_reducible refine Kd.C_alloc ?_ _) | (with_reducible refine Kd.C_drewN ?_ _) | (with_reducible refine Kd.C_drew ?_))); (case side2 => exact (Kd.R_reads' HO191.out).2.1); (case side3 => repeat (first | exact (Kd.R_reads' HO195.out).2.2 | (with_reducible refine Kd.C_alloc ?_ _) | (with_reducible refine Kd.C_drewN ?_ _) | (with_reducible refine Kd.C_drew ?_))); (case side4 => exact (Kd.R_reads' HO195.out).2.1); rintro e w25 ⟨rfl, hb⟩; replace HO187 := Aside0.mk (Kd.R_below (rs HO187) hb); replace HO191 := Aside0.mk (Kd.R_below (rs HO191) hb); replace HO195 := Aside0.mk (Kd.R_below (rs HO195) hb); replace HB := Aside0.mk (below_step (bs HB) hb); (try clear hb); (try clear hb2); (try clear hk); (try clear hi)
          by_cases c26 : t196 = true
          · subst c26
            have H1 : (some true) = some r := by rw [if_pos rfl] at H; exact H
            clear H; have H := H1; clear H1; obtain rfl := Option.some.inj H
            go_wp2
            go_ret
            exact ⟨ff, bs HB⟩
          · replace c26 := Bool.eq_false_iff.mpr c26; subst c26
            have H1 : (some false) = some r := by rw [if_neg (show ¬ (false = true) by decide)] at H; exact H
            clear H; have H := H1; clear H1; obtain rfl := Option.some.inj H
            go_wp2
            go_ret
            exact ⟨ff, bs HB⟩
        · rw [if_neg c20] at H; have c20b0 : (t192 == t188) = false := beq_eq_false_iff_ne.mpr c20; have c20b1 : (t192 != t188) = true := bne_iff_ne.mpr c20; obtain rfl := Option.some.inj H
          go_wp2
          go_ret
          exact ⟨ff, bs HB⟩
end Go.Proofs.Ytpfdfbomlffhcaa.QF
namespace Go.Proofs.Ytpfdfbomlffhcaa.Rd
open Go.RowKit Go.ChangeShapes Go.WideShapes Go.Proofs.YtpfdfbomlffhcaaW.PrintWords
def Rd (P : Program) (t : TypeId) {α : Type} (d : Kd α) (wf : α → Prop) : Prop :=
  ∀ (H : Type) (enc : TypeId × Value → H) (w : World) (base : Nat) (sp : Nat → Bool) (held : Bool) (fuel : Nat) (cs : List Value) (x : DataW H × List MemPlace),
    DataW.trod enc P w base sp held fuel t cs = some x → ∃ a : α, d.K w a cs ∧ wf a
def RdF (P : Program) (fs : List Field) (off : Nat) {α : Type} (d : Kd α) (wf : α → Prop) : Prop :=
  ∀ (H : Type) (enc : TypeId × Value → H) (w : World) (base : Nat) (sp : Nat → Bool) (held : Bool) (n : Nat) (cs : List Value),
    cs.length = off + d.sz → (∀ f ∈ fs, ∃ y, DataW.trod enc P w base sp held n f.type ((cs.drop f.offset).take (P.cellsOf f.type)) = some y) → ∃ a : α, d.K w a (cs.drop off) ∧ wf a
def WfInt (k : IntKind) (n : Int) : Prop := (Lit.int k n).wf = true
def WfStr (s : ByteArray) : Prop := s.size ≤ maxLen
def WfRow {α : Type} (wf : α → Prop) (l : List α) : Prop := l.length ≤ maxLen ∧ ∀ x ∈ l, wf x
theorem rd_int {P : Program} {t : TypeId} {k : IntKind} (hu : P.underlying t = some (.int k)) : Rd P t (Kd.int k) (WfInt k) := by
  intro H enc w base sp held fuel cs x h
  cases fuel with
  | zero => simp [DataW.trod] at h
  | succ n =>
    match cs with
    | [.int k' m] =>
      simp only [DataW.trod, hu] at h
      split at h
      · rename_i hk
        obtain ⟨rfl, hw⟩ := hk
        exact ⟨m, rfl, hw⟩
      · cases h
    | [] => simp [DataW.trod, hu] at h
    | [.bool _] => simp [DataW.trod, hu] at h
    | [.float _ _] => simp [DataW.trod, hu] at h
    | [.complex _ _ _] => simp [DataW.trod, hu] at h
    | [.string _] => simp [DataW.trod, hu] at h
    | [.pointer _] => simp [DataW.trod, hu] at h
    | [.slice _ _ _] => simp [DataW.trod, hu] at h
    | [.map _] => simp [DataW.trod, hu] at h
    | [.chan _] => simp [DataW.trod, hu] at h
    | [.func _ _ _] => simp [DataW.trod, hu] at h
    | [.nilFunc] => simp [DataW.trod, hu] at h
    | [.iface _ _] => simp [DataW.trod, hu] at h
    | [.nilIface] => simp [DataW.trod, hu] at h
    | [.agg _] => simp [DataW.trod, hu] at h
    | [.tuple _] => simp [DataW.trod, hu] at h
    | _ :: _ :: _ => simp [DataW.trod, hu] at h
theorem rd_str {P : Program} {t : TypeId} (hu : P.underlying t = some .string) : Rd P t Kd.string WfStr := by
  intro H enc w base sp held fuel cs x h
  cases fuel with
  | zero => simp [DataW.trod] at h
  | succ n =>
    match cs with
    | [.string s] =>
      simp only [DataW.trod, hu] at h
      split at h
      · rename_i hk
        exact ⟨s, rfl, hk⟩
      · cases h
    | [] => simp [DataW.trod, hu] at h
    | [.int _ _] => simp [DataW.trod, hu] at h
    | [.bool _] => simp [DataW.trod, hu] at h
    | [.float _ _] => simp [DataW.trod, hu] at h
    | [.complex _ _ _] => simp [DataW.trod, hu] at h
    | [.pointer _] => simp [DataW.trod, hu] at h
    | [.slice _ _ _] => simp [DataW.trod, hu] at h
    | [.map _] => simp [DataW.trod, hu] at h
    | [.chan _] => simp [DataW.trod, hu] at h
    | [.func _ _ _] => simp [DataW.trod, hu] at h
    | [.nilFunc] => simp [DataW.trod, hu] at h
    | [.iface _ _] => simp [DataW.trod, hu] at h
    | [.nilIface] => simp [DataW.trod, hu] at h
    | [.agg _] => simp [DataW.trod, hu] at h
    | [.tuple _] => simp [DataW.trod, hu] at h
    | _ :: _ :: _ => simp [DataW.trod, hu] at h
theorem rdF_last {P : Program} {f : Field} {off : Nat} {α : Type} {d : Kd α} {wf : α → Prop} (h : Rd P f.type d wf) (ho : f.offset = off) (hc : P.cellsOf f.type = d.sz) : RdF P [f] off d wf := by
  intro H enc w base sp held n cs hl hy
  obtain ⟨y, hy⟩ := hy f (List.mem_singleton.2 rfl)
  rw [ho, hc, List.take_of_length_le (by rw [List.length_drop]; omega)] at hy
  exact h H enc w base sp held n _ y hy
theorem rdF_cons {P : Program} {f : Field} {fs : List Field} {off off2 : Nat} {α β : Type} {d : Kd α} {e : Kd β} {wf : α → Prop} {wg : β → Prop} (h : Rd P f.type d wf) (ho : f.offset = off) (hc : P.cellsOf f.type = d.sz)
    (h2 : off2 = off + d.sz) (hs : RdF P fs off2 e wg) : RdF P (f :: fs) off (Kd.pair d e) (fun x => wf x.1 ∧ wg x.2) := by
  intro H enc w base sp held n cs hl hy
  obtain ⟨y, hy1⟩ := hy f (List.mem_cons_self ..)
  have hl' : cs.length = off + (d.sz + e.sz) := hl
  obtain ⟨a, ha, hwa⟩ := h H enc w base sp held n _ y hy1
  obtain ⟨b, hb, hwb⟩ := hs H enc w base sp held n cs (by omega) (fun g hg => hy g (List.mem_cons_of_mem _ hg))
  rw [ho, hc] at ha
  refine ⟨(a, b), ⟨_, _, ?_, ha, hb⟩, hwa, hwb⟩
  rw [h2, ← List.drop_drop, List.take_append_drop]
theorem rd_struct {P : Program} {t : TypeId} {fs : Array Field} {α β : Type} {d : Kd α} {wf : α → Prop} {wg : β → Prop} (g : β → α) (gi : α → β) (hg : ∀ a, g (gi a) = a) (hwg : ∀ a, wf a → wg (gi a))
    (hu : P.underlying t = some (.struct fs)) (hc : P.cellsOf t = d.sz) (hF : RdF P fs.toList 0 d wf) : Rd P t (Kd.iso d g) wg := by
  intro H enc w base sp held fuel cs x h
  obtain ⟨xs, n, _, rfl, hl, hlen, hf⟩ := DataW.trod_struct hu h
  obtain ⟨a, ha, hwa⟩ := hF H enc w base sp held n cs (by omega) (fun f hfm => by
    obtain ⟨i, hi, rfl⟩ := List.mem_iff_getElem.1 hfm
    have hi' : i < fs.size := by simpa using hi
    have z := hf i (fs[i]) (by simp [hi'])
    rw [List.getElem?_eq_getElem (by omega)] at z
    exact ⟨_, by simpa using z⟩)
  refine ⟨gi a, ?_, hwg a hwa⟩
  show d.K w (g (gi a)) cs
  rw [hg]
  simpa using ha
theorem rd_slice {P : Program} {t e : TypeId} {α : Type} {d : Kd α} {wf : α → Prop} (hu : P.underlying t = some (.slice e)) (hc : P.cellsOf e = d.sz) (hd : Rd P e d wf) : Rd P t (Kd.slice e d) (WfRow wf) := by
  intro H enc w base sp held fuel cs x h
  rcases Go.Deep.open_slice hu h with ⟨rfl, _⟩ | ⟨a, len, cap, m, n, D, Pl, rfl, hb, hl, hm, hmm, _, hx⟩
  · exact ⟨[], ⟨none, 0, rfl, Nat.le_refl _, rfl, by simp, fun h => absurd h (by simp)⟩, by simp [maxLen], by simp⟩
  · have hlm : len ≤ m := by rw [hmm]; split <;> omega
    have hall : ∀ i, i < len → ∃ cs', w.cells? base (a.add (i * P.cellsOf e)) (P.cellsOf e) = some cs' ∧ DataW.trod enc P w base sp held n e cs' = some (D i, Pl i) := fun i hi => hx i (by omega)
    have key : ∀ (k : Nat), k ≤ len → ∃ l : List α, l.length = k ∧ (∀ x ∈ l, wf x) ∧ ∀ j p, l[j]? = some p → ∃ c, c.length = d.sz ∧ d.K w p c ∧ ∀ i u, c[i]? = some u → w.cell? (a.add (j * d.sz + i)) = some u := by
      intro k
      induction k with
      | zero => intro _; exact ⟨[], rfl, by simp, by simp⟩
      | succ k ih =>
        intro hk
        obtain ⟨l, hl1, hl2, hl3⟩ := ih (by omega)
        obtain ⟨cs', h1, h2⟩ := hall k (by omega)
        obtain ⟨b, hb1, hb2⟩ := hd H enc w base sp held n cs' _ h2
        refine ⟨l ++ [b], by simp [hl1], ?_, ?_⟩
        · intro z hz
          rcases List.mem_append.1 hz with hz | hz
          · exact hl2 z hz
          · rw [List.mem_singleton.1 hz]; exact hb2
        · intro j p hj
          by_cases hjl : j < l.length
          · rw [List.getElem?_append_left hjl] at hj
            exact hl3 j p hj
          · rw [List.getElem?_append_right (by omega)] at hj
            have hj0 : j - l.length = 0 := by
              cases hz : j - l.length with
              | zero => rfl
              | succ q => rw [hz] at hj; simp at hj
            rw [hj0] at hj
            obtain rfl : b = p := by simpa using hj
            have hjk : j = k := by omega
            subst hjk
            refine ⟨cs', d.K_len hb1, hb1, fun i u hu' => ?_⟩
            obtain ⟨_, hlen', hcell⟩ := World.cells?_some h1
            have hi : i < cs'.length := by
              rcases Nat.lt_or_ge i cs'.length with h | h
              · exact h
              · rw [List.getElem?_eq_none h] at hu'; cases hu'
            have z := hcell i (by omega)
            rw [hu', Go.Deep.add_add, hc] at z
            exact z
    obtain ⟨l, hl1, hl2, hl3⟩ := key len (Nat.le_refl _)
    refine ⟨l, ⟨some a, cap, by rw [hl1], by omega, ?_⟩, by rw [hl1]; exact Nat.le_trans hl hm, hl2⟩
    exact ⟨rfl, by rw [hl1]; have : cap ≤ 2 ^ 63 - 1 := hm; omega, fun _ => ⟨a, rfl, hl3⟩⟩
end Go.Proofs.Ytpfdfbomlffhcaa.Rd
namespace Go.Proofs.Ytpfdfbomlffhcaa.QF
open Go.RowKit Go.Proofs.Ytpfdfbomlffhcaa Go.Proofs.YtpfdfbomlffhcaaW.PrintWords
def wf23 (x : S23) : Prop := Rd.WfStr x.f0 ∧ Rd.WfStr x.f1 ∧ (Rd.WfInt .i64) x.f2 ∧ Rd.WfStr x.f3 ∧ (Rd.WfInt .i64) x.f4 ∧ (Rd.WfInt .i64) x.f5 ∧ (Rd.WfInt .i64) x.f6 ∧ (Rd.WfInt .i64) x.f7
set_option maxRecDepth 100000 in
theorem rd23 : Rd.Rd Try.prog 23 k23 wf23 := Rd.rd_struct _ (fun a => ⟨a.1, a.2.1, a.2.2.1, a.2.2.2.1, a.2.2.2.2.1, a.2.2.2.2.2.1, a.2.2.2.2.2.2.1, a.2.2.2.2.2.2.2⟩) (fun _ => rfl) (fun _ h => h) Try.underlying23 (by kernel_rfl) (Rd.rdF_cons (Rd.rd_str (Try.underlying9)) rfl (by kernel_rfl) (off2 := 1) rfl (Rd.rdF_cons (Rd.rd_str (Try.underlying9)) rfl (by kernel_rfl) (off2 := 2) rfl (Rd.rdF_cons (Rd.rd_int (Try.underlying2)) rfl (by kernel_rfl) (off2 := 3) rfl (Rd.rdF_cons (Rd.rd_str (Try.underlying9)) rfl (by kernel_rfl) (off2 := 4) rfl (Rd.rdF_cons (Rd.rd_int (Try.underlying2)) rfl (by kernel_rfl) (off2 := 5) rfl (Rd.rdF_cons (Rd.rd_int (Try.underlying2)) rfl (by kernel_rfl) (off2 := 6) rfl (Rd.rdF_cons (Rd.rd_int (Try.underlying2)) rfl (by kernel_rfl) (off2 := 7) rfl (Rd.rdF_last (Rd.rd_int (Try.underlying2)) rfl (by kernel_rfl)))))))))
end Go.Proofs.Ytpfdfbomlffhcaa.QF
namespace Go.Proofs.Ytpfdfbomlffhcaa.QF
open Go.Proofs.Ytpfdfbomlffhcaa Go.Proofs.YtpfdfbomlffhcaaW.PrintWords
def laws_FnExactLineFind.Pure : Prop := ∀ (l0 : List (S23)) (a1 : ByteArray) (a2 : ByteArray) (a3 : Int), (Rd.WfRow wf23) l0 → Rd.WfStr a1 → Rd.WfStr a2 → (Rd.WfInt .i64) a3 → ∃ k, laws_FnExactLineFind.f k l0 a1 a2 a3 = some true
end Go.Proofs.Ytpfdfbomlffhcaa.QF
namespace Go.Proofs.Ytpfdfbomlffhcaa.Ev0
open Go.RowKit Go.Proofs.YtpfdfbomlffhcaaW.PrintWords
def Evt {α : Type} (f : Nat → Option α) (r : α) : Prop := ∃ K, ∀ k, K ≤ k → f k = some r
namespace Evt
variable {α β : Type}
theorem const {o : Option α} {r : α} (h : o = some r) : Evt (fun _ => o) r := ⟨0, fun _ _ => h⟩
theorem pure (r : α) : Evt (fun _ => some r) r := ⟨0, fun _ _ => rfl⟩
theorem bind {f : Nat → Option α} {g : Nat → α → Option β} {a : α} {r : β} (h : Evt f a) (h2 : Evt (fun k => g k a) r) : Evt (fun k => (f k).bind (g k)) r := by
  obtain ⟨K, hK⟩ := h
  obtain ⟨L, hL⟩ := h2
  refine ⟨K + L, fun k hk => ?_⟩
  show (f k).bind (g k) = some r
  rw [hK k (by omega)]
  exact hL k (by omega)
theorem succ {f : Nat → Option α} {r : α} (h : Evt (fun k => f (k + 1)) r) : Evt f r := by
  obtain ⟨K, hK⟩ := h
  refine ⟨K + 1, fun k hk => ?_⟩
  obtain ⟨m, rfl⟩ : ∃ m, k = m + 1 := ⟨k - 1, by omega⟩
  exact hK m (by omega)
theorem pos {c : Prop} [Decidable c] {f g : Nat → Option α} {r : α} (hc : c) (h : Evt f r) : Evt (fun k => if c then f k else g k) r := by
  simpa only [if_pos hc] using h
theorem neg {c : Prop} [Decidable c] {f g : Nat → Option α} {r : α} (hc : ¬ c) (h : Evt g r) : Evt (fun k => if c then f k else g k) r := by
  simpa only [if_neg hc] using h
theorem ite {c : Prop} [Decidable c] {f g : Nat → Option α} {r : α} (h1 : c → Evt f r) (h2 : ¬ c → Evt g r) : Evt (fun k => if c then f k else g k) r := by
  by_cases hc : c
  · exact pos hc (h1 hc)
  · exact neg hc (h2 hc)
theorem ex {f : Nat → Option α} {r : α} (h : Evt f r) : ∃ k, f k = some r := by
  obtain ⟨K, hK⟩ := h
  exact ⟨K, hK K (Nat.le_refl _)⟩
theorem same {f : Nat → Option α} {r r' : α} (h : Evt f r) (e : r = r') : Evt f r' := e ▸ h
end Evt
theorem w64 {x : Int} (h0 : -9223372036854775808 ≤ x) (h1 : x ≤ 9223372036854775807) : wrap64 x = x := by
  unfold wrap64
  omega
noncomputable def B (p : Prop) : Bool := @decide p (Classical.propDecidable p)
theorem B_true {p : Prop} (h : p) : B p = true := by unfold B; exact @decide_eq_true p (Classical.propDecidable p) h
theorem B_false {p : Prop} (h : ¬ p) : B p = false := by unfold B; exact @decide_eq_false p (Classical.propDecidable p) h
theorem B_iff {p : Prop} : B p = true ↔ p := by unfold B; exact @decide_eq_true_iff p (Classical.propDecidable p)
theorem B_congr {p q : Prop} (h : p ↔ q) : B p = B q := by rw [propext h]
theorem decide_B (p : Prop) [Decidable p] : decide p = B p := by
  by_cases h : p
  · rw [decide_eq_true h, B_true h]
  · rw [decide_eq_false h, B_false h]
theorem and_ {c p q : Prop} [Decidable c] {f : Nat → Option Bool} (hc : c ↔ p) (h : p → Evt f (B q)) : Evt (fun k => if c then f k else some false) (B (p ∧ q)) := by
  by_cases e : c
  · exact Evt.pos e ((h (hc.1 e)).same (B_congr ⟨fun x => ⟨hc.1 e, x⟩, fun x => x.2⟩))
  · exact Evt.neg e ((Evt.pure false).same (B_false (fun x => e (hc.2 x.1))).symm)
theorem last_ {p q : Prop} [Decidable p] (h : p ↔ q) : Evt (fun _ => some (decide p)) (B q) := (Evt.pure _).same ((decide_B p).trans (B_congr h))
theorem lastB_ {p q : Prop} (h : p ↔ q) : Evt (fun _ => some (B p)) (B q) := (Evt.pure _).same (B_congr h)
end Go.Proofs.Ytpfdfbomlffhcaa.Ev0
