-- Merged by a program of this session (wip/tool/pack.py) out of its own texts for this claim.
import Derived.Test.YtefmkmhjbfpelaaKFnOutbox0
import Derived.Test.YtefmkmhjbfpelaaKFnOutbox1
import Derived.Test.YtefmkmhjbfpelaaKFnOutbox2
import Derived.Test.YtefmkmhjbfpelaaKFnOutbox8
import Derived.Test.YtefmkmhjbfpelaaKFnOutbox9
import Derived.Test.YtefmkmhjbfpelaaKFnOutbox10
namespace Go.Proofs.Ytefmkmhjbfpelaa.QR
open Go.RowKit Go.Proofs.YtefmkmhjbfpelaaW.PrintWords Go.Proofs.YtefmkmhjbfpelaaW.PrintLast Go.Proofs.YtefmkmhjbfpelaaW.PrintMore
attribute [local go_sem] max2_int min2_int max_two min_two max_three min_three max_four min_four   -- for this text's walks alone
set_option linter.unusedVariables false
set_option linter.unusedSimpArgs false
set_option maxHeartbeats 8000000 in
set_option maxRecDepth 100000 in
theorem impl_OutboxHeard.calls (k : Nat) (A0 : Option Addr) (c0 : Nat) (l0 : List (S24)) (a1 : ByteArray) (a2 : Int) (r1 : List (S24)) (r2 : List (S105)) (r3 : List (S24)) (r4 : Int) (w : World) (hr0 : Kd.C k24 w A0 l0.length l0) (hc0 : l0.length ≤ c0) (h : impl_OutboxHeard.f k l0 a1 a2 = some (r1, r2, r3, r4)) :
    Calls Try.prog 45 #[.slice A0 l0.length c0, .string a1, .int .i64 a2] w fun e w' => ∃ v0_ v1_ v2_ : Value, e = .returned (.agg #[v0_, v1_, v2_, .int .i64 r4]) ∧ Kd.R k24 24 w' w.heap.size (fun k_ => some k_ ≠ (v2_ : Value).ownBlock) v0_ r1 ∧ Kd.R k105 105 w' w.heap.size (fun _ => True) v1_ r2 ∧ Kd.R k24 24 w' w.heap.size (fun k_ => some k_ ≠ (v0_ : Value).ownBlock) v2_ r3 ∧ Below w.heap.size w w' := by
  have hu34 := Try.underlying34; have hu24 := Try.underlying24; have HR0 := Aside0.mk hr0; have HC0 := Aside0.mk hc0; clear hr0 hc0; have HB := Aside0.mk (Below.refl w.heap.size w); have H : ((impl_longText.f k (([a1] : List ByteArray))).bind fun t386 => (if t386 = true then (some (([] : List (S24)), ([] : List (S105)), ([] : List (S24)), 2)) else ((impl_outboxCode.f k l0).bind fun t387 => (if t387 = 0 then ((impl_Out_impl_outOrder.f k l0 a1 a2 (⟨#[]⟩ : ByteArray) 0 0).bind fun bt388 => (if bt388.2 = true then ((slices_Clone_implOut.f l0).bind fun t390 => ((slices_Delete_implOut.f t390 bt388.1 (wrap64 (bt388.1 + 1))).bind fun t393 => (some (t393, ([] : List (S105)), ([] : List (S24)), 0)))) else (some (([] : List (S24)), ([] : List (S105)), ([] : List (S24)), 6)))) else (some (([] : List (S24)), ([] : List (S105)), ([] : List (S24)), t387)))))) = some (r1, r2, r3, r4) := h; clear h; obtain ⟨y383, hy383⟩ : ∃ y_ : List ByteArray, y_ = (([a1] : List ByteArray)) := ⟨_, rfl⟩
  replace H : ((impl_longText.f k y383).bind fun t386 => (if t386 = true then (some (([] : List (S24)), ([] : List (S105)), ([] : List (S24)), 2)) else ((impl_outboxCode.f k l0).bind fun t387 => (if t387 = 0 then ((impl_Out_impl_outOrder.f k l0 a1 a2 (⟨#[]⟩ : ByteArray) 0 0).bind fun bt388 => (if bt388.2 = true then ((slices_Clone_implOut.f l0).bind fun t390 => ((slices_Delete_implOut.f t390 bt388.1 (wrap64 (bt388.1 + 1))).bind fun t393 => (some (t393, ([] : List (S105)), ([] : List (S24)), 0)))) else (some (([] : List (S24)), ([] : List (S105)), ([] : List (S24)), 6)))) else (some (([] : List (S24)), ([] : List (S105)), ([] : List (S24)), t387)))))) = some (r1, r2, r3, r4) := by first | (rw [hy383]; with_reducible exact H) | (have H2_ := (Option.bind_some _ _).symm.trans H; rw [hy383]; with_reducible exact H2_) | (have H2_ := (Option.bind_some _ _).symm.trans H; with_reducible exact H2_) | with_reducible exact H | (rw [hy383]; exact H) | exact H
  have Ny383 := Aside0.mk hy383; clear hy383; replace H := Option.bind_eq_some_iff.mp H; obtain ⟨t386, A40, H⟩ := H; replace H : (if t386 = true then (some (([] : List (S24)), ([] : List (S105)), ([] : List (S24)), 2)) else ((impl_outboxCode.f k l0).bind fun t387 => (if t387 = 0 then ((impl_Out_impl_outOrder.f k l0 a1 a2 (⟨#[]⟩ : ByteArray) 0 0).bind fun bt388 => (if bt388.2 = true then ((slices_Clone_implOut.f l0).bind fun t390 => ((slices_Delete_implOut.f t390 bt388.1 (wrap64 (bt388.1 + 1))).bind fun t393 => (some (t393, ([] : List (S105)), ([] : List (S24)), 0)))) else (some (([] : List (S24)), ([] : List (S105)), ([] : List (S24)), 6)))) else (some (([] : List (S24)), ([] : List (S105)), ([] : List (S24)), t387))))) = some (r1, r2, r3, r4) := H; have A4 := Aside0.mk A40; clear A40
  go_enter Try.func45, Try.ntmps45
  try go_wp2_with (first | ((with_reducible refine gate_dst (N := 6) rfl ?_); refine bx 6 (cs := #[.slice none 0 0, .slice none 0 0, .slice none 0 0, .int .i64 0]) (t := 34) ?_; intro gb382 hg w5 hbox hb; have BK382 := Aside0.mk (hbox); have GW382 := Aside0.mk ((gs hg (bs HB))); have GE382 := Aside0.mk ((gs hg (bs HB))); replace HB := Aside0.mk (below_step (bs HB) hb); clear hb hbox hg) | ((with_reducible refine gate_dst (N := 11) rfl ?_); refine Kd.R_lit Kd.string _ 9 ?hg (N := 11) ?hd (xs := ([a1] : List ByteArray)) (inner := [.string a1]) (ok := fun _ => True) (okp := fun _ => True) ?hr ?hp (fun _ hk => hk) trivial (Below.refl _ _) (Nat.le_refl _) (by simp) ?_; (case hd => rfl); (case hg => rfl); (case hr => first | (go_simp; done) | (go_simp; rfl)); (case hp => exact (Reps.one (show Kd.M Kd.string _ _ _ a1 [.string a1] from rfl) (Reps.none _ _))); intro v384 w6 ho7 hb hg_ hnew_; clear hg_ hnew_; (first | rw [← Ny383.out] at ho7 | (simp only [Int.reduceToNat] at ho7; rw [← Ny383.out] at ho7)); have HO385 := Aside0.mk (Kd.R_lower ho7 (below_size (bs HB))); replace BK382 := Aside0.mk (blk_below (ks BK382) hb); replace HB := Aside0.mk (below_step (bs HB) hb); clear hb ho7; obtain ⟨Ao8, co8, eo8⟩ := Kd.R_slice HO385.out; subst eo8))
  go_at_call 85; (with_reducible refine (impl_longText.calls k _ _ y383 t386 _ ?side1 ?side2 A4.out).mono ?_); (case side1 => repeat (first | exact (Kd.R_reads' HO385.out).2.2 | (with_reducible refine Kd.C_alloc ?_ _) | (with_reducible refine Kd.C_drewN ?_ _) | (with_reducible refine Kd.C_drew ?_))); (case side2 => exact (Kd.R_reads' HO385.out).2.1); rintro e w' ⟨rfl, ⟨nd, rfl⟩⟩
  by_cases c9 : t386 = true
  · subst c9
    have H1 : (some (([] : List (S24)), ([] : List (S105)), ([] : List (S24)), 2)) = some (r1, r2, r3, r4) := by rw [if_pos rfl] at H; exact H
    clear H; have H := H1; clear H1; simp only [Option.some.injEq, Prod.mk.injEq] at H; obtain ⟨rfl, rfl, rfl, rfl⟩ := H; obtain ⟨hcz10_0, hcz10_1, hcz10_2, hcz10_3, hfz10_0, hfz10_1, hfz10_2, hfz10_3⟩ := cf4 BK382
    go_wp2
    refine bodyPost_ret (results_cell_row rfl _ _ gb382 34 #[.slice none 0 0, .slice none 0 0, .slice none 0 0, .int .i64 2] (0, 0) _ rfl (kp BK382) Try.underlying34 rfl (by kernel_rfl)) rfl ?_
    exact ⟨_, _, _, ff, by first | exact Kd.R_nil _ _ _ _ _ | exact Kd.N_nil _ _ _ _ _ | exact Kd.V_nil _ _ _ _ _ | exact Kd.Q_nil _ _ _ _ _ | exact Kd.S_nil _ _ _ _ _, by first | exact Kd.R_nil _ _ _ _ _ | exact Kd.N_nil _ _ _ _ _ | exact Kd.V_nil _ _ _ _ _ | exact Kd.Q_nil _ _ _ _ _ | exact Kd.S_nil _ _ _ _ _, by first | exact Kd.R_nil _ _ _ _ _ | exact Kd.N_nil _ _ _ _ _ | exact Kd.V_nil _ _ _ _ _ | exact Kd.Q_nil _ _ _ _ _ | exact Kd.S_nil _ _ _ _ _, bs HB⟩
  · replace c9 := Bool.eq_false_iff.mpr c9; subst c9
    have H1 : ((impl_outboxCode.f k l0).bind fun t387 => (if t387 = 0 then ((impl_Out_impl_outOrder.f k l0 a1 a2 (⟨#[]⟩ : ByteArray) 0 0).bind fun bt388 => (if bt388.2 = true then ((slices_Clone_implOut.f l0).bind fun t390 => ((slices_Delete_implOut.f t390 bt388.1 (wrap64 (bt388.1 + 1))).bind fun t393 => (some (t393, ([] : List (S105)), ([] : List (S24)), 0)))) else (some (([] : List (S24)), ([] : List (S105)), ([] : List (S24)), 6)))) else (some (([] : List (S24)), ([] : List (S105)), ([] : List (S24)), t387)))) = some (r1, r2, r3, r4) := by rw [if_neg (show ¬ (false = true) by decide)] at H; exact H
    clear H; have H := H1; clear H1; replace H := Option.bind_eq_some_iff.mp H; obtain ⟨t387, A110, H⟩ := H; replace H : (if t387 = 0 then ((impl_Out_impl_outOrder.f k l0 a1 a2 (⟨#[]⟩ : ByteArray) 0 0).bind fun bt388 => (if bt388.2 = true then ((slices_Clone_implOut.f l0).bind fun t390 => ((slices_Delete_implOut.f t390 bt388.1 (wrap64 (bt388.1 + 1))).bind fun t393 => (some (t393, ([] : List (S105)), ([] : List (S24)), 0)))) else (some (([] : List (S24)), ([] : List (S105)), ([] : List (S24)), 6)))) else (some (([] : List (S24)), ([] : List (S105)), ([] : List (S24)), t387))) = some (r1, r2, r3, r4) := H; have A11 := Aside0.mk A110; clear A110
    try go_wp2_with (fail)
    go_at_call 80; (with_reducible refine (impl_outboxCode.calls k _ _ l0 t387 _ (Kd.C_below HR0.out (bs HB)) HC0.out A11.out).mono ?_); rintro e w12 ⟨rfl, hb⟩; replace HO385 := Aside0.mk (Kd.R_below (rs HO385) hb); replace BK382 := Aside0.mk (blk_below (ks BK382) hb); replace HB := Aside0.mk (below_step (bs HB) hb); (try clear hb); (try clear hb2); (try clear hk); (try clear hi)
    by_cases c13 : t387 = 0
    · rw [if_pos c13] at H; have c13b0 : (t387 == 0) = true := beq_iff_eq.mpr c13; have c13b1 : (t387 != 0) = false := bne_eq_false_iff_eq.mpr c13; clear c13; replace H := Option.bind_eq_some_iff.mp H; obtain ⟨⟨t388, t389⟩, A140, H⟩ := H; replace H : (if t389 = true then ((slices_Clone_implOut.f l0).bind fun t390 => ((slices_Delete_implOut.f t390 t388 (wrap64 (t388 + 1))).bind fun t393 => (some (t393, ([] : List (S105)), ([] : List (S24)), 0)))) else (some (([] : List (S24)), ([] : List (S105)), ([] : List (S24)), 6))) = some (r1, r2, r3, r4) := H; have A14 := Aside0.mk A140; clear A140
      try go_wp2_with (fail)
      go_at_call 109; (with_reducible refine (impl_Out_impl_outOrder.calls k _ _ l0 a1 a2 (⟨#[]⟩ : ByteArray) 0 0  t388 t389 _ (Kd.C_below HR0.out (bs HB)) HC0.out A14.out).mono ?_); rintro e w15 ⟨rfl, hb⟩; replace HO385 := Aside0.mk (Kd.R_below (rs HO385) hb); replace BK382 := Aside0.mk (blk_below (ks BK382) hb); replace HB := Aside0.mk (below_step (bs HB) hb); (try clear hb); (try clear hb2); (try clear hk); (try clear hi)
      by_cases c16 : t389 = true
      · subst c16
        have H1 : ((slices_Clone_implOut.f l0).bind fun t390 => ((slices_Delete_implOut.f t390 t388 (wrap64 (t388 + 1))).bind fun t393 => (some (t393, ([] : List (S105)), ([] : List (S24)), 0)))) = some (r1, r2, r3, r4) := by rw [if_pos rfl] at H; exact H
        clear H; have H := H1; clear H1; replace H := Option.bind_eq_some_iff.mp H; obtain ⟨t390, A170, H⟩ := H; replace H : ((slices_Delete_implOut.f t390 t388 (wrap64 (t388 + 1))).bind fun t393 => (some (t393, ([] : List (S105)), ([] : List (S24)), 0))) = some (r1, r2, r3, r4) := H; have A17 := Aside0.mk A170; clear A170; replace H := Option.bind_eq_some_iff.mp H; obtain ⟨t393, A180, H⟩ := H; replace H : (some (t393, ([] : List (S105)), ([] : List (S24)), 0)) = some (r1, r2, r3, r4) := H; have A18 := Aside0.mk A180; clear A180; simp only [Option.some.injEq, Prod.mk.injEq] at H; obtain ⟨rfl, rfl, rfl, rfl⟩ := H
        go_wp2_with (first | ((first | ((with_reducible refine gate_callee (f := 111) rfl ?_); refine goesL_ (some 32) rfl rfl Try.func111 (by kernel_rfl) rfl #[.slice A0 l0.length c0] rfl (by (try simp only [List.map_toArray, List.map_cons, List.map_nil]); first | done | rfl | (simp only [List.length_drop, List.length_take]; rfl)) ?_; (with_reducible refine (slices_Clone_implOut.calls _ _ l0 t390 _ (Kd.C_below HR0.out (bs HB)) HC0.out A17.out).mono ?_); rintro e w19 ⟨v391, rfl, ho0, hb⟩; refine ⟨_, rfl, ?_⟩) | (go_at_call 111; (with_reducible refine (slices_Clone_implOut.calls _ _ l0 t390 _ (Kd.C_below HR0.out (bs HB)) HC0.out A17.out).mono ?_); rintro e w19 ⟨v391, rfl, ho0, hb⟩)); replace HO385 := Aside0.mk (Kd.R_below (rs HO385) hb); have HO392 := Aside0.mk (Kd.R_lower ho0 (below_size (bs HB))); replace BK382 := Aside0.mk (blk_below (ks BK382) hb); replace HB := Aside0.mk (below_step (bs HB) hb); (try clear hb); (try clear hb2); (try clear hk); (try clear hi); (try clear ho0); obtain ⟨Ao20, co20, eo20⟩ := Kd.R_slice HO392.out; subst eo20) | ((first | ((with_reducible refine gate_callee (f := 110) rfl ?_); refine goesL_ (some 36) rfl rfl Try.func110 (by kernel_rfl) rfl #[.slice Ao20 t390.length co20, .int .i64 t388, .int .i64 (wrap64 (t388 + 1))] rfl (by (try simp only [List.map_toArray, List.map_cons, List.map_nil]); first | done | rfl | (simp only [List.length_drop, List.length_take]; rfl)) ?_; (with_reducible refine (slices_Delete_implOut.calls (fun k_ => some k_ = (.slice Ao20 t390.length co20 : Value).ownBlock) (.slice Ao20 t390.length co20) t390 t388 (wrap64 (t388 + 1)) t393 w _ ?side1 ?side2 A18.out).mono ?_); (case side1 => repeat (first | (with_reducible first | exact HB.out | apply below_alloc | apply pw_below_drewN | apply below_drew1 | refine below_set ?_ GE382.out) | exact HB.out)); (case side2 => exact Kd.R_tight rfl HO392.out); rintro e w21 ⟨v394, rfl, ho0, hb, hkp⟩; refine ⟨_, rfl, ?_⟩) | (go_at_call 110; (with_reducible refine (slices_Delete_implOut.calls (fun k_ => some k_ = (.slice Ao20 t390.length co20 : Value).ownBlock) (.slice Ao20 t390.length co20) t390 t388 (wrap64 (t388 + 1)) t393 w _ ?side1 ?side2 A18.out).mono ?_); (case side1 => repeat (first | (with_reducible first | exact HB.out | apply below_alloc | apply pw_below_drewN | apply below_drew1 | refine below_set ?_ GE382.out) | exact HB.out)); (case side2 => exact Kd.R_tight rfl HO392.out); rintro e w21 ⟨v394, rfl, ho0, hb, hkp⟩)); have n0_ := Aside0.mk (blk_kept (ks BK382) hkp (fun hs_ => (fun e_ => (Kd.R_ne HO392.out BK382.out (by decide)) e_) hs_)); have n1_ := Aside0.mk (Kd.R_mono (ok' := fun k_ => True) (Kd.R_keptB ((Kd.R_apart' HO385.out (Kd.R_typed HO392.out) (by decide))) hkp (fun k_ hk_ hs_ => (hk_.2) hs_)) (fun k_ hk_ => trivial)); have n2_ := Aside0.mk (Kd.R_mono (ok' := fun k_ => True) ho0 (fun k_ hk_ => trivial)); have n3_ := Aside0.mk (hb); clear BK382; clear HO385; clear HB; clear HO392; have BK382 := n0_; have HO385 := n1_; have HO395 := n2_; have HB := n3_; clear n0_ n1_ n2_ n3_; (try clear hb); (try clear hkp); (try clear ho0); obtain ⟨Ao22, co22, eo22⟩ := Kd.R_slice HO395.out; subst eo22; obtain ⟨hcz23_0, hcz23_1, hcz23_2, hcz23_3, hfz23_0, hfz23_1, hfz23_2, hfz23_3⟩ := cf4 BK382))
        refine bodyPost_ret (results_cell_row rfl _ _ gb382 34 #[.slice Ao22 t393.length co22, .slice none 0 0, .slice none 0 0, .int .i64 0] (0, 0) _ rfl (kp BK382) Try.underlying34 rfl (by kernel_rfl)) rfl ?_
        exact ⟨_, _, _, ff, Kd.R_mono (rf (Kd.R_types HO395.out BK382.out (by decide))) (fun _ hk => (by simp [Value.ownBlock])), by first | exact Kd.R_nil _ _ _ _ _ | exact Kd.N_nil _ _ _ _ _ | exact Kd.V_nil _ _ _ _ _ | exact Kd.Q_nil _ _ _ _ _ | exact Kd.S_nil _ _ _ _ _, by first | exact Kd.R_nil _ _ _ _ _ | exact Kd.N_nil _ _ _ _ _ | exact Kd.V_nil _ _ _ _ _ | exact Kd.Q_nil _ _ _ _ _ | exact Kd.S_nil _ _ _ _ _, bs HB⟩
      · replace c16 := Bool.eq_false_iff.mpr c16; subst c16
        have H1 : (some (([] : List (S24)), ([] : List (S105)), ([] : List (S24)), 6)) = some (r1, r2, r3, r4) := by rw [if_neg (show ¬ (false = true) by decide)] at H; exact H
        clear H; have H := H1; clear H1; simp only [Option.some.injEq, Prod.mk.injEq] at H; obtain ⟨rfl, rfl, rfl, rfl⟩ := H; obtain ⟨hcz24_0, hcz24_1, hcz24_2, hcz24_3, hfz24_0, hfz24_1, hfz24_2, hfz24_3⟩ := cf4 BK382
        go_wp2
        refine bodyPost_ret (results_cell_row rfl _ _ gb382 34 #[.slice none 0 0, .slice none 0 0, .slice none 0 0, .int .i64 6] (0, 0) _ rfl (kp BK382) Try.underlying34 rfl (by kernel_rfl)) rfl ?_
        exact ⟨_, _, _, ff, by first | exact Kd.R_nil _ _ _ _ _ | exact Kd.N_nil _ _ _ _ _ | exact Kd.V_nil _ _ _ _ _ | exact Kd.Q_nil _ _ _ _ _ | exact Kd.S_nil _ _ _ _ _, by first | exact Kd.R_nil _ _ _ _ _ | exact Kd.N_nil _ _ _ _ _ | exact Kd.V_nil _ _ _ _ _ | exact Kd.Q_nil _ _ _ _ _ | exact Kd.S_nil _ _ _ _ _, by first | exact Kd.R_nil _ _ _ _ _ | exact Kd.N_nil _ _ _ _ _ | exact Kd.V_nil _ _ _ _ _ | exact Kd.Q_nil _ _ _ _ _ | exact Kd.S_nil _ _ _ _ _, bs HB⟩
    · rw [if_neg c13] at H; have c13b0 : (t387 == 0) = false := beq_eq_false_iff_ne.mpr c13; have c13b1 : (t387 != 0) = true := bne_iff_ne.mpr c13; simp only [Option.some.injEq, Prod.mk.injEq] at H; obtain ⟨rfl, rfl, rfl, rfl⟩ := H; obtain ⟨hcz25_0, hcz25_1, hcz25_2, hcz25_3, hfz25_0, hfz25_1, hfz25_2, hfz25_3⟩ := cf4 BK382
      go_wp2
      refine bodyPost_ret (results_cell_row rfl _ _ gb382 34 #[.slice none 0 0, .slice none 0 0, .slice none 0 0, .int .i64 t387] (0, 0) _ rfl (kp BK382) Try.underlying34 rfl (by kernel_rfl)) rfl ?_
      exact ⟨_, _, _, ff, by first | exact Kd.R_nil _ _ _ _ _ | exact Kd.N_nil _ _ _ _ _ | exact Kd.V_nil _ _ _ _ _ | exact Kd.Q_nil _ _ _ _ _ | exact Kd.S_nil _ _ _ _ _, by first | exact Kd.R_nil _ _ _ _ _ | exact Kd.N_nil _ _ _ _ _ | exact Kd.V_nil _ _ _ _ _ | exact Kd.Q_nil _ _ _ _ _ | exact Kd.S_nil _ _ _ _ _, by first | exact Kd.R_nil _ _ _ _ _ | exact Kd.N_nil _ _ _ _ _ | exact Kd.V_nil _ _ _ _ _ | exact Kd.Q_nil _ _ _ _ _ | exact Kd.S_nil _ _ _ _ _, bs HB⟩
end Go.Proofs.Ytefmkmhjbfpelaa.QR
namespace Go.Proofs.Ytefmkmhjbfpelaa.QR
open Go.RowKit Go.Proofs.YtefmkmhjbfpelaaW.PrintWords Go.Proofs.YtefmkmhjbfpelaaW.PrintLast Go.Proofs.YtefmkmhjbfpelaaW.PrintMore
attribute [local go_sem] max2_int min2_int max_two min_two max_three min_three max_four min_four   -- for this text's walks alone
set_option linter.unusedVariables false
set_option linter.unusedSimpArgs false
theorem eqA24 (d : Nat) (w : World) (x0 y0 : ByteArray) (x1 y1 : Int) (x2 y2 : ByteArray) (x3 y3 : Int) (x4 y4 : Int) :
    (Op.equalIn (d + 2) 24 (.agg #[.string x0, .int .i64 x1, .string x2, .int .i64 x3, .int .i64 x4]) (.agg #[.string y0, .int .i64 y1, .string y2, .int .i64 y3, .int .i64 y4])).run Try.prog w = .ok (x0.toList == y0.toList && (x1 == y1 && (x2.toList == y2.toList && (x3 == y3 && (x4 == y4))))) w := by
  refine eqA_of Try.underlying24 (by kernel_rfl) ?_; refine eqf_cons (by rfl) (by go_simp; rfl) (by go_simp; rfl) (by go_simp) ?_; refine eqf_cons (by rfl) (by go_simp; rfl) (by go_simp; rfl) (by go_simp) ?_; refine eqf_cons (by rfl) (by go_simp; rfl) (by go_simp; rfl) (by go_simp) ?_; refine eqf_cons (by rfl) (by go_simp; rfl) (by go_simp; rfl) (by go_simp) ?_
  exact eqf_last (by rfl) (by go_simp; rfl) (by go_simp; rfl) (by go_simp)
end Go.Proofs.Ytefmkmhjbfpelaa.QR
namespace Go.Proofs.Ytefmkmhjbfpelaa.QR
open Go.RowKit Go.Proofs.YtefmkmhjbfpelaaW.PrintWords Go.Proofs.YtefmkmhjbfpelaaW.PrintLast Go.Proofs.YtefmkmhjbfpelaaW.PrintMore
attribute [local go_sem] max2_int min2_int max_two min_two max_three min_three max_four min_four   -- for this text's walks alone
set_option linter.unusedVariables false
set_option linter.unusedSimpArgs false
attribute [local go_sem high] eqA24
set_option maxHeartbeats 8000000 in
set_option maxRecDepth 100000 in
theorem laws_lwOuts.calls (k : Nat) (A0 : Option Addr) (c0 : Nat) (l0 : List (S24)) (A1 : Option Addr) (c1 : Nat) (l1 : List (S24)) (r : Bool) (w : World) (hr0 : Kd.C k24 w A0 l0.length l0) (hc0 : l0.length ≤ c0) (hr1 : Kd.C k24 w A1 l1.length l1) (hc1 : l1.length ≤ c1) (h : laws_lwOuts.f k l0 l1 = some r) :
    Calls Try.prog 49 #[.slice A0 l0.length c0, .slice A1 l1.length c1] w fun e w' => e = .returned (.bool r) ∧ Drawn0 w w' := by
  have hu24 := Try.underlying24; have HR0 := Aside0.mk hr0; have HC0 := Aside0.mk hc0; clear hr0 hc0; have HR1 := Aside0.mk hr1; have HC1 := Aside0.mk hc1; clear hr1 hc1; have H : (if (l0.length : Int) = (l1.length : Int) then (laws_lwOuts.l0 k l0 l1 0) else (some false)) = some r := h; clear h
  by_cases c3 : (l0.length : Int) = (l1.length : Int)
  · rw [if_pos c3] at H; have c3b0 : ((l0.length : Int) == (l1.length : Int)) = true := beq_iff_eq.mpr c3; have c3b1 : ((l0.length : Int) != (l1.length : Int)) = false := bne_eq_false_iff_eq.mpr c3
    have c3b2 : (l0.length == l1.length) = true := by first | simpa using c3 | (simp at c3 ⊢; omega)
    clear c3; have H' := Aside0.mk H; clear H
    go_enter Try.func49, Try.ntmps49
    go_wp2
    repeat (go_quiet (fail); try go_wp2)
    go_loopg [5] k (fun kq v5 w' => ∃ (x5_1 : Int), v5 = .int .i64 x5_1 ∧ Aside0 (laws_lwOuts.l0 kq l0 l1 x5_1 = some r) ∧ Aside0 (kq ≤ k) ∧ Drawn0 w w')
    case atStart => exact ⟨(0), fg, H', ⟨Nat.le_refl _⟩, by repeat (first | exact Drawn0.refl _ | apply Drawn0.step)⟩
    case round =>
      clear H'
      try clear c1
      try clear p2
      try clear c3
      try clear c3b0
      try clear c3b1
      try clear c3b2
      obtain ⟨x5_1, rfl, HA, HK1, ⟨m1, rfl⟩⟩ := hrel
      cases gk with
      | zero => exact absurd HA.out (by simp [laws_lwOuts.l0])
      | succ k1 =>
        have H := HA.out; clear HA; simp only [laws_lwOuts.l0] at H
        by_cases c4 : x5_1 < (l0.length : Int)
        · rw [if_pos c4] at H; have c4b0 : decide (x5_1 < (l0.length : Int)) = true := decide_eq_true c4; clear c4
          by_cases c5 : 0 ≤ x5_1
          · rw [if_pos c5] at H; have c5b0 : decide (0 ≤ x5_1) = true := decide_eq_true c5; clear c5
            by_cases c6 : x5_1 < (l1.length : Int)
            · rw [if_pos c6] at H; have c6b0 : decide (x5_1 < (l1.length : Int)) = true := decide_eq_true c6; clear c6
              by_cases c7 : (!((((rd_T24 l0 x5_1).f0).toList) == (((rd_T24 l1 x5_1).f0).toList)) || (!(((rd_T24 l0 x5_1).f1) == ((rd_T24 l1 x5_1).f1)) || (!((((rd_T24 l0 x5_1).f2).toList) == (((rd_T24 l1 x5_1).f2).toList)) || (!(((rd_T24 l0 x5_1).f3) == ((rd_T24 l1 x5_1).f3)) || (!(((rd_T24 l0 x5_1).f4) == ((rd_T24 l1 x5_1).f4))))))) = true
              · rw [if_pos c7] at H; have c7b0 : (!((((rd_T24 l0 x5_1).f0).toList) == (((rd_T24 l1 x5_1).f0).toList)) || (!(((rd_T24 l0 x5_1).f1) == ((rd_T24 l1 x5_1).f1)) || (!((((rd_T24 l0 x5_1).f2).toList) == (((rd_T24 l1 x5_1).f2).toList)) || (!(((rd_T24 l0 x5_1).f3) == ((rd_T24 l1 x5_1).f3)) || (!(((rd_T24 l0 x5_1).f4) == ((rd_T24 l1 x5_1).f4))))))) = true := c7; clear c7; obtain rfl := Option.some.inj H; have p396 : 0 ≤ (x5_1 : Int) := oa; have q396 : x5_1 < (l0.length : Int) := oa; obtain ⟨ad396, e396, hx396_0, hx396_1, hx396_2, hx396_3, hx396_4⟩ := at_T24 HR0.out x5_1 p396 q396
                cases e396
                replace p396 := eq_true p396; replace q396 := eq_true q396; have p397 : 0 ≤ (x5_1 : Int) := oa; have q397 : x5_1 < (l1.length : Int) := oa; obtain ⟨ad397, e397, hx397_0, hx397_1, hx397_2, hx397_3, hx397_4⟩ := at_T24 HR1.out x5_1 p397 q397
                cases e397
                replace p397 := eq_true p397; replace q397 := eq_true q397
                go_wp2
                repeat (go_quiet (fail); try go_wp2)
                go_ret
                exact ⟨fg, by repeat (first | exact Drawn0.refl _ | apply Drawn0.step)⟩
              · rw [if_neg c7] at H
                have c7b0 : (!((((rd_T24 l0 x5_1).f0).toList) == (((rd_T24 l1 x5_1).f0).toList)) || (!(((rd_T24 l0 x5_1).f1) == ((rd_T24 l1 x5_1).f1)) || (!((((rd_T24 l0 x5_1).f2).toList) == (((rd_T24 l1 x5_1).f2).toList)) || (!(((rd_T24 l0 x5_1).f3) == ((rd_T24 l1 x5_1).f3)) || (!(((rd_T24 l0 x5_1).f4) == ((rd_T24 l1 x5_1).f4))))))) = false := by simpa using c7
                clear c7; have H' := Aside0.mk H; clear H; have p396 : 0 ≤ (x5_1 : Int) := oa; have q396 : x5_1 < (l0.length : Int) := oa; obtain ⟨ad396, e396, hx396_0, hx396_1, hx396_2, hx396_3, hx396_4⟩ := at_T24 HR0.out x5_1 p396 q396
                cases e396
                replace p396 := eq_true p396; replace q396 := eq_true q396; have p397 : 0 ≤ (x5_1 : Int) := oa; have q397 : x5_1 < (l1.length : Int) := oa; obtain ⟨ad397, e397, hx397_0, hx397_1, hx397_2, hx397_3, hx397_4⟩ := at_T24 HR1.out x5_1 p397 q397
                cases e397
                replace p397 := eq_true p397; replace q397 := eq_true q397
                go_wp2
                repeat (go_quiet (fail); try go_wp2)
                go_roundg k1
                case measure => have := HK1.out; omega
                case rel => exact ⟨(wrap64 (x5_1 + 1)), fg, H', ⟨by have := HK1.out; omega⟩, by repeat (first | exact Drawn0.refl _ | apply Drawn0.step)⟩
            · rw [if_neg c6] at H
              exact absurd H (by simp)
          · rw [if_neg c5] at H
            exact absurd H (by simp)
        · rw [if_neg c4] at H; have c4b0 : decide (x5_1 < (l0.length : Int)) = false := decide_eq_false c4; clear c4; obtain rfl := Option.some.inj H
          go_wp2
          repeat (go_quiet (fail); try go_wp2)
          go_ret
          exact ⟨fg, by repeat (first | exact Drawn0.refl _ | apply Drawn0.step)⟩
  · rw [if_neg c3] at H; have c3b0 : ((l0.length : Int) == (l1.length : Int)) = false := beq_eq_false_iff_ne.mpr c3; have c3b1 : ((l0.length : Int) != (l1.length : Int)) = true := bne_iff_ne.mpr c3
    have c3b2 : (l0.length == l1.length) = false := by first | simpa using c3 | (simp at c3 ⊢; omega)
    obtain rfl := Option.some.inj H
    go_enter Try.func49, Try.ntmps49
    go_wp2
    repeat (go_quiet (fail); try go_wp2)
    go_ret
    exact ⟨fg, by repeat (first | exact Drawn0.refl _ | apply Drawn0.step)⟩
end Go.Proofs.Ytefmkmhjbfpelaa.QR
