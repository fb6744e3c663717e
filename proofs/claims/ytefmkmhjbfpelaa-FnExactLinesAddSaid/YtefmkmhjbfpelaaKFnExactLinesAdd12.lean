-- Merged by a program of this session (wip/tool/pack.py) out of its own texts for this claim.
import Derived.Deep.Slices
import Derived.ChangeArms
import Derived.WalkKit
import Derived.ProofKit
import Derived.OpenShut
import Derived.ShutString
import Derived.ChangeOld
import Derived.Below
import Derived.SizedLaws
import Derived.Test.YtefmkmhjbfpelaaKFnExactLinesAdd0
import Derived.Test.YtefmkmhjbfpelaaKFnExactLinesAdd1
import Derived.Test.YtefmkmhjbfpelaaKFnExactLinesAdd2
import Derived.Test.YtefmkmhjbfpelaaKFnExactLinesAdd3
import Derived.Test.YtefmkmhjbfpelaaKFnExactLinesAdd5
import Derived.Test.YtefmkmhjbfpelaaKFnExactLinesAdd8
import Derived.Test.YtefmkmhjbfpelaaKFnExactLinesAdd9
import Derived.Test.YtefmkmhjbfpelaaKFnExactLinesAdd10
import Derived.Test.YtefmkmhjbfpelaaKFnExactLinesAdd11
namespace Go.Proofs.Ytefmkmhjbfpelaa.QL
open Go.RowKit Go.Proofs.YtefmkmhjbfpelaaW.PrintWords Go.Proofs.YtefmkmhjbfpelaaW.PrintLast Go.Proofs.YtefmkmhjbfpelaaW.PrintMore
attribute [local go_sem] max2_int min2_int max_two min_two max_three min_three max_four min_four   -- for this text's walks alone
set_option linter.unusedVariables false
set_option linter.unusedSimpArgs false
set_option maxHeartbeats 8000000 in
set_option maxRecDepth 100000 in
theorem laws_FnExactLinesAdd.calls (k : Nat) (A0 : Option Addr) (c0 : Nat) (l0 : List (S74)) (a1_0 : ByteArray) (a1_1 : ByteArray) (a1_2 : Int) (a1_3 : ByteArray) (a1_4 : Int) (a1_5 : Int) (a1_6 : Int) (a1_7 : Int) (r : Bool) (w : World) (hr0 : Kd.C k74 w A0 l0.length l0) (hc0 : l0.length ≤ c0) (h : laws_FnExactLinesAdd.f k l0 a1_0 a1_1 a1_2 a1_3 a1_4 a1_5 a1_6 a1_7 = some r) :
    Calls Try.prog 11 #[.slice A0 l0.length c0, .agg #[.string a1_0, .string a1_1, .int .i64 a1_2, .string a1_3, .int .i64 a1_4, .int .i64 a1_5, .int .i64 a1_6, .int .i64 a1_7]] w fun e w' => e = .returned (.bool r) ∧ Below w.heap.size w w' := by
  have hu74 := Try.underlying74; have HR0 := Aside0.mk hr0; have HC0 := Aside0.mk hc0; clear hr0 hc0; have HB := Aside0.mk (Below.refl w.heap.size w); have H : ((laws_szOrderLineS.f k l0 1048576).bind fun t254 => (if t254 < 0 then (some true) else ((laws_szOrderLine.f a1_0 a1_1 a1_2 a1_3 a1_4 a1_5 a1_6 a1_7 t254).bind fun t255 => (if t255 < 0 then (some true) else ((laws_toOrderLineS.f k l0).bind fun t256 => ((laws_toOrderLine.f a1_0 a1_1 a1_2 a1_3 a1_4 a1_5 a1_6 a1_7).bind fun bt259 => ((spec_LinesAdd.f k t256 bt259.1 bt259.2.1 bt259.2.2.1 bt259.2.2.2.1 bt259.2.2.2.2.1 bt259.2.2.2.2.2.1 bt259.2.2.2.2.2.2.1 bt259.2.2.2.2.2.2.2).bind fun t267 => ((laws_toOrderLineS.f k l0).bind fun t270 => ((laws_toOrderLine.f a1_0 a1_1 a1_2 a1_3 a1_4 a1_5 a1_6 a1_7).bind fun bt273 => ((impl_LinesAdd.f k t270 bt273.1 bt273.2.1 bt273.2.2.1 bt273.2.2.2.1 bt273.2.2.2.2.1 bt273.2.2.2.2.2.1 bt273.2.2.2.2.2.2.1 bt273.2.2.2.2.2.2.2).bind fun t281 => ((laws_eqOrderLineS.f k t281 t267).bind fun t284 => (if t284 = true then ((laws_toOrderLineS.f k l0).bind fun t285 => ((laws_eqOrderLineS.f k t270 t285).bind fun t288 => (if t288 = true then ((laws_markOrderLineS.f k t270 1).bind fun bt289 => (if bt289.1 < 0 then (laws_FnExactLinesAdd.j0 k l0 t267 t281 true a1_0 a1_1 a1_2 a1_3 a1_4 a1_5 a1_6 a1_7) else ((laws_eqOrderLineS.f k t281 t267).bind fun t291 => (laws_FnExactLinesAdd.j0 k l0 t267 t281 (!t291) a1_0 a1_1 a1_2 a1_3 a1_4 a1_5 a1_6 a1_7)))) else (some false)))) else (some false))))))))))))) = some r := h; clear h; replace H := Option.bind_eq_some_iff.mp H; obtain ⟨t254, A30, H⟩ := H; replace H : (if t254 < 0 then (some true) else ((laws_szOrderLine.f a1_0 a1_1 a1_2 a1_3 a1_4 a1_5 a1_6 a1_7 t254).bind fun t255 => (if t255 < 0 then (some true) else ((laws_toOrderLineS.f k l0).bind fun t256 => ((laws_toOrderLine.f a1_0 a1_1 a1_2 a1_3 a1_4 a1_5 a1_6 a1_7).bind fun bt259 => ((spec_LinesAdd.f k t256 bt259.1 bt259.2.1 bt259.2.2.1 bt259.2.2.2.1 bt259.2.2.2.2.1 bt259.2.2.2.2.2.1 bt259.2.2.2.2.2.2.1 bt259.2.2.2.2.2.2.2).bind fun t267 => ((laws_toOrderLineS.f k l0).bind fun t270 => ((laws_toOrderLine.f a1_0 a1_1 a1_2 a1_3 a1_4 a1_5 a1_6 a1_7).bind fun bt273 => ((impl_LinesAdd.f k t270 bt273.1 bt273.2.1 bt273.2.2.1 bt273.2.2.2.1 bt273.2.2.2.2.1 bt273.2.2.2.2.2.1 bt273.2.2.2.2.2.2.1 bt273.2.2.2.2.2.2.2).bind fun t281 => ((laws_eqOrderLineS.f k t281 t267).bind fun t284 => (if t284 = true then ((laws_toOrderLineS.f k l0).bind fun t285 => ((laws_eqOrderLineS.f k t270 t285).bind fun t288 => (if t288 = true then ((laws_markOrderLineS.f k t270 1).bind fun bt289 => (if bt289.1 < 0 then (laws_FnExactLinesAdd.j0 k l0 t267 t281 true a1_0 a1_1 a1_2 a1_3 a1_4 a1_5 a1_6 a1_7) else ((laws_eqOrderLineS.f k t281 t267).bind fun t291 => (laws_FnExactLinesAdd.j0 k l0 t267 t281 (!t291) a1_0 a1_1 a1_2 a1_3 a1_4 a1_5 a1_6 a1_7)))) else (some false)))) else (some false)))))))))))) = some r := H; have A3 := Aside0.mk A30; clear A30
  go_enter Try.func11, Try.ntmps11
  try go_wp2_with (first | ((with_reducible refine gate_dst (N := 3) rfl ?_); refine bx 3 (cs := #[.string a1_0, .string a1_1, .int .i64 a1_2, .string a1_3, .int .i64 a1_4, .int .i64 a1_5, .int .i64 a1_6, .int .i64 a1_7]) (t := 74) ?_; intro gb253 hg w4 hbox hb; have BK253 := Aside0.mk (hbox); have GW253 := Aside0.mk ((gs hg (bs HB))); have GE253 := Aside0.mk ((gs hg (bs HB))); replace HB := Aside0.mk (below_step (bs HB) hb); clear hb hbox hg))
  go_at_call 50; (with_reducible refine (laws_szOrderLineS.calls k _ _ l0 1048576 t254 _ (Kd.C_below HR0.out (bs HB)) HC0.out A3.out).mono ?_); rintro e w5 ⟨rfl, hb⟩; replace BK253 := Aside0.mk (blk_below (ks BK253) hb); replace HB := Aside0.mk (below_step (bs HB) hb); (try clear hb); (try clear hb2); (try clear hk); (try clear hi)
  by_cases c6 : t254 < 0
  · rw [if_pos c6] at H; have c6b0 : decide (t254 < 0) = true := decide_eq_true c6; clear c6; obtain rfl := Option.some.inj H
    go_wp2
    go_ret
    exact ⟨ff, bs HB⟩
  · rw [if_neg c6] at H; have c6b0 : decide (t254 < 0) = false := decide_eq_false c6; clear c6; replace H := Option.bind_eq_some_iff.mp H; obtain ⟨t255, A70, H⟩ := H; replace H : (if t255 < 0 then (some true) else ((laws_toOrderLineS.f k l0).bind fun t256 => ((laws_toOrderLine.f a1_0 a1_1 a1_2 a1_3 a1_4 a1_5 a1_6 a1_7).bind fun bt259 => ((spec_LinesAdd.f k t256 bt259.1 bt259.2.1 bt259.2.2.1 bt259.2.2.2.1 bt259.2.2.2.2.1 bt259.2.2.2.2.2.1 bt259.2.2.2.2.2.2.1 bt259.2.2.2.2.2.2.2).bind fun t267 => ((laws_toOrderLineS.f k l0).bind fun t270 => ((laws_toOrderLine.f a1_0 a1_1 a1_2 a1_3 a1_4 a1_5 a1_6 a1_7).bind fun bt273 => ((impl_LinesAdd.f k t270 bt273.1 bt273.2.1 bt273.2.2.1 bt273.2.2.2.1 bt273.2.2.2.2.1 bt273.2.2.2.2.2.1 bt273.2.2.2.2.2.2.1 bt273.2.2.2.2.2.2.2).bind fun t281 => ((laws_eqOrderLineS.f k t281 t267).bind fun t284 => (if t284 = true then ((laws_toOrderLineS.f k l0).bind fun t285 => ((laws_eqOrderLineS.f k t270 t285).bind fun t288 => (if t288 = true then ((laws_markOrderLineS.f k t270 1).bind fun bt289 => (if bt289.1 < 0 then (laws_FnExactLinesAdd.j0 k l0 t267 t281 true a1_0 a1_1 a1_2 a1_3 a1_4 a1_5 a1_6 a1_7) else ((laws_eqOrderLineS.f k t281 t267).bind fun t291 => (laws_FnExactLinesAdd.j0 k l0 t267 t281 (!t291) a1_0 a1_1 a1_2 a1_3 a1_4 a1_5 a1_6 a1_7)))) else (some false)))) else (some false)))))))))) = some r := H; have A7 := Aside0.mk A70; clear A70; obtain ⟨hcz8_0, hcz8_1, hcz8_2, hcz8_3, hcz8_4, hcz8_5, hcz8_6, hcz8_7, hfz8_0, hfz8_1, hfz8_2, hfz8_3, hfz8_4, hfz8_5, hfz8_6, hfz8_7⟩ := cf8 BK253
    try go_wp2_with (fail)
    go_at_call 51; (with_reducible refine (laws_szOrderLine.calls a1_0 a1_1 a1_2 a1_3 a1_4 a1_5 a1_6 a1_7 t254 t255 _ A7.out).mono ?_); rintro e w9 ⟨rfl, hb⟩; replace BK253 := Aside0.mk (blk_below (ks BK253) hb); replace HB := Aside0.mk (below_step (bs HB) hb); (try clear hb); (try clear hb2); (try clear hk); (try clear hi)
    by_cases c10 : t255 < 0
    · rw [if_pos c10] at H; have c10b0 : decide (t255 < 0) = true := decide_eq_true c10; clear c10; obtain rfl := Option.some.inj H
      go_wp2
      go_ret
      exact ⟨ff, bs HB⟩
    · rw [if_neg c10] at H; have c10b0 : decide (t255 < 0) = false := decide_eq_false c10; clear c10; replace H := Option.bind_eq_some_iff.mp H; obtain ⟨t256, A110, H⟩ := H; replace H : ((laws_toOrderLine.f a1_0 a1_1 a1_2 a1_3 a1_4 a1_5 a1_6 a1_7).bind fun bt259 => ((spec_LinesAdd.f k t256 bt259.1 bt259.2.1 bt259.2.2.1 bt259.2.2.2.1 bt259.2.2.2.2.1 bt259.2.2.2.2.2.1 bt259.2.2.2.2.2.2.1 bt259.2.2.2.2.2.2.2).bind fun t267 => ((laws_toOrderLineS.f k l0).bind fun t270 => ((laws_toOrderLine.f a1_0 a1_1 a1_2 a1_3 a1_4 a1_5 a1_6 a1_7).bind fun bt273 => ((impl_LinesAdd.f k t270 bt273.1 bt273.2.1 bt273.2.2.1 bt273.2.2.2.1 bt273.2.2.2.2.1 bt273.2.2.2.2.2.1 bt273.2.2.2.2.2.2.1 bt273.2.2.2.2.2.2.2).bind fun t281 => ((laws_eqOrderLineS.f k t281 t267).bind fun t284 => (if t284 = true then ((laws_toOrderLineS.f k l0).bind fun t285 => ((laws_eqOrderLineS.f k t270 t285).bind fun t288 => (if t288 = true then ((laws_markOrderLineS.f k t270 1).bind fun bt289 => (if bt289.1 < 0 then (laws_FnExactLinesAdd.j0 k l0 t267 t281 true a1_0 a1_1 a1_2 a1_3 a1_4 a1_5 a1_6 a1_7) else ((laws_eqOrderLineS.f k t281 t267).bind fun t291 => (laws_FnExactLinesAdd.j0 k l0 t267 t281 (!t291) a1_0 a1_1 a1_2 a1_3 a1_4 a1_5 a1_6 a1_7)))) else (some false)))) else (some false)))))))) = some r := H; have A11 := Aside0.mk A110; clear A110; replace H := Option.bind_eq_some_iff.mp H; obtain ⟨⟨t259, t260, t261, t262, t263, t264, t265, t266⟩, A120, H⟩ := H; replace H : ((spec_LinesAdd.f k t256 t259 t260 t261 t262 t263 t264 t265 t266).bind fun t267 => ((laws_toOrderLineS.f k l0).bind fun t270 => ((laws_toOrderLine.f a1_0 a1_1 a1_2 a1_3 a1_4 a1_5 a1_6 a1_7).bind fun bt273 => ((impl_LinesAdd.f k t270 bt273.1 bt273.2.1 bt273.2.2.1 bt273.2.2.2.1 bt273.2.2.2.2.1 bt273.2.2.2.2.2.1 bt273.2.2.2.2.2.2.1 bt273.2.2.2.2.2.2.2).bind fun t281 => ((laws_eqOrderLineS.f k t281 t267).bind fun t284 => (if t284 = true then ((laws_toOrderLineS.f k l0).bind fun t285 => ((laws_eqOrderLineS.f k t270 t285).bind fun t288 => (if t288 = true then ((laws_markOrderLineS.f k t270 1).bind fun bt289 => (if bt289.1 < 0 then (laws_FnExactLinesAdd.j0 k l0 t267 t281 true a1_0 a1_1 a1_2 a1_3 a1_4 a1_5 a1_6 a1_7) else ((laws_eqOrderLineS.f k t281 t267).bind fun t291 => (laws_FnExactLinesAdd.j0 k l0 t267 t281 (!t291) a1_0 a1_1 a1_2 a1_3 a1_4 a1_5 a1_6 a1_7)))) else (some false)))) else (some false))))))) = some r := H; have A12 := Aside0.mk A120; clear A120; replace H := Option.bind_eq_some_iff.mp H; obtain ⟨t267, A130, H⟩ := H; replace H : ((laws_toOrderLineS.f k l0).bind fun t270 => ((laws_toOrderLine.f a1_0 a1_1 a1_2 a1_3 a1_4 a1_5 a1_6 a1_7).bind fun bt273 => ((impl_LinesAdd.f k t270 bt273.1 bt273.2.1 bt273.2.2.1 bt273.2.2.2.1 bt273.2.2.2.2.1 bt273.2.2.2.2.2.1 bt273.2.2.2.2.2.2.1 bt273.2.2.2.2.2.2.2).bind fun t281 => ((laws_eqOrderLineS.f k t281 t267).bind fun t284 => (if t284 = true then ((laws_toOrderLineS.f k l0).bind fun t285 => ((laws_eqOrderLineS.f k t270 t285).bind fun t288 => (if t288 = true then ((laws_markOrderLineS.f k t270 1).bind fun bt289 => (if bt289.1 < 0 then (laws_FnExactLinesAdd.j0 k l0 t267 t281 true a1_0 a1_1 a1_2 a1_3 a1_4 a1_5 a1_6 a1_7) else ((laws_eqOrderLineS.f k t281 t267).bind fun t291 => (laws_FnExactLinesAdd.j0 k l0 t267 t281 (!t291) a1_0 a1_1 a1_2 a1_3 a1_4 a1_5 a1_6 a1_7)))) else (some false)))) else (some false)))))) = some r := H; have A13 := Aside0.mk A130; clear A130; replace H := Option.bind_eq_some_iff.mp H; obtain ⟨t270, A140, H⟩ := H; replace H : ((laws_toOrderLine.f a1_0 a1_1 a1_2 a1_3 a1_4 a1_5 a1_6 a1_7).bind fun bt273 => ((impl_LinesAdd.f k t270 bt273.1 bt273.2.1 bt273.2.2.1 bt273.2.2.2.1 bt273.2.2.2.2.1 bt273.2.2.2.2.2.1 bt273.2.2.2.2.2.2.1 bt273.2.2.2.2.2.2.2).bind fun t281 => ((laws_eqOrderLineS.f k t281 t267).bind fun t284 => (if t284 = true then ((laws_toOrderLineS.f k l0).bind fun t285 => ((laws_eqOrderLineS.f k t270 t285).bind fun t288 => (if t288 = true then ((laws_markOrderLineS.f k t270 1).bind fun bt289 => (if bt289.1 < 0 then (laws_FnExactLinesAdd.j0 k l0 t267 t281 true a1_0 a1_1 a1_2 a1_3 a1_4 a1_5 a1_6 a1_7) else ((laws_eqOrderLineS.f k t281 t267).bind fun t291 => (laws_FnExactLinesAdd.j0 k l0 t267 t281 (!t291) a1_0 a1_1 a1_2 a1_3 a1_4 a1_5 a1_6 a1_7)))) else (some false)))) else (some false))))) = some r := H; have A14 := Aside0.mk A140; clear A140
      try go_wp2_with (fail)
      replace BK253 := Aside0.mk (blk_drew BK253.out); replace HB := Aside0.mk (below_drew1 HB.out); refine start_ (n := 6) (S := fun w' => w'.cell? ⟨gb253, 0, none⟩ = some (.string a1_0) ∧ w'.cell? ⟨gb253, 1, none⟩ = some (.string a1_1) ∧ w'.cell? ⟨gb253, 2, none⟩ = some (.int .i64 a1_2) ∧ w'.cell? ⟨gb253, 3, none⟩ = some (.string a1_3) ∧ w'.cell? ⟨gb253, 4, none⟩ = some (.int .i64 a1_4) ∧ w'.cell? ⟨gb253, 5, none⟩ = some (.int .i64 a1_5) ∧ w'.cell? ⟨gb253, 6, none⟩ = some (.int .i64 a1_6) ∧ w'.cell? ⟨gb253, 7, none⟩ = some (.int .i64 a1_7)) (ds := []) #[false, false, false, false, false, false] (by kernel_rfl) rfl rfl ⟨(blk_cell BK253.out 0).trans rfl, (blk_cell BK253.out 1).trans rfl, (blk_cell BK253.out 2).trans rfl, (blk_cell BK253.out 3).trans rfl, (blk_cell BK253.out 4).trans rfl, (blk_cell BK253.out 5).trans rfl, (blk_cell BK253.out 6).trans rfl, (blk_cell BK253.out 7).trans rfl⟩ (fun hHeld => ?_)
      generalize w9.drew = w15 at BK253 HB hHeld ⊢
      refine pure_ (i := 0) (N := some 23) (v := ?_) (a' := ?_) #[true, false, false, false, false, false] rfl rfl (by kernel_rfl) (fun _ _ _ h => h) (Or.inl ⟨by rfl, ?_⟩) ?_ ?_
      rotate_left
      · intro w'
        go_simp
        (with_reducible rfl)
      rotate_left
      · simp only [Act.put, List.setIfInBounds_toArray, List.set_cons_zero, List.set_cons_succ, i64_w, i32_w]
        rfl
      refine take_ (i := 2) (N := some 25) (v := ?_) (a' := ?_) #[true, false, true, false, false, false] rfl rfl (by kernel_rfl) (fun _ _ _ h => h) (Or.inl ⟨by rfl, ?_⟩) hHeld ?_ ?_
      rotate_left
      · rintro w' ⟨s0, s1, s2, s3, s4, s5, s6, s7⟩
        go_simp
        (with_reducible rfl)
      rotate_left
      · simp only [Act.put, List.setIfInBounds_toArray, List.set_cons_zero, List.set_cons_succ, i64_w, i32_w]
        rfl
      refine one_ (i := 1) (N := some 24) #[true, true, true, false, false, false] rfl rfl (by kernel_rfl) (by decide) (fun K hK => ?_); refine gA Try.func52 #[.slice A0 l0.length c0] ?_; (with_reducible refine (laws_toOrderLineS.calls k _ _ l0 t256 _ ?side1 ?side2 A11.out).mono ?_)
      (case side1 => repeat (first | exact (Kd.C_below HR0.out HB.out) | (with_reducible refine Kd.C_alloc ?_ _) | (with_reducible refine Kd.C_drewN ?_ _) | (with_reducible refine Kd.C_drew ?_)))
      (case side2 => exact HC0.out)
      rintro e w16 ⟨v257, rfl, ho0, hb⟩; refine ⟨_, rfl, ?_⟩; have HO258 := Aside0.mk (Kd.R_lower ho0 (below_size (bs HB))); replace BK253 := Aside0.mk (blk_below (ks BK253) hb); replace HB := Aside0.mk (below_step (bs HB) hb); (try clear hb); (try clear hb2); (try clear hk); (try clear hi); (try clear ho0); refine hK.out _ _ ⟨(blk_cell BK253.out 0).trans rfl, (blk_cell BK253.out 1).trans rfl, (blk_cell BK253.out 2).trans rfl, (blk_cell BK253.out 3).trans rfl, (blk_cell BK253.out 4).trans rfl, (blk_cell BK253.out 5).trans rfl, (blk_cell BK253.out 6).trans rfl, (blk_cell BK253.out 7).trans rfl⟩ (fun hHeld => ?_); clear hK K; refine nA 24 ?_; refine one_ (i := 3) (N := some 26) #[true, true, true, true, false, false] rfl rfl (by kernel_rfl) (by decide) (fun K hK => ?_); refine gA Try.func53 #[.agg #[.string a1_0, .string a1_1, .int .i64 a1_2, .string a1_3, .int .i64 a1_4, .int .i64 a1_5, .int .i64 a1_6, .int .i64 a1_7]] ?_; (with_reducible refine (laws_toOrderLine.calls a1_0 a1_1 a1_2 a1_3 a1_4 a1_5 a1_6 a1_7 t259 t260 t261 t262 t263 t264 t265 t266 _ A12.out).mono ?_); rintro e w17 ⟨rfl, hb⟩; refine ⟨_, rfl, ?_⟩; replace HO258 := Aside0.mk (Kd.R_below (rs HO258) hb); replace BK253 := Aside0.mk (blk_below (ks BK253) hb); replace HB := Aside0.mk (below_step (bs HB) hb); (try clear hb); (try clear hb2); (try clear hk); (try clear hi); obtain ⟨Ao18, co18, eo18⟩ := Kd.R_slice HO258.out
      (first | subst eo18 | (injection eo18 with f1_ f2_ f3_; have f4_ := f1_.symm; have f5_ := f3_.symm; clear f1_ f2_ f3_; subst f4_; subst f5_))
      refine hK.out _ _ ⟨(blk_cell BK253.out 0).trans rfl, (blk_cell BK253.out 1).trans rfl, (blk_cell BK253.out 2).trans rfl, (blk_cell BK253.out 3).trans rfl, (blk_cell BK253.out 4).trans rfl, (blk_cell BK253.out 5).trans rfl, (blk_cell BK253.out 6).trans rfl, (blk_cell BK253.out 7).trans rfl⟩ (fun hHeld => ?_); clear hK K; refine nA 26 ?_; refine one_ (i := 4) (N := some 27) #[true, true, true, true, true, false] rfl rfl (by kernel_rfl) (by decide) (fun K hK => ?_); refine gA Try.func32 #[.slice Ao18 t256.length co18, .agg #[.string t259, .string t260, .int .i64 t261, .string t262, .int .i64 t263, .int .i64 t264, .int .i64 t265, .int .i64 t266]] ?_; (with_reducible refine (spec_LinesAdd.calls k _ _ t256 t259 t260 t261 t262 t263 t264 t265 t266 t267 _ ?side1 ?side2 A13.out).mono ?_)
      (case side1 => repeat (first | exact (Kd.R_reads' HO258.out).2.2 | (with_reducible refine Kd.C_alloc ?_ _) | (with_reducible refine Kd.C_drewN ?_ _) | (with_reducible refine Kd.C_drew ?_)))
      (case side2 => exact (Kd.R_reads' HO258.out).2.1)
      rintro e w19 ⟨v268, rfl, ho0, hb⟩; refine ⟨_, rfl, ?_⟩; have HO269 := Aside0.mk (Kd.R_lower (Kd.R_new' ho0 (Kd.R_lt (rs HO258))) (below_size (bs HB))); replace HO258 := Aside0.mk (Kd.R_elder' (rs HO258) (Kd.R_base ho0) hb); replace BK253 := Aside0.mk (blk_below (ks BK253) hb); replace HB := Aside0.mk (below_step (bs HB) hb); (try clear hb); (try clear hb2); (try clear hk); (try clear hi); (try clear ho0); refine hK.out _ _ ⟨(blk_cell BK253.out 0).trans rfl, (blk_cell BK253.out 1).trans rfl, (blk_cell BK253.out 2).trans rfl, (blk_cell BK253.out 3).trans rfl, (blk_cell BK253.out 4).trans rfl, (blk_cell BK253.out 5).trans rfl, (blk_cell BK253.out 6).trans rfl, (blk_cell BK253.out 7).trans rfl⟩ (fun hHeld => ?_); clear hK K; refine nA 27 ?_; refine pure_ (i := 5) (N := some 6) (v := ?_) (a' := ?_) #[true, true, true, true, true, true] rfl rfl (by kernel_rfl) (fun _ _ _ h => h) (Or.inl ⟨by rfl, ?_⟩) ?_ ?_
      rotate_left
      · intro w'
        go_simp
        (with_reducible rfl)
      rotate_left
      · simp only [Act.put, List.setIfInBounds_toArray, List.set_cons_zero, List.set_cons_succ, i64_w, i32_w]
        rfl
      refine done_ (by kernel_rfl) ?_
      try go_wp2_with (fail)
      go_at_call 52; (with_reducible refine (laws_toOrderLineS.calls k _ _ l0 t270 _ (Kd.C_below HR0.out (bs HB)) HC0.out A14.out).mono ?_); rintro e w20 ⟨v271, rfl, ho0, hb⟩; have HO272 := Aside0.mk (Kd.R_lower (Kd.R_new' (Kd.R_new' ho0 (Kd.R_lt (rs HO258))) (Kd.R_lt (rs HO269))) (below_size (bs HB))); replace HO258 := Aside0.mk (Kd.R_elder' (rs HO258) (Kd.R_base ho0) hb); replace HO269 := Aside0.mk (Kd.R_elder' (rs HO269) (Kd.R_base ho0) hb); replace BK253 := Aside0.mk (blk_below (ks BK253) hb); replace HB := Aside0.mk (below_step (bs HB) hb); (try clear hb); (try clear hb2); (try clear hk); (try clear hi); (try clear ho0); replace H := Option.bind_eq_some_iff.mp H; obtain ⟨⟨t273, t274, t275, t276, t277, t278, t279, t280⟩, A210, H⟩ := H; replace H : ((impl_LinesAdd.f k t270 t273 t274 t275 t276 t277 t278 t279 t280).bind fun t281 => ((laws_eqOrderLineS.f k t281 t267).bind fun t284 => (if t284 = true then ((laws_toOrderLineS.f k l0).bind fun t285 => ((laws_eqOrderLineS.f k t270 t285).bind fun t288 => (if t288 = true then ((laws_markOrderLineS.f k t270 1).bind fun bt289 => (if bt289.1 < 0 then (laws_FnExactLinesAdd.j0 k l0 t267 t281 true a1_0 a1_1 a1_2 a1_3 a1_4 a1_5 a1_6 a1_7) else ((laws_eqOrderLineS.f k t281 t267).bind fun t291 => (laws_FnExactLinesAdd.j0 k l0 t267 t281 (!t291) a1_0 a1_1 a1_2 a1_3 a1_4 a1_5 a1_6 a1_7)))) else (some false)))) else (some false)))) = some r := H; have A21 := Aside0.mk A210; clear A210; obtain ⟨hcz22_0, hcz22_1, hcz22_2, hcz22_3, hcz22_4, hcz22_5, hcz22_6, hcz22_7, hfz22_0, hfz22_1, hfz22_2, hfz22_3, hfz22_4, hfz22_5, hfz22_6, hfz22_7⟩ := cf8 BK253
      try go_wp2_with (fail)
      go_at_call 53; (with_reducible refine (laws_toOrderLine.calls a1_0 a1_1 a1_2 a1_3 a1_4 a1_5 a1_6 a1_7 t273 t274 t275 t276 t277 t278 t279 t280 _ A21.out).mono ?_); rintro e w23 ⟨rfl, hb⟩; replace HO258 := Aside0.mk (Kd.R_below (rs HO258) hb); replace HO269 := Aside0.mk (Kd.R_below (rs HO269) hb); replace HO272 := Aside0.mk (Kd.R_below (rs HO272) hb); replace BK253 := Aside0.mk (blk_below (ks BK253) hb); replace HB := Aside0.mk (below_step (bs HB) hb); (try clear hb); (try clear hb2); (try clear hk); (try clear hi); replace H := Option.bind_eq_some_iff.mp H; obtain ⟨t281, A240, H⟩ := H; replace H : ((laws_eqOrderLineS.f k t281 t267).bind fun t284 => (if t284 = true then ((laws_toOrderLineS.f k l0).bind fun t285 => ((laws_eqOrderLineS.f k t270 t285).bind fun t288 => (if t288 = true then ((laws_markOrderLineS.f k t270 1).bind fun bt289 => (if bt289.1 < 0 then (laws_FnExactLinesAdd.j0 k l0 t267 t281 true a1_0 a1_1 a1_2 a1_3 a1_4 a1_5 a1_6 a1_7) else ((laws_eqOrderLineS.f k t281 t267).bind fun t291 => (laws_FnExactLinesAdd.j0 k l0 t267 t281 (!t291) a1_0 a1_1 a1_2 a1_3 a1_4 a1_5 a1_6 a1_7)))) else (some false)))) else (some false))) = some r := H; have A24 := Aside0.mk A240; clear A240; obtain ⟨Ao25, co25, eo25⟩ := Kd.R_slice HO272.out; subst eo25
      try go_wp2_with (fail)
      go_at_call 33; (with_reducible refine (impl_LinesAdd.calls k _ _ t270 t273 t274 t275 t276 t277 t278 t279 t280 t281 _ ?side1 ?side2 A24.out).mono ?_); (case side1 => repeat (first | exact (Kd.R_reads' HO272.out).2.2 | (with_reducible refine Kd.C_alloc ?_ _) | (with_reducible refine Kd.C_drewN ?_ _) | (with_reducible refine Kd.C_drew ?_))); (case side2 => exact (Kd.R_reads' HO272.out).2.1); rintro e w26 ⟨v282, rfl, ho0, hb⟩; have HO283 := Aside0.mk (Kd.R_lower (Kd.R_new' (Kd.R_new' (Kd.R_new' ho0 (Kd.R_lt (rs HO258))) (Kd.R_lt (rs HO269))) (Kd.R_lt (rs HO272))) (below_size (bs HB))); replace HO258 := Aside0.mk (Kd.R_elder' (rs HO258) (Kd.R_base ho0) hb); replace HO269 := Aside0.mk (Kd.R_elder' (rs HO269) (Kd.R_base ho0) hb); replace HO272 := Aside0.mk (Kd.R_elder' (rs HO272) (Kd.R_base ho0) hb); replace BK253 := Aside0.mk (blk_below (ks BK253) hb); replace HB := Aside0.mk (below_step (bs HB) hb); (try clear hb); (try clear hb2); (try clear hk); (try clear hi); (try clear ho0); replace H := Option.bind_eq_some_iff.mp H; obtain ⟨t284, A270, H⟩ := H; replace H : (if t284 = true then ((laws_toOrderLineS.f k l0).bind fun t285 => ((laws_eqOrderLineS.f k t270 t285).bind fun t288 => (if t288 = true then ((laws_markOrderLineS.f k t270 1).bind fun bt289 => (if bt289.1 < 0 then (laws_FnExactLinesAdd.j0 k l0 t267 t281 true a1_0 a1_1 a1_2 a1_3 a1_4 a1_5 a1_6 a1_7) else ((laws_eqOrderLineS.f k t281 t267).bind fun t291 => (laws_FnExactLinesAdd.j0 k l0 t267 t281 (!t291) a1_0 a1_1 a1_2 a1_3 a1_4 a1_5 a1_6 a1_7)))) else (some false)))) else (some false)) = some r := H; have A27 := Aside0.mk A270; clear A270; obtain ⟨Ao28, co28, eo28⟩ := Kd.R_slice HO283.out; subst eo28; obtain ⟨Ao29, co29, eo29⟩ := Kd.R_slice HO269.out; subst eo29
      try go_wp2_with (fail)
      go_at_call 54; (with_reducible refine (laws_eqOrderLineS.calls k _ _ t281 _ _ t267 t284 _ ?side1 ?side2 ?side3 ?side4 A27.out).mono ?_); (case side1 => repeat (first | exact (Kd.R_reads' HO283.out).2.2 | (with_reducible refine Kd.C_alloc ?_ _) | (with_reducible refine Kd.C_drewN ?_ _) | (with_reducible refine Kd.C_drew ?_))); (case side2 => exact (Kd.R_reads' HO283.out).2.1); (case side3 => repeat (first | exact (Kd.R_reads' HO269.out).2.2 | (with_reducible refine Kd.C_alloc ?_ _) | (with_reducible refine Kd.C_drewN ?_ _) | (with_reducible refine Kd.C_drew ?_))); (case side4 => exact (Kd.R_reads' HO269.out).2.1); rintro e w30 ⟨rfl, hb⟩; replace HO258 := Aside0.mk (Kd.R_below (rs HO258) hb); replace HO269 := Aside0.mk (Kd.R_below (rs HO269) hb); replace HO272 := Aside0.mk (Kd.R_below (rs HO272) hb); replace HO283 := Aside0.mk (Kd.R_below (rs HO283) hb); replace BK253 := Aside0.mk (blk_below (ks BK253) hb); replace HB := Aside0.mk (below_step (bs HB) hb); (try clear hb); (try clear hb2); (try clear hk); (try clear hi)
      by_cases c31 : t284 = true
      · subst c31
        have H1 : ((laws_toOrderLineS.f k l0).bind fun t285 => ((laws_eqOrderLineS.f k t270 t285).bind fun t288 => (if t288 = true then ((laws_markOrderLineS.f k t270 1).bind fun bt289 => (if bt289.1 < 0 then (laws_FnExactLinesAdd.j0 k l0 t267 t281 true a1_0 a1_1 a1_2 a1_3 a1_4 a1_5 a1_6 a1_7) else ((laws_eqOrderLineS.f k t281 t267).bind fun t291 => (laws_FnExactLinesAdd.j0 k l0 t267 t281 (!t291) a1_0 a1_1 a1_2 a1_3 a1_4 a1_5 a1_6 a1_7)))) else (some false)))) = some r := by rw [if_pos rfl] at H; exact H
        clear H; have H := H1; clear H1; replace H := Option.bind_eq_some_iff.mp H; obtain ⟨t285, A320, H⟩ := H; replace H : ((laws_eqOrderLineS.f k t270 t285).bind fun t288 => (if t288 = true then ((laws_markOrderLineS.f k t270 1).bind fun bt289 => (if bt289.1 < 0 then (laws_FnExactLinesAdd.j0 k l0 t267 t281 true a1_0 a1_1 a1_2 a1_3 a1_4 a1_5 a1_6 a1_7) else ((laws_eqOrderLineS.f k t281 t267).bind fun t291 => (laws_FnExactLinesAdd.j0 k l0 t267 t281 (!t291) a1_0 a1_1 a1_2 a1_3 a1_4 a1_5 a1_6 a1_7)))) else (some false))) = some r := H; have A32 := Aside0.mk A320; clear A320
        try go_wp2_with (fail)
        go_at_call 52; (with_reducible refine (laws_toOrderLineS.calls k _ _ l0 t285 _ (Kd.C_below HR0.out (bs HB)) HC0.out A32.out).mono ?_); rintro e w33 ⟨v286, rfl, ho0, hb⟩; have HO287 := Aside0.mk (Kd.R_lower (Kd.R_new' (Kd.R_new' (Kd.R_new' (Kd.R_new' ho0 (Kd.R_lt (rs HO258))) (Kd.R_lt (rs HO269))) (Kd.R_lt (rs HO272))) (Kd.R_lt (rs HO283))) (below_size (bs HB))); replace HO258 := Aside0.mk (Kd.R_elder' (rs HO258) (Kd.R_base ho0) hb); replace HO269 := Aside0.mk (Kd.R_elder' (rs HO269) (Kd.R_base ho0) hb); replace HO272 := Aside0.mk (Kd.R_elder' (rs HO272) (Kd.R_base ho0) hb); replace HO283 := Aside0.mk (Kd.R_elder' (rs HO283) (Kd.R_base ho0) hb); replace BK253 := Aside0.mk (blk_below (ks BK253) hb); replace HB := Aside0.mk (below_step (bs HB) hb); (try clear hb); (try clear hb2); (try clear hk); (try clear hi); (try clear ho0); replace H := Option.bind_eq_some_iff.mp H; obtain ⟨t288, A340, H⟩ := H; replace H : (if t288 = true then ((laws_markOrderLineS.f k t270 1).bind fun bt289 => (if bt289.1 < 0 then (laws_FnExactLinesAdd.j0 k l0 t267 t281 true a1_0 a1_1 a1_2 a1_3 a1_4 a1_5 a1_6 a1_7) else ((laws_eqOrderLineS.f k t281 t267).bind fun t291 => (laws_FnExactLinesAdd.j0 k l0 t267 t281 (!t291) a1_0 a1_1 a1_2 a1_3 a1_4 a1_5 a1_6 a1_7)))) else (some false)) = some r := H; have A34 := Aside0.mk A340; clear A340; obtain ⟨Ao35, co35, eo35⟩ := Kd.R_slice HO287.out; subst eo35
        try go_wp2_with (fail)
        go_at_call 54; (with_reducible refine (laws_eqOrderLineS.calls k _ _ t270 _ _ t285 t288 _ ?side1 ?side2 ?side3 ?side4 A34.out).mono ?_); (case side1 => repeat (first | exact (Kd.R_reads' HO272.out).2.2 | (with_reducible refine Kd.C_alloc ?_ _) | (with_reducible refine Kd.C_drewN ?_ _) | (with_reducible refine Kd.C_drew ?_))); (case side2 => exact (Kd.R_reads' HO272.out).2.1); (case side3 => repeat (first | exact (Kd.R_reads' HO287.out).2.2 | (with_reducible refine Kd.C_alloc ?_ _) | (with_reducible refine Kd.C_drewN ?_ _) | (with_reducible refine Kd.C_drew ?_))); (case side4 => exact (Kd.R_reads' HO287.out).2.1); rintro e w36 ⟨rfl, hb⟩; replace HO258 := Aside0.mk (Kd.R_below (rs HO258) hb); replace HO269 := Aside0.mk (Kd.R_below (rs HO269) hb); replace HO272 := Aside0.mk (Kd.R_below (rs HO272) hb); replace HO283 := Aside0.mk (Kd.R_below (rs HO283) hb); replace HO287 := Aside0.mk (Kd.R_below (rs HO287) hb); replace BK253 := Aside0.mk (blk_below (ks BK253) hb); replace HB := Aside0.mk (below_step (bs HB) hb); (try clear hb); (try clear hb2); (try clear hk); (try clear hi)
        by_cases c37 : t288 = true
        · subst c37
          have H1 : ((laws_markOrderLineS.f k t270 1).bind fun bt289 => (if bt289.1 < 0 then (laws_FnExactLinesAdd.j0 k l0 t267 t281 true a1_0 a1_1 a1_2 a1_3 a1_4 a1_5 a1_6 a1_7) else ((laws_eqOrderLineS.f k t281 t267).bind fun t291 => (laws_FnExactLinesAdd.j0 k l0 t267 t281 (!t291) a1_0 a1_1 a1_2 a1_3 a1_4 a1_5 a1_6 a1_7)))) = some r := by rw [if_pos rfl] at H; exact H
          clear H; have H := H1; clear H1; replace H := Option.bind_eq_some_iff.mp H; obtain ⟨⟨t289, t290⟩, A380, H⟩ := H; replace H : (if t289 < 0 then (laws_FnExactLinesAdd.j0 k l0 t267 t281 true a1_0 a1_1 a1_2 a1_3 a1_4 a1_5 a1_6 a1_7) else ((laws_eqOrderLineS.f k t281 t267).bind fun t291 => (laws_FnExactLinesAdd.j0 k l0 t267 t281 (!t291) a1_0 a1_1 a1_2 a1_3 a1_4 a1_5 a1_6 a1_7))) = some r := H; have A38 := Aside0.mk A380; clear A380
          try go_wp2_with (fail)
          go_at_call 55; (with_reducible refine (laws_markOrderLineS.calls k (fun k_ => some k_ = (.slice Ao25 t270.length co25 : Value).ownBlock) (.slice Ao25 t270.length co25) t270 1 t289 t290 w _ ?side1 ?side2 A38.out).mono ?_); (case side1 => repeat (first | (with_reducible first | exact HB.out | apply below_alloc | apply pw_below_drewN | apply below_drew1 | refine below_set ?_ GE253.out) | exact HB.out)); (case side2 => exact Kd.R_tight rfl HO272.out); rintro e w39 ⟨rfl, hy0, hb, hkp⟩; replace BK253 := Aside0.mk (blk_kept (ks BK253) hkp (fun hs_ => (fun e_ => (Kd.R_ne HO272.out BK253.out (by decide)) e_) hs_)); replace HO258 := Aside0.mk (Kd.R_mono (ok' := fun k_ => some k_ ≠ (.slice Ao29 t267.length co29 : Value).ownBlock ∧ some k_ ≠ (.slice Ao25 t270.length co25 : Value).ownBlock ∧ some k_ ≠ (.slice Ao28 t281.length co28 : Value).ownBlock ∧ some k_ ≠ (.slice Ao35 t285.length co35 : Value).ownBlock) (Kd.R_keptB (HO258.out) hkp (fun k_ hk_ hs_ => (hk_.1.1.2) hs_)) (fun k_ hk_ => ⟨hk_.1.1.1.1.2, hk_.1.1.1.2, hk_.1.1.2, hk_.1.2⟩)); replace HO269 := Aside0.mk (Kd.R_mono (ok' := fun k_ => some k_ ≠ (.slice Ao18 t256.length co18 : Value).ownBlock ∧ some k_ ≠ (.slice Ao25 t270.length co25 : Value).ownBlock ∧ some k_ ≠ (.slice Ao28 t281.length co28 : Value).ownBlock ∧ some k_ ≠ (.slice Ao35 t285.length co35 : Value).ownBlock) (Kd.R_keptB (HO269.out) hkp (fun k_ hk_ hs_ => (hk_.1.1.2) hs_)) (fun k_ hk_ => ⟨hk_.1.1.1.1.2, hk_.1.1.1.2, hk_.1.1.2, hk_.1.2⟩)); replace HO272 := Aside0.mk (Kd.R_reok rfl hy0 (fun k_ e_ => HO272.out.1 k_ e_)); replace HO283 := Aside0.mk (Kd.R_mono (ok' := fun k_ => some k_ ≠ (.slice Ao18 t256.length co18 : Value).ownBlock ∧ some k_ ≠ (.slice Ao29 t267.length co29 : Value).ownBlock ∧ some k_ ≠ (.slice Ao25 t270.length co25 : Value).ownBlock ∧ some k_ ≠ (.slice Ao35 t285.length co35 : Value).ownBlock) (Kd.R_keptB (HO283.out) hkp (fun k_ hk_ hs_ => (hk_.1.2) hs_)) (fun k_ hk_ => ⟨hk_.1.1.1.1.2, hk_.1.1.1.2, hk_.1.1.2, hk_.1.2⟩)); replace HO287 := Aside0.mk (Kd.R_mono (ok' := fun k_ => some k_ ≠ (.slice Ao18 t256.length co18 : Value).ownBlock ∧ some k_ ≠ (.slice Ao29 t267.length co29 : Value).ownBlock ∧ some k_ ≠ (.slice Ao25 t270.length co25 : Value).ownBlock ∧ some k_ ≠ (.slice Ao28 t281.length co28 : Value).ownBlock) (Kd.R_keptB (HO287.out) hkp (fun k_ hk_ hs_ => (hk_.1.2) hs_)) (fun k_ hk_ => ⟨hk_.1.1.1.1.2, hk_.1.1.1.2, hk_.1.1.2, hk_.1.2⟩)); replace HB := Aside0.mk (hb); (try clear hb); (try clear hkp); (try clear hy0); have HC40 := Aside0.mk H; clear H
          go_upto_region 17 with (fail)
          go_cut [53] (fun v53 wc => ∃ (kq : Nat) (x53_39 : Bool), v53 = .bool x53_39 ∧ Aside0 (laws_FnExactLinesAdd.j0 kq l0 t267 t281 x53_39 a1_0 a1_1 a1_2 a1_3 a1_4 a1_5 a1_6 a1_7 = some r) ∧ Aside0 (kq ≤ k) ∧ Aside0 (Kd.R k54 54 wc w.heap.size (fun k_ => some k_ ≠ ((.slice Ao28 t281.length co28) : Value).ownBlock) (.slice Ao29 t267.length co29) t267) ∧ Aside0 (Kd.R k54 54 wc w.heap.size (fun k_ => some k_ ≠ ((.slice Ao29 t267.length co29) : Value).ownBlock) (.slice Ao28 t281.length co28) t281) ∧ Aside0 (wc.heap[gb253]? = some (.cells #[.string a1_0, .string a1_1, .int .i64 a1_2, .string a1_3, .int .i64 a1_4, .int .i64 a1_5, .int .i64 a1_6, .int .i64 a1_7] 74 (0, 0))) ∧ Aside0 (Below w.heap.size w wc))
          case first =>
            have H := HC40.out; clear HC40
            by_cases c41 : t289 < 0
            · rw [if_pos c41] at H; have c41b0 : decide (t289 < 0) = true := decide_eq_true c41; clear c41
              (first | rw [c41b0] | (simp only [i64_w, i32_w]; rw [c41b0]) | skip)
              have H' := Aside0.mk H; clear H
              go_wp2
              go_meet
              case rel => exact ⟨_, (true), fg, H', ⟨fl⟩, ⟨by (with_reducible repeat (first | apply Kd.R_alloc | apply Kd.R_drewN | apply Kd.R_drew)); exact Kd.R_mono HO269.out (fun _ hk => hk.2.2.1)⟩, ⟨by (with_reducible repeat (first | apply Kd.R_alloc | apply Kd.R_drewN | apply Kd.R_drew)); exact Kd.R_mono HO283.out (fun _ hk => hk.2.1)⟩, ⟨ks BK253⟩, ⟨bs HB⟩⟩
            · rw [if_neg c41] at H; have c41b0 : decide (t289 < 0) = false := decide_eq_false c41; clear c41
              (first | rw [c41b0] | (simp only [i64_w, i32_w]; rw [c41b0]) | skip)
              replace H := Option.bind_eq_some_iff.mp H; obtain ⟨t291, A420, H⟩ := H; replace H : (laws_FnExactLinesAdd.j0 k l0 t267 t281 (!t291) a1_0 a1_1 a1_2 a1_3 a1_4 a1_5 a1_6 a1_7) = some r := H; have A42 := Aside0.mk A420; clear A420; have H' := Aside0.mk H; clear H
              go_wp2_with (first | (go_at_call 54; (with_reducible refine (laws_eqOrderLineS.calls k _ _ t281 _ _ t267 t291 _ ?side1 ?side2 ?side3 ?side4 A42.out).mono ?_); (case side1 => repeat (first | exact (Kd.R_reads' HO283.out).2.2 | (with_reducible refine Kd.C_alloc ?_ _) | (with_reducible refine Kd.C_drewN ?_ _) | (with_reducible refine Kd.C_drew ?_))); (case side2 => exact (Kd.R_reads' HO283.out).2.1); (case side3 => repeat (first | exact (Kd.R_reads' HO269.out).2.2 | (with_reducible refine Kd.C_alloc ?_ _) | (with_reducible refine Kd.C_drewN ?_ _) | (with_reducible refine Kd.C_drew ?_))); (case side4 => exact (Kd.R_reads' HO269.out).2.1); rintro e w43 ⟨rfl, hb⟩; replace HO258 := Aside0.mk (Kd.R_below (rs HO258) hb); replace HO269 := Aside0.mk (Kd.R_below (rs HO269) hb); replace HO272 := Aside0.mk (Kd.R_below (rs HO272) hb); replace HO283 := Aside0.mk (Kd.R_below (rs HO283) hb); replace HO287 := Aside0.mk (Kd.R_below (rs HO287) hb); replace BK253 := Aside0.mk (blk_below (ks BK253) hb); replace HB := Aside0.mk (below_step (bs HB) hb); (try clear hb); (try clear hb2); (try clear hk); (try clear hi)))
              go_meet
              case rel => exact ⟨_, (!t291), fg, H', ⟨fl⟩, ⟨by (with_reducible repeat (first | apply Kd.R_alloc | apply Kd.R_drewN | apply Kd.R_drew)); exact Kd.R_mono HO269.out (fun _ hk => hk.2.2.1)⟩, ⟨by (with_reducible repeat (first | apply Kd.R_alloc | apply Kd.R_drewN | apply Kd.R_drew)); exact Kd.R_mono HO283.out (fun _ hk => hk.2.1)⟩, ⟨ks BK253⟩, ⟨bs HB⟩⟩
          case rest =>
            clear HC40
            try clear c1
            try clear p2
            try clear c3
            try clear c4
            try clear c5
            try clear c6
            try clear c6b0
            try clear c10
            try clear c10b0
            try clear c11
            try clear c31
            try clear c32
            try clear c37
            try clear c41
            try clear c41b0
            try clear hcz22_0
            try clear hcz22_1
            try clear hcz22_2
            try clear hcz22_3
            try clear hcz22_4
            try clear hcz22_5
            try clear hcz22_6
            try clear hcz22_7
            try clear hcz8_0
            try clear hcz8_1
            try clear hcz8_2
            try clear hcz8_3
            try clear hcz8_4
            try clear hcz8_5
            try clear hcz8_6
            try clear hcz8_7
            try clear hfz22_0
            try clear hfz22_1
            try clear hfz22_2
            try clear hfz22_3
            try clear hfz22_4
            try clear hfz22_5
            try clear hfz22_6
            try clear hfz22_7
            try clear hfz8_0
            try clear hfz8_1
            try clear hfz8_2
            try clear hfz8_3
            try clear hfz8_4
            try clear hfz8_5
            try clear hfz8_6
            try clear hfz8_7
            obtain ⟨kq, x53_39, rfl, HA, HJ39, HO_6, HO_8, BK253, HB⟩ := hcut
            cases kq with
            | zero => exact absurd HA.out (by simp [laws_FnExactLinesAdd.j0])
            | succ kj39 =>
              have H := HA.out; clear HA; simp only [laws_FnExactLinesAdd.j0] at H
              by_cases c44 : x53_39 = true
              · subst c44
                have H1 : (some false) = some r := by rw [if_pos rfl] at H; exact H
                clear H; have H := H1; clear H1; obtain rfl := Option.some.inj H
                go_wp2
                go_ret
                exact ⟨ff, bs HB⟩
              · replace c44 := Bool.eq_false_iff.mpr c44; subst c44
                have H1 : ((laws_markOrderLineS.f kj39 t281 1).bind fun bt292 => ((laws_heldOrderLineS.f kj39 bt292.2 1).bind fun t294 => (if t294 < 0 then (some false) else (if t294 = bt292.1 then ((laws_toOrderLineS.f kj39 l0).bind fun t295 => ((laws_toOrderLine.f a1_0 a1_1 a1_2 a1_3 a1_4 a1_5 a1_6 a1_7).bind fun bt298 => ((impl_LinesAdd.f kj39 t295 bt298.1 bt298.2.1 bt298.2.2.1 bt298.2.2.2.1 bt298.2.2.2.2.1 bt298.2.2.2.2.2.1 bt298.2.2.2.2.2.2.1 bt298.2.2.2.2.2.2.2).bind fun t306 => ((laws_eqOrderLineS.f kj39 t306 t267).bind fun t309 => (if t309 = true then ((laws_heldOrderLineS.f kj39 bt292.2 1).bind fun t310 => (if t310 < 0 then (some false) else (if t310 = bt292.1 then (some true) else (some false)))) else (some false)))))) else (some false))))) = some r := by rw [if_neg (show ¬ (false = true) by decide)] at H; exact H
                clear H; have H := H1; clear H1; replace H := Option.bind_eq_some_iff.mp H; obtain ⟨⟨t292, t293⟩, A450, H⟩ := H; replace H : ((laws_heldOrderLineS.f kj39 t293 1).bind fun t294 => (if t294 < 0 then (some false) else (if t294 = t292 then ((laws_toOrderLineS.f kj39 l0).bind fun t295 => ((laws_toOrderLine.f a1_0 a1_1 a1_2 a1_3 a1_4 a1_5 a1_6 a1_7).bind fun bt298 => ((impl_LinesAdd.f kj39 t295 bt298.1 bt298.2.1 bt298.2.2.1 bt298.2.2.2.1 bt298.2.2.2.2.1 bt298.2.2.2.2.2.1 bt298.2.2.2.2.2.2.1 bt298.2.2.2.2.2.2.2).bind fun t306 => ((laws_eqOrderLineS.f kj39 t306 t267).bind fun t309 => (if t309 = true then ((laws_heldOrderLineS.f kj39 t293 1).bind fun t310 => (if t310 < 0 then (some false) else (if t310 = t292 then (some true) else (some false)))) else (some false)))))) else (some false)))) = some r := H; have A45 := Aside0.mk A450; clear A450
                try go_wp2_with (fail)
                go_at_call 55; (with_reducible refine (laws_markOrderLineS.calls kj39 (fun k_ => some k_ = (.slice Ao28 t281.length co28 : Value).ownBlock) (.slice Ao28 t281.length co28) t281 1 t292 t293 w _ ?side1 ?side2 A45.out).mono ?_); (case side1 => repeat (first | (with_reducible first | exact HB.out | apply below_alloc | apply pw_below_drewN | apply below_drew1 | refine below_set ?_ GE253.out) | exact HB.out)); (case side2 => exact Kd.R_tight rfl HO_8.out); rintro e w46 ⟨rfl, hy0, hb, hkp⟩; replace HO_6 := Aside0.mk (Kd.R_mono (ok' := fun k_ => some k_ ≠ (.slice Ao28 t281.length co28 : Value).ownBlock) (Kd.R_keptB (HO_6.out) hkp (fun k_ hk_ hs_ => (hk_) hs_)) (fun k_ hk_ => hk_.1)); replace BK253 := Aside0.mk (blk_kept (ks BK253) hkp (fun hs_ => (fun e_ => (Kd.R_ne HO_8.out BK253.out (by decide)) e_) hs_)); replace HO_8 := Aside0.mk (Kd.R_reok rfl hy0 (fun k_ e_ => HO_8.out.1 k_ e_)); replace HB := Aside0.mk (hb); (try clear hb); (try clear hkp); (try clear hy0); replace H := Option.bind_eq_some_iff.mp H; obtain ⟨t294, A470, H⟩ := H; replace H : (if t294 < 0 then (some false) else (if t294 = t292 then ((laws_toOrderLineS.f kj39 l0).bind fun t295 => ((laws_toOrderLine.f a1_0 a1_1 a1_2 a1_3 a1_4 a1_5 a1_6 a1_7).bind fun bt298 => ((impl_LinesAdd.f kj39 t295 bt298.1 bt298.2.1 bt298.2.2.1 bt298.2.2.2.1 bt298.2.2.2.2.1 bt298.2.2.2.2.2.1 bt298.2.2.2.2.2.2.1 bt298.2.2.2.2.2.2.2).bind fun t306 => ((laws_eqOrderLineS.f kj39 t306 t267).bind fun t309 => (if t309 = true then ((laws_heldOrderLineS.f kj39 t293 1).bind fun t310 => (if t310 < 0 then (some false) else (if t310 = t292 then (some true) else (some false)))) else (some false)))))) else (some false))) = some r := H; have A47 := Aside0.mk A470; clear A470
                try go_wp2_with (fail)
                go_at_call 56; refine calls_of_args (args' := #[.slice Ao28 t293.length co28, .int .i64 1]) (by first | (rw [show t293.length = t281.length from (Kd.R_reads' HO_8.out).1.symm] <;> rfl) | rfl) ?_; (with_reducible refine (laws_heldOrderLineS.calls kj39 _ _ t293 1 t294 _ ?side1 ?side2 A47.out).mono ?_); (case side1 => repeat (first | exact (Kd.R_reads' HO_8.out).2.2 | (with_reducible refine Kd.C_alloc ?_ _) | (with_reducible refine Kd.C_drewN ?_ _) | (with_reducible refine Kd.C_drew ?_))); (case side2 => rw [show t293.length = t281.length from (Kd.R_reads' HO_8.out).1.symm]; exact (Kd.R_reads' HO_8.out).2.1); rintro e w48 ⟨rfl, hb⟩; replace HO_6 := Aside0.mk (Kd.R_below (rs HO_6) hb); replace HO_8 := Aside0.mk (Kd.R_below (rs HO_8) hb); replace BK253 := Aside0.mk (blk_below (ks BK253) hb); replace HB := Aside0.mk (below_step (bs HB) hb); (try clear hb); (try clear hb2); (try clear hk); (try clear hi)
                by_cases c49 : t294 < 0
                · rw [if_pos c49] at H; have c49b0 : decide (t294 < 0) = true := decide_eq_true c49; clear c49; obtain rfl := Option.some.inj H
                  go_wp2
                  go_ret
                  exact ⟨ff, bs HB⟩
                · rw [if_neg c49] at H; have c49b0 : decide (t294 < 0) = false := decide_eq_false c49; clear c49
                  by_cases c50 : t294 = t292
                  · rw [if_pos c50] at H; have c50b0 : (t294 == t292) = true := beq_iff_eq.mpr c50; have c50b1 : (t294 != t292) = false := bne_eq_false_iff_eq.mpr c50; clear c50; replace H := Option.bind_eq_some_iff.mp H; obtain ⟨t295, A510, H⟩ := H; replace H : ((laws_toOrderLine.f a1_0 a1_1 a1_2 a1_3 a1_4 a1_5 a1_6 a1_7).bind fun bt298 => ((impl_LinesAdd.f kj39 t295 bt298.1 bt298.2.1 bt298.2.2.1 bt298.2.2.2.1 bt298.2.2.2.2.1 bt298.2.2.2.2.2.1 bt298.2.2.2.2.2.2.1 bt298.2.2.2.2.2.2.2).bind fun t306 => ((laws_eqOrderLineS.f kj39 t306 t267).bind fun t309 => (if t309 = true then ((laws_heldOrderLineS.f kj39 t293 1).bind fun t310 => (if t310 < 0 then (some false) else (if t310 = t292 then (some true) else (some false)))) else (some false))))) = some r := H; have A51 := Aside0.mk A510; clear A510; replace H := Option.bind_eq_some_iff.mp H; obtain ⟨⟨t298, t299, t300, t301, t302, t303, t304, t305⟩, A520, H⟩ := H; replace H : ((impl_LinesAdd.f kj39 t295 t298 t299 t300 t301 t302 t303 t304 t305).bind fun t306 => ((laws_eqOrderLineS.f kj39 t306 t267).bind fun t309 => (if t309 = true then ((laws_heldOrderLineS.f kj39 t293 1).bind fun t310 => (if t310 < 0 then (some false) else (if t310 = t292 then (some true) else (some false)))) else (some false)))) = some r := H; have A52 := Aside0.mk A520; clear A520; replace H := Option.bind_eq_some_iff.mp H; obtain ⟨t306, A530, H⟩ := H; replace H : ((laws_eqOrderLineS.f kj39 t306 t267).bind fun t309 => (if t309 = true then ((laws_heldOrderLineS.f kj39 t293 1).bind fun t310 => (if t310 < 0 then (some false) else (if t310 = t292 then (some true) else (some false)))) else (some false))) = some r := H; have A53 := Aside0.mk A530; clear A530; replace H := Option.bind_eq_some_iff.mp H; obtain ⟨t309, A540, H⟩ := H; replace H : (if t309 = true then ((laws_heldOrderLineS.f kj39 t293 1).bind fun t310 => (if t310 < 0 then (some false) else (if t310 = t292 then (some true) else (some false)))) else (some false)) = some r := H; have A54 := Aside0.mk A540; clear A540
                    try go_wp2_with (fail)
                    replace HO_6 := Aside0.mk (Kd.R_drew HO_6.out); replace HO_8 := Aside0.mk (Kd.R_drew HO_8.out); replace BK253 := Aside0.mk (blk_drew BK253.out); replace HB := Aside0.mk (below_drew1 HB.out); refine start_ (n := 6) (S := fun w' => w'.cell? ⟨gb253, 0, none⟩ = some (.string a1_0) ∧ w'.cell? ⟨gb253, 1, none⟩ = some (.string a1_1) ∧ w'.cell? ⟨gb253, 2, none⟩ = some (.int .i64 a1_2) ∧ w'.cell? ⟨gb253, 3, none⟩ = some (.string a1_3) ∧ w'.cell? ⟨gb253, 4, none⟩ = some (.int .i64 a1_4) ∧ w'.cell? ⟨gb253, 5, none⟩ = some (.int .i64 a1_5) ∧ w'.cell? ⟨gb253, 6, none⟩ = some (.int .i64 a1_6) ∧ w'.cell? ⟨gb253, 7, none⟩ = some (.int .i64 a1_7)) (ds := []) #[false, false, false, false, false, false] (by kernel_rfl) rfl rfl ⟨(blk_cell BK253.out 0).trans rfl, (blk_cell BK253.out 1).trans rfl, (blk_cell BK253.out 2).trans rfl, (blk_cell BK253.out 3).trans rfl, (blk_cell BK253.out 4).trans rfl, (blk_cell BK253.out 5).trans rfl, (blk_cell BK253.out 6).trans rfl, (blk_cell BK253.out 7).trans rfl⟩ (fun hHeld => ?_)
                    generalize w48.drew = w55 at HO_6 HO_8 BK253 HB hHeld ⊢
                    refine pure_ (i := 0) (N := some 65) (v := ?_) (a' := ?_) #[true, false, false, false, false, false] rfl rfl (by kernel_rfl) (fun _ _ _ h => h) (Or.inl ⟨by rfl, ?_⟩) ?_ ?_
                    rotate_left
                    · intro w'
                      go_simp
                      (with_reducible rfl)
                    rotate_left
                    · simp only [Act.put, List.setIfInBounds_toArray, List.set_cons_zero, List.set_cons_succ, i64_w, i32_w]
                      rfl
                    refine take_ (i := 2) (N := some 67) (v := ?_) (a' := ?_) #[true, false, true, false, false, false] rfl rfl (by kernel_rfl) (fun _ _ _ h => h) (Or.inl ⟨by rfl, ?_⟩) hHeld ?_ ?_
                    rotate_left
                    · rintro w' ⟨s0, s1, s2, s3, s4, s5, s6, s7⟩
                      go_simp
                      (with_reducible rfl)
                    rotate_left
                    · simp only [Act.put, List.setIfInBounds_toArray, List.set_cons_zero, List.set_cons_succ, i64_w, i32_w]
                      rfl
                    refine one_ (i := 1) (N := some 66) #[true, true, true, false, false, false] rfl rfl (by kernel_rfl) (by decide) (fun K hK => ?_); refine gA Try.func52 #[.slice A0 l0.length c0] ?_; (with_reducible refine (laws_toOrderLineS.calls kj39 _ _ l0 t295 _ ?side1 ?side2 A51.out).mono ?_)
                    (case side1 => repeat (first | exact (Kd.C_below HR0.out HB.out) | (with_reducible refine Kd.C_alloc ?_ _) | (with_reducible refine Kd.C_drewN ?_ _) | (with_reducible refine Kd.C_drew ?_)))
                    (case side2 => exact HC0.out)
                    rintro e w56 ⟨v296, rfl, ho0, hb⟩; refine ⟨_, rfl, ?_⟩; have HO297 := Aside0.mk (Kd.R_lower (Kd.R_new' (Kd.R_new' ho0 (Kd.R_lt (rs HO_6))) (Kd.R_lt (rs HO_8))) (below_size (bs HB))); replace HO_6 := Aside0.mk (Kd.R_elder' (rs HO_6) (Kd.R_base ho0) hb); replace HO_8 := Aside0.mk (Kd.R_elder' (rs HO_8) (Kd.R_base ho0) hb); replace BK253 := Aside0.mk (blk_below (ks BK253) hb); replace HB := Aside0.mk (below_step (bs HB) hb); (try clear hb); (try clear hb2); (try clear hk); (try clear hi); (try clear ho0); refine hK.out _ _ ⟨(blk_cell BK253.out 0).trans rfl, (blk_cell BK253.out 1).trans rfl, (blk_cell BK253.out 2).trans rfl, (blk_cell BK253.out 3).trans rfl, (blk_cell BK253.out 4).trans rfl, (blk_cell BK253.out 5).trans rfl, (blk_cell BK253.out 6).trans rfl, (blk_cell BK253.out 7).trans rfl⟩ (fun hHeld => ?_); clear hK K; refine nA 66 ?_; refine one_ (i := 3) (N := some 68) #[true, true, true, true, false, false] rfl rfl (by kernel_rfl) (by decide) (fun K hK => ?_); refine gA Try.func53 #[.agg #[.string a1_0, .string a1_1, .int .i64 a1_2, .string a1_3, .int .i64 a1_4, .int .i64 a1_5, .int .i64 a1_6, .int .i64 a1_7]] ?_; (with_reducible refine (laws_toOrderLine.calls a1_0 a1_1 a1_2 a1_3 a1_4 a1_5 a1_6 a1_7 t298 t299 t300 t301 t302 t303 t304 t305 _ A52.out).mono ?_); rintro e w57 ⟨rfl, hb⟩; refine ⟨_, rfl, ?_⟩; replace HO_6 := Aside0.mk (Kd.R_below (rs HO_6) hb); replace HO_8 := Aside0.mk (Kd.R_below (rs HO_8) hb); replace HO297 := Aside0.mk (Kd.R_below (rs HO297) hb); replace BK253 := Aside0.mk (blk_below (ks BK253) hb); replace HB := Aside0.mk (below_step (bs HB) hb); (try clear hb); (try clear hb2); (try clear hk); (try clear hi); obtain ⟨Ao58, co58, eo58⟩ := Kd.R_slice HO297.out
                    (first | subst eo58 | (injection eo58 with f1_ f2_ f3_; have f4_ := f1_.symm; have f5_ := f3_.symm; clear f1_ f2_ f3_; subst f4_; subst f5_))
                    refine hK.out _ _ ⟨(blk_cell BK253.out 0).trans rfl, (blk_cell BK253.out 1).trans rfl, (blk_cell BK253.out 2).trans rfl, (blk_cell BK253.out 3).trans rfl, (blk_cell BK253.out 4).trans rfl, (blk_cell BK253.out 5).trans rfl, (blk_cell BK253.out 6).trans rfl, (blk_cell BK253.out 7).trans rfl⟩ (fun hHeld => ?_); clear hK K; refine nA 68 ?_; refine one_ (i := 4) (N := some 69) #[true, true, true, true, true, false] rfl rfl (by kernel_rfl) (by decide) (fun K hK => ?_); refine gA Try.func33 #[.slice Ao58 t295.length co58, .agg #[.string t298, .string t299, .int .i64 t300, .string t301, .int .i64 t302, .int .i64 t303, .int .i64 t304, .int .i64 t305]] ?_; (with_reducible refine (impl_LinesAdd.calls kj39 _ _ t295 t298 t299 t300 t301 t302 t303 t304 t305 t306 _ ?side1 ?side2 A53.out).mono ?_)
                    (case side1 => repeat (first | exact (Kd.R_reads' HO297.out).2.2 | (with_reducible refine Kd.C_alloc ?_ _) | (with_reducible refine Kd.C_drewN ?_ _) | (with_reducible refine Kd.C_drew ?_)))
                    (case side2 => exact (Kd.R_reads' HO297.out).2.1)
                    rintro e w59 ⟨v307, rfl, ho0, hb⟩; refine ⟨_, rfl, ?_⟩; have HO308 := Aside0.mk (Kd.R_lower (Kd.R_new' (Kd.R_new' (Kd.R_new' ho0 (Kd.R_lt (rs HO_6))) (Kd.R_lt (rs HO_8))) (Kd.R_lt (rs HO297))) (below_size (bs HB))); replace HO_6 := Aside0.mk (Kd.R_elder' (rs HO_6) (Kd.R_base ho0) hb); replace HO_8 := Aside0.mk (Kd.R_elder' (rs HO_8) (Kd.R_base ho0) hb); replace HO297 := Aside0.mk (Kd.R_elder' (rs HO297) (Kd.R_base ho0) hb); replace BK253 := Aside0.mk (blk_below (ks BK253) hb); replace HB := Aside0.mk (below_step (bs HB) hb); (try clear hb); (try clear hb2); (try clear hk); (try clear hi); (try clear ho0); refine hK.out _ _ ⟨(blk_cell BK253.out 0).trans rfl, (blk_cell BK253.out 1).trans rfl, (blk_cell BK253.out 2).trans rfl, (blk_cell BK253.out 3).trans rfl, (blk_cell BK253.out 4).trans rfl, (blk_cell BK253.out 5).trans rfl, (blk_cell BK253.out 6).trans rfl, (blk_cell BK253.out 7).trans rfl⟩ (fun hHeld => ?_); clear hK K; refine nA 69 ?_; refine pure_ (i := 5) (N := some 12) (v := ?_) (a' := ?_) #[true, true, true, true, true, true] rfl rfl (by kernel_rfl) (fun _ _ _ h => h) (Or.inl ⟨by rfl, ?_⟩) ?_ ?_
                    rotate_left
                    · intro w'
                      go_simp
                      (with_reducible rfl)
                    rotate_left
                    · simp only [Act.put, List.setIfInBounds_toArray, List.set_cons_zero, List.set_cons_succ, i64_w, i32_w]
                      rfl
                    refine done_ (by kernel_rfl) ?_; obtain ⟨Ao60, co60, eo60⟩ := Kd.R_slice HO308.out; subst eo60
                    try go_wp2_with (fail)
                    go_at_call 54; (with_reducible refine (laws_eqOrderLineS.calls kj39 _ _ t306 _ _ t267 t309 _ ?side1 ?side2 ?side3 ?side4 A54.out).mono ?_); (case side1 => repeat (first | exact (Kd.R_reads' HO308.out).2.2 | (with_reducible refine Kd.C_alloc ?_ _) | (with_reducible refine Kd.C_drewN ?_ _) | (with_reducible refine Kd.C_drew ?_))); (case side2 => exact (Kd.R_reads' HO308.out).2.1); (case side3 => repeat (first | exact (Kd.R_reads' HO_6.out).2.2 | (with_reducible refine Kd.C_alloc ?_ _) | (with_reducible refine Kd.C_drewN ?_ _) | (with_reducible refine Kd.C_drew ?_))); (case side4 => exact (Kd.R_reads' HO_6.out).2.1); rintro e w61 ⟨rfl, hb⟩; replace HO_6 := Aside0.mk (Kd.R_below (rs HO_6) hb); replace HO_8 := Aside0.mk (Kd.R_below (rs HO_8) hb); replace HO297 := Aside0.mk (Kd.R_below (rs HO297) hb); replace HO308 := Aside0.mk (Kd.R_below (rs HO308) hb); replace BK253 := Aside0.mk (blk_below (ks BK253) hb); replace HB := Aside0.mk (below_step (bs HB) hb); (try clear hb); (try clear hb2); (try clear hk); (try clear hi)
                    by_cases c62 : t309 = true
                    · subst c62
                      have H1 : ((laws_heldOrderLineS.f kj39 t293 1).bind fun t310 => (if t310 < 0 then (some false) else (if t310 = t292 then (some true) else (some false)))) = some r := by rw [if_pos rfl] at H; exact H
                      clear H; have H := H1; clear H1; replace H := Option.bind_eq_some_iff.mp H; obtain ⟨t310, A630, H⟩ := H; replace H : (if t310 < 0 then (some false) else (if t310 = t292 then (some true) else (some false))) = some r := H; have A63 := Aside0.mk A630; clear A630
                      try go_wp2_with (fail)
                      go_at_call 56; refine calls_of_args (args' := #[.slice Ao28 t293.length co28, .int .i64 1]) (by first | (rw [show t293.length = t281.length from (Kd.R_reads' HO_8.out).1.symm] <;> rfl) | rfl) ?_; (with_reducible refine (laws_heldOrderLineS.calls kj39 _ _ t293 1 t310 _ ?side1 ?side2 A63.out).mono ?_); (case side1 => repeat (first | exact (Kd.R_reads' HO_8.out).2.2 | (with_reducible refine Kd.C_alloc ?_ _) | (with_reducible refine Kd.C_drewN ?_ _) | (with_reducible refine Kd.C_drew ?_))); (case side2 => rw [show t293.length = t281.length from (Kd.R_reads' HO_8.out).1.symm]; exact (Kd.R_reads' HO_8.out).2.1); rintro e w64 ⟨rfl, hb⟩; replace HO_6 := Aside0.mk (Kd.R_below (rs HO_6) hb); replace HO_8 := Aside0.mk (Kd.R_below (rs HO_8) hb); replace HO297 := Aside0.mk (Kd.R_below (rs HO297) hb); replace HO308 := Aside0.mk (Kd.R_below (rs HO308) hb); replace BK253 := Aside0.mk (blk_below (ks BK253) hb); replace HB := Aside0.mk (below_step (bs HB) hb); (try clear hb); (try clear hb2); (try clear hk); (try clear hi)
                      by_cases c65 : t310 < 0
                      · rw [if_pos c65] at H; have c65b0 : decide (t310 < 0) = true := decide_eq_true c65; clear c65; obtain rfl := Option.some.inj H
                        go_wp2
                        go_ret
                        exact ⟨ff, bs HB⟩
                      · rw [if_neg c65] at H; have c65b0 : decide (t310 < 0) = false := decide_eq_false c65; clear c65
                        by_cases c66 : t310 = t292
                        · rw [if_pos c66] at H; have c66b0 : (t310 == t292) = true := beq_iff_eq.mpr c66; have c66b1 : (t310 != t292) = false := bne_eq_false_iff_eq.mpr c66; clear c66; obtain rfl := Option.some.inj H
                          go_wp2
                          go_ret
                          exact ⟨ff, bs HB⟩
                        · rw [if_neg c66] at H; have c66b0 : (t310 == t292) = false := beq_eq_false_iff_ne.mpr c66; have c66b1 : (t310 != t292) = true := bne_iff_ne.mpr c66; obtain rfl := Option.some.inj H
                          go_wp2
                          go_ret
                          exact ⟨ff, bs HB⟩
                    · replace c62 := Bool.eq_false_iff.mpr c62; subst c62
                      have H1 : (some false) = some r := by rw [if_neg (show ¬ (false = true) by decide)] at H; exact H
                      clear H; have H := H1; clear H1; obtain rfl := Option.some.inj H
                      go_wp2
                      go_ret
                      exact ⟨ff, bs HB⟩
                  · rw [if_neg c50] at H; have c50b0 : (t294 == t292) = false := beq_eq_false_iff_ne.mpr c50; have c50b1 : (t294 != t292) = true := bne_iff_ne.mpr c50; obtain rfl := Option.some.inj H
                    go_wp2
                    go_ret
                    exact ⟨ff, bs HB⟩
        · replace c37 := Bool.eq_false_iff.mpr c37; subst c37
          have H1 : (some false) = some r := by rw [if_neg (show ¬ (false = true) by decide)] at H; exact H
          clear H; have H := H1; clear H1; obtain rfl := Option.some.inj H
          go_wp2
          go_ret
          exact ⟨ff, bs HB⟩
      · replace c31 := Bool.eq_false_iff.mpr c31; subst c31
        have H1 : (some false) = some r := by rw [if_neg (show ¬ (false = true) by decide)] at H; exact H
        clear H; have H := H1; clear H1; obtain rfl := Option.some.inj H
        go_wp2
        go_ret
        exact ⟨ff, bs HB⟩
end Go.Proofs.Ytefmkmhjbfpelaa.QL
namespace Go.Proofs.Ytefmkmhjbfpelaa.Rd
open Go.RowKit Go.ChangeShapes Go.WideShapes Go.Proofs.YtefmkmhjbfpelaaW.PrintWords
def Rd (P : Program) (t : TypeId) {α : Type} (d : Kd α) (wf : α → Prop) : Prop :=
  ∀ (H : Type) (enc : TypeId × Value → H) (w : World) (base : Nat) (sp : Nat → Bool) (held : Bool) (fuel : Nat) (cs : List Value) (x : DataW H × List MemPlace),
    DataW.trod enc P w base sp held fuel t cs = some x → ∃ a : α, d.K w a cs ∧ wf a
def RdF (P : Program) (fs : List Field) (off : Nat) {α : Type} (d : Kd α) (wf : α → Prop) : Prop :=
  ∀ (H : Type) (enc : TypeId × Value → H) (w : World) (base : Nat) (sp : Nat → Bool) (held : Bool) (n : Nat) (cs : List Value),
    cs.length = off + d.sz → (∀ f ∈ fs, ∃ y, DataW.trod enc P w base sp held n f.type ((cs.drop f.offset).take (P.cellsOf f.type)) = some y) → ∃ a : α, d.K w a (cs.drop off) ∧ wf a
def WfInt (k : IntKind) (n : Int) : Prop := (Lit.int k n).wf = true
def WfStr (s : ByteArray) : Prop := s.size ≤ maxLen
def WfRow {α : Type} (wf : α → Prop) (l : List α) : Prop := l.length ≤ maxLen ∧ ∀ x ∈ l, wf x
theorem rd_int {P : Program} {t : TypeId} {k : IntKind} (hu : P.underlying t = some (.int k)) : Rd P t (Kd.int k) (WfInt k) := by
  intro H enc w base sp held fuel cs x h
  cases fuel with
  | zero => simp [DataW.trod] at h
  | succ n =>
    match cs with
    | [.int k' m] =>
      simp only [DataW.trod, hu] at h
      split at h
      · rename_i hk
        obtain ⟨rfl, hw⟩ := hk
        exact ⟨m, rfl, hw⟩
      · cases h
    | [] => simp [DataW.trod, hu] at h
    | [.bool _] => simp [DataW.trod, hu] at h
    | [.float _ _] => simp [DataW.trod, hu] at h
    | [.complex _ _ _] => simp [DataW.trod, hu] at h
    | [.string _] => simp [DataW.trod, hu] at h
    | [.pointer _] => simp [DataW.trod, hu] at h
    | [.slice _ _ _] => simp [DataW.trod, hu] at h
    | [.map _] => simp [DataW.trod, hu] at h
    | [.chan _] => simp [DataW.trod, hu] at h
    | [.func _ _ _] => simp [DataW.trod, hu] at h
    | [.nilFunc] => simp [DataW.trod, hu] at h
    | [.iface _ _] => simp [DataW.trod, hu] at h
    | [.nilIface] => simp [DataW.trod, hu] at h
    | [.agg _] => simp [DataW.trod, hu] at h
    | [.tuple _] => simp [DataW.trod, hu] at h
    | _ :: _ :: _ => simp [DataW.trod, hu] at h
theorem rd_str {P : Program} {t : TypeId} (hu : P.underlying t = some .string) : Rd P t Kd.string WfStr := by
  intro H enc w base sp held fuel cs x h
  cases fuel with
  | zero => simp [DataW.trod] at h
  | succ n =>
    match cs with
    | [.string s] =>
      simp only [DataW.trod, hu] at h
      split at h
      · rename_i hk
        exact ⟨s, rfl, hk⟩
      · cases h
    | [] => simp [DataW.trod, hu] at h
    | [.int _ _] => simp [DataW.trod, hu] at h
    | [.bool _] => simp [DataW.trod, hu] at h
    | [.float _ _] => simp [DataW.trod, hu] at h
    | [.complex _ _ _] => simp [DataW.trod, hu] at h
    | [.pointer _] => simp [DataW.trod, hu] at h
    | [.slice _ _ _] => simp [DataW.trod, hu] at h
    | [.map _] => simp [DataW.trod, hu] at h
    | [.chan _] => simp [DataW.trod, hu] at h
    | [.func _ _ _] => simp [DataW.trod, hu] at h
    | [.nilFunc] => simp [DataW.trod, hu] at h
    | [.iface _ _] => simp [DataW.trod, hu] at h
    | [.nilIface] => simp [DataW.trod, hu] at h
    | [.agg _] => simp [DataW.trod, hu] at h
    | [.tuple _] => simp [DataW.trod, hu] at h
    | _ :: _ :: _ => simp [DataW.trod, hu] at h
theorem rdF_last {P : Program} {f : Field} {off : Nat} {α : Type} {d : Kd α} {wf : α → Prop} (h : Rd P f.type d wf) (ho : f.offset = off) (hc : P.cellsOf f.type = d.sz) : RdF P [f] off d wf := by
  intro H enc w base sp held n cs hl hy
  obtain ⟨y, hy⟩ := hy f (List.mem_singleton.2 rfl)
  rw [ho, hc, List.take_of_length_le (by rw [List.length_drop]; omega)] at hy
  exact h H enc w base sp held n _ y hy
theorem rdF_cons {P : Program} {f : Field} {fs : List Field} {off off2 : Nat} {α β : Type} {d : Kd α} {e : Kd β} {wf : α → Prop} {wg : β → Prop} (h : Rd P f.type d wf) (ho : f.offset = off) (hc : P.cellsOf f.type = d.sz)
    (h2 : off2 = off + d.sz) (hs : RdF P fs off2 e wg) : RdF P (f :: fs) off (Kd.pair d e) (fun x => wf x.1 ∧ wg x.2) := by
  intro H enc w base sp held n cs hl hy
  obtain ⟨y, hy1⟩ := hy f (List.mem_cons_self ..)
  have hl' : cs.length = off + (d.sz + e.sz) := hl
  obtain ⟨a, ha, hwa⟩ := h H enc w base sp held n _ y hy1
  obtain ⟨b, hb, hwb⟩ := hs H enc w base sp held n cs (by omega) (fun g hg => hy g (List.mem_cons_of_mem _ hg))
  rw [ho, hc] at ha
  refine ⟨(a, b), ⟨_, _, ?_, ha, hb⟩, hwa, hwb⟩
  rw [h2, ← List.drop_drop, List.take_append_drop]
theorem rd_struct {P : Program} {t : TypeId} {fs : Array Field} {α β : Type} {d : Kd α} {wf : α → Prop} {wg : β → Prop} (g : β → α) (gi : α → β) (hg : ∀ a, g (gi a) = a) (hwg : ∀ a, wf a → wg (gi a))
    (hu : P.underlying t = some (.struct fs)) (hc : P.cellsOf t = d.sz) (hF : RdF P fs.toList 0 d wf) : Rd P t (Kd.iso d g) wg := by
  intro H enc w base sp held fuel cs x h
  obtain ⟨xs, n, _, rfl, hl, hlen, hf⟩ := DataW.trod_struct hu h
  obtain ⟨a, ha, hwa⟩ := hF H enc w base sp held n cs (by omega) (fun f hfm => by
    obtain ⟨i, hi, rfl⟩ := List.mem_iff_getElem.1 hfm
    have hi' : i < fs.size := by simpa using hi
    have z := hf i (fs[i]) (by simp [hi'])
    rw [List.getElem?_eq_getElem (by omega)] at z
    exact ⟨_, by simpa using z⟩)
  refine ⟨gi a, ?_, hwg a hwa⟩
  show d.K w (g (gi a)) cs
  rw [hg]
  simpa using ha
theorem rd_slice {P : Program} {t e : TypeId} {α : Type} {d : Kd α} {wf : α → Prop} (hu : P.underlying t = some (.slice e)) (hc : P.cellsOf e = d.sz) (hd : Rd P e d wf) : Rd P t (Kd.slice e d) (WfRow wf) := by
  intro H enc w base sp held fuel cs x h
  rcases Go.Deep.open_slice hu h with ⟨rfl, _⟩ | ⟨a, len, cap, m, n, D, Pl, rfl, hb, hl, hm, hmm, _, hx⟩
  · exact ⟨[], ⟨none, 0, rfl, Nat.le_refl _, rfl, by simp, fun h => absurd h (by simp)⟩, by simp [maxLen], by simp⟩
  · have hlm : len ≤ m := by rw [hmm]; split <;> omega
    have hall : ∀ i, i < len → ∃ cs', w.cells? base (a.add (i * P.cellsOf e)) (P.cellsOf e) = some cs' ∧ DataW.trod enc P w base sp held n e cs' = some (D i, Pl i) := fun i hi => hx i (by omega)
    have key : ∀ (k : Nat), k ≤ len → ∃ l : List α, l.length = k ∧ (∀ x ∈ l, wf x) ∧ ∀ j p, l[j]? = some p → ∃ c, c.length = d.sz ∧ d.K w p c ∧ ∀ i u, c[i]? = some u → w.cell? (a.add (j * d.sz + i)) = some u := by
      intro k
      induction k with
      | zero => intro _; exact ⟨[], rfl, by simp, by simp⟩
      | succ k ih =>
        intro hk
        obtain ⟨l, hl1, hl2, hl3⟩ := ih (by omega)
        obtain ⟨cs', h1, h2⟩ := hall k (by omega)
        obtain ⟨b, hb1, hb2⟩ := hd H enc w base sp held n cs' _ h2
        refine ⟨l ++ [b], by simp [hl1], ?_, ?_⟩
        · intro z hz
          rcases List.mem_append.1 hz with hz | hz
          · exact hl2 z hz
          · rw [List.mem_singleton.1 hz]; exact hb2
        · intro j p hj
          by_cases hjl : j < l.length
          · rw [List.getElem?_append_left hjl] at hj
            exact hl3 j p hj
          · rw [List.getElem?_append_right (by omega)] at hj
            have hj0 : j - l.length = 0 := by
              cases hz : j - l.length with
              | zero => rfl
              | succ q => rw [hz] at hj; simp at hj
            rw [hj0] at hj
            obtain rfl : b = p := by simpa using hj
            have hjk : j = k := by omega
            subst hjk
            refine ⟨cs', d.K_len hb1, hb1, fun i u hu' => ?_⟩
            obtain ⟨_, hlen', hcell⟩ := World.cells?_some h1
            have hi : i < cs'.length := by
              rcases Nat.lt_or_ge i cs'.length with h | h
              · exact h
              · rw [List.getElem?_eq_none h] at hu'; cases hu'
            have z := hcell i (by omega)
            rw [hu', Go.Deep.add_add, hc] at z
            exact z
    obtain ⟨l, hl1, hl2, hl3⟩ := key len (Nat.le_refl _)
    refine ⟨l, ⟨some a, cap, by rw [hl1], by omega, ?_⟩, by rw [hl1]; exact Nat.le_trans hl hm, hl2⟩
    exact ⟨rfl, by rw [hl1]; have : cap ≤ 2 ^ 63 - 1 := hm; omega, fun _ => ⟨a, rfl, hl3⟩⟩
end Go.Proofs.Ytefmkmhjbfpelaa.Rd
namespace Go.Proofs.Ytefmkmhjbfpelaa.QL
open Go.RowKit Go.Proofs.Ytefmkmhjbfpelaa Go.Proofs.YtefmkmhjbfpelaaW.PrintWords
def wf74 (x : S74) : Prop := Rd.WfStr x.f0 ∧ Rd.WfStr x.f1 ∧ (Rd.WfInt .i64) x.f2 ∧ Rd.WfStr x.f3 ∧ (Rd.WfInt .i64) x.f4 ∧ (Rd.WfInt .i64) x.f5 ∧ (Rd.WfInt .i64) x.f6 ∧ (Rd.WfInt .i64) x.f7
set_option maxRecDepth 100000 in
theorem rd74 : Rd.Rd Try.prog 74 k74 wf74 := Rd.rd_struct _ (fun a => ⟨a.1, a.2.1, a.2.2.1, a.2.2.2.1, a.2.2.2.2.1, a.2.2.2.2.2.1, a.2.2.2.2.2.2.1, a.2.2.2.2.2.2.2⟩) (fun _ => rfl) (fun _ h => h) Try.underlying74 (by kernel_rfl) (Rd.rdF_cons (Rd.rd_str (Try.underlying9)) rfl (by kernel_rfl) (off2 := 1) rfl (Rd.rdF_cons (Rd.rd_str (Try.underlying9)) rfl (by kernel_rfl) (off2 := 2) rfl (Rd.rdF_cons (Rd.rd_int (Try.underlying2)) rfl (by kernel_rfl) (off2 := 3) rfl (Rd.rdF_cons (Rd.rd_str (Try.underlying9)) rfl (by kernel_rfl) (off2 := 4) rfl (Rd.rdF_cons (Rd.rd_int (Try.underlying2)) rfl (by kernel_rfl) (off2 := 5) rfl (Rd.rdF_cons (Rd.rd_int (Try.underlying2)) rfl (by kernel_rfl) (off2 := 6) rfl (Rd.rdF_cons (Rd.rd_int (Try.underlying2)) rfl (by kernel_rfl) (off2 := 7) rfl (Rd.rdF_last (Rd.rd_int (Try.underlying2)) rfl (by kernel_rfl)))))))))
end Go.Proofs.Ytefmkmhjbfpelaa.QL
namespace Go.Proofs.Ytefmkmhjbfpelaa.QL
open Go.Proofs.Ytefmkmhjbfpelaa Go.Proofs.YtefmkmhjbfpelaaW.PrintWords
def laws_FnExactLinesAdd.Pure : Prop := ∀ (l0 : List (S74)) (a1_0 : ByteArray) (a1_1 : ByteArray) (a1_2 : Int) (a1_3 : ByteArray) (a1_4 : Int) (a1_5 : Int) (a1_6 : Int) (a1_7 : Int), (Rd.WfRow wf74) l0 → Rd.WfStr a1_0 → Rd.WfStr a1_1 → (Rd.WfInt .i64) a1_2 → Rd.WfStr a1_3 → (Rd.WfInt .i64) a1_4 → (Rd.WfInt .i64) a1_5 → (Rd.WfInt .i64) a1_6 → (Rd.WfInt .i64) a1_7 → ∃ k, laws_FnExactLinesAdd.f k l0 a1_0 a1_1 a1_2 a1_3 a1_4 a1_5 a1_6 a1_7 = some true
end Go.Proofs.Ytefmkmhjbfpelaa.QL
namespace Go.Proofs.Ytefmkmhjbfpelaa.Ev0
open Go.RowKit Go.Proofs.YtefmkmhjbfpelaaW.PrintWords
def Evt {α : Type} (f : Nat → Option α) (r : α) : Prop := ∃ K, ∀ k, K ≤ k → f k = some r
namespace Evt
variable {α β : Type}
theorem const {o : Option α} {r : α} (h : o = some r) : Evt (fun _ => o) r := ⟨0, fun _ _ => h⟩
theorem pure (r : α) : Evt (fun _ => some r) r := ⟨0, fun _ _ => rfl⟩
theorem bind {f : Nat → Option α} {g : Nat → α → Option β} {a : α} {r : β} (h : Evt f a) (h2 : Evt (fun k => g k a) r) : Evt (fun k => (f k).bind (g k)) r := by
  obtain ⟨K, hK⟩ := h
  obtain ⟨L, hL⟩ := h2
  refine ⟨K + L, fun k hk => ?_⟩
  show (f k).bind (g k) = some r
  rw [hK k (by omega)]
  exact hL k (by omega)
theorem succ {f : Nat → Option α} {r : α} (h : Evt (fun k => f (k + 1)) r) : Evt f r := by
  obtain ⟨K, hK⟩ := h
  refine ⟨K + 1, fun k hk => ?_⟩
  obtain ⟨m, rfl⟩ : ∃ m, k = m + 1 := ⟨k - 1, by omega⟩
  exact hK m (by omega)
theorem pos {c : Prop} [Decidable c] {f g : Nat → Option α} {r : α} (hc : c) (h : Evt f r) : Evt (fun k => if c then f k else g k) r := by
  simpa only [if_pos hc] using h
theorem neg {c : Prop} [Decidable c] {f g : Nat → Option α} {r : α} (hc : ¬ c) (h : Evt g r) : Evt (fun k => if c then f k else g k) r := by
  simpa only [if_neg hc] using h
theorem ite {c : Prop} [Decidable c] {f g : Nat → Option α} {r : α} (h1 : c → Evt f r) (h2 : ¬ c → Evt g r) : Evt (fun k => if c then f k else g k) r := by
  by_cases hc : c
  · exact pos hc (h1 hc)
  · exact neg hc (h2 hc)
theorem ex {f : Nat → Option α} {r : α} (h : Evt f r) : ∃ k, f k = some r := by
  obtain ⟨K, hK⟩ := h
  exact ⟨K, hK K (Nat.le_refl _)⟩
theorem same {f : Nat → Option α} {r r' : α} (h : Evt f r) (e : r = r') : Evt f r' := e ▸ h
end Evt
theorem w64 {x : Int} (h0 : -9223372036854775808 ≤ x) (h1 : x ≤ 9223372036854775807) : wrap64 x = x := by
  unfold wrap64
  omega
noncomputable def B (p : Prop) : Bool := @decide p (Classical.propDecidable p)
theorem B_true {p : Prop} (h : p) : B p = true := by unfold B; exact @decide_eq_true p (Classical.propDecidable p) h
theorem B_false {p : Prop} (h : ¬ p) : B p = false := by unfold B; exact @decide_eq_false p (Classical.propDecidable p) h
theorem B_iff {p : Prop} : B p = true ↔ p := by unfold B; exact @decide_eq_true_iff p (Classical.propDecidable p)
theorem B_iff_false {p : Prop} : B p = false ↔ ¬ p := by unfold B; exact @decide_eq_false_iff_not p (Classical.propDecidable p)
theorem B_congr {p q : Prop} (h : p ↔ q) : B p = B q := by rw [propext h]
theorem decide_B (p : Prop) [Decidable p] : decide p = B p := by
  by_cases h : p
  · rw [decide_eq_true h, B_true h]
  · rw [decide_eq_false h, B_false h]
theorem and_ {c p q : Prop} [Decidable c] {f : Nat → Option Bool} (hc : c ↔ p) (h : p → Evt f (B q)) : Evt (fun k => if c then f k else some false) (B (p ∧ q)) := by
  by_cases e : c
  · exact Evt.pos e ((h (hc.1 e)).same (B_congr ⟨fun x => ⟨hc.1 e, x⟩, fun x => x.2⟩))
  · exact Evt.neg e ((Evt.pure false).same (B_false (fun x => e (hc.2 x.1))).symm)
theorem last_ {p q : Prop} [Decidable p] (h : p ↔ q) : Evt (fun _ => some (decide p)) (B q) := (Evt.pure _).same ((decide_B p).trans (B_congr h))
theorem lastB_ {p q : Prop} (h : p ↔ q) : Evt (fun _ => some (B p)) (B q) := (Evt.pure _).same (B_congr h)
end Go.Proofs.Ytefmkmhjbfpelaa.Ev0
