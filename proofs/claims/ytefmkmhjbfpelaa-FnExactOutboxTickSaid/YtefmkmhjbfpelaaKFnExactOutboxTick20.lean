-- Merged by a program of this session (wip/tool/pack.py) out of its own texts for this claim.
import Derived.Test.YtefmkmhjbfpelaaKFnExactOutboxTick0
import Derived.Test.YtefmkmhjbfpelaaKFnExactOutboxTick1
import Derived.Test.YtefmkmhjbfpelaaKFnExactOutboxTick2
import Derived.Test.YtefmkmhjbfpelaaKFnExactOutboxTick3
import Derived.Test.YtefmkmhjbfpelaaKFnExactOutboxTick7
import Derived.Test.YtefmkmhjbfpelaaKFnExactOutboxTick12
import Derived.Test.YtefmkmhjbfpelaaKFnExactOutboxTick13
import Derived.Test.YtefmkmhjbfpelaaKFnExactOutboxTick15
import Derived.Test.YtefmkmhjbfpelaaKFnExactOutboxTick16
import Derived.Test.YtefmkmhjbfpelaaKFnExactOutboxTick17
import Derived.Test.YtefmkmhjbfpelaaKFnExactOutboxTick19
namespace Go.Proofs.Ytefmkmhjbfpelaa.QK
open Go.RowKit Go.Proofs.YtefmkmhjbfpelaaW.PrintWords Go.Proofs.YtefmkmhjbfpelaaW.PrintLast Go.Proofs.YtefmkmhjbfpelaaW.PrintMore
attribute [local go_sem] max2_int min2_int max_two min_two max_three min_three max_four min_four   -- for this text's walks alone
set_option linter.unusedVariables false
set_option linter.unusedSimpArgs false
set_option maxHeartbeats 8000000 in
set_option maxRecDepth 100000 in
theorem laws_FnExactOutboxTick.calls (k : Nat) (A0 : Option Addr) (c0 : Nat) (l0 : List (S82)) (a1 : Int) (r : Bool) (w : World) (hr0 : Kd.C k82 w A0 l0.length l0) (hc0 : l0.length ≤ c0) (h : laws_FnExactOutboxTick.f k l0 a1 = some r) :
    Calls Try.prog 8 #[.slice A0 l0.length c0, .int .i64 a1] w fun e w' => e = .returned (.bool r) ∧ Below w.heap.size w w' := by
  have hu34 := Try.underlying34
  have HR0 := Aside0.mk hr0
  have HC0 := Aside0.mk hc0
  clear hr0 hc0
  have HB := Aside0.mk (Below.refl w.heap.size w)
  have H : ((laws_szOutS.f k l0 1048576).bind fun t277 => (if t277 < 0 then (some true) else ((laws_toOutS.f k l0).bind fun t278 => ((spec_OutboxTick.f k t278 a1).bind fun bt281 => ((laws_toOutS.f k l0).bind fun t292 => ((impl_OutboxTick.f k t292 a1).bind fun bt295 => ((laws_eqOutboxOut.f k bt295.1 bt295.2.1 bt295.2.2.1 bt295.2.2.2 bt281.1 bt281.2.1 bt281.2.2.1 bt281.2.2.2).bind fun t306 => (if t306 = true then ((laws_toOutS.f k l0).bind fun t307 => ((laws_eqOutS.f k t292 t307).bind fun t310 => (if t310 = true then ((laws_markOutS.f k t292 1).bind fun bt311 => (if bt311.1 < 0 then (laws_FnExactOutboxTick.j0 k l0 a1 true bt281.1 bt281.2.1 bt281.2.2.1 bt281.2.2.2 bt295.1 bt295.2.1 bt295.2.2.1 bt295.2.2.2) else ((laws_eqOutboxOut.f k bt295.1 bt295.2.1 bt295.2.2.1 bt295.2.2.2 bt281.1 bt281.2.1 bt281.2.2.1 bt281.2.2.2).bind fun t313 => (laws_FnExactOutboxTick.j0 k l0 a1 (!t313) bt281.1 bt281.2.1 bt281.2.2.1 bt281.2.2.2 bt295.1 bt295.2.1 bt295.2.2.1 bt295.2.2.2)))) else (some false)))) else (some false))))))))) = some r := h
  clear h
  replace H := Option.bind_eq_some_iff.mp H
  obtain ⟨t277, A30, H⟩ := H
  replace H : (if t277 < 0 then (some true) else ((laws_toOutS.f k l0).bind fun t278 => ((spec_OutboxTick.f k t278 a1).bind fun bt281 => ((laws_toOutS.f k l0).bind fun t292 => ((impl_OutboxTick.f k t292 a1).bind fun bt295 => ((laws_eqOutboxOut.f k bt295.1 bt295.2.1 bt295.2.2.1 bt295.2.2.2 bt281.1 bt281.2.1 bt281.2.2.1 bt281.2.2.2).bind fun t306 => (if t306 = true then ((laws_toOutS.f k l0).bind fun t307 => ((laws_eqOutS.f k t292 t307).bind fun t310 => (if t310 = true then ((laws_markOutS.f k t292 1).bind fun bt311 => (if bt311.1 < 0 then (laws_FnExactOutboxTick.j0 k l0 a1 true bt281.1 bt281.2.1 bt281.2.2.1 bt281.2.2.2 bt295.1 bt295.2.1 bt295.2.2.1 bt295.2.2.2) else ((laws_eqOutboxOut.f k bt295.1 bt295.2.1 bt295.2.2.1 bt295.2.2.2 bt281.1 bt281.2.1 bt281.2.2.1 bt281.2.2.2).bind fun t313 => (laws_FnExactOutboxTick.j0 k l0 a1 (!t313) bt281.1 bt281.2.1 bt281.2.2.1 bt281.2.2.2 bt295.1 bt295.2.1 bt295.2.2.1 bt295.2.2.2)))) else (some false)))) else (some false)))))))) = some r := H
  have A3 := Aside0.mk A30
  clear A30
  go_enter Try.func8, Try.ntmps8
  try go_wp2_with (fail)
  go_at_call 37; (with_reducible refine (laws_szOutS.calls k _ _ l0 1048576 t277 _ ?side1 ?side2 A3.out).mono ?_); (case side1 => repeat (first | exact HR0.out | (with_reducible refine Kd.C_alloc ?_ _) | (with_reducible refine Kd.C_drewN ?_ _) | (with_reducible refine Kd.C_drew ?_))); (case side2 => exact HC0.out)
  rintro e w4 ⟨rfl, hb⟩
  have n0_ := Aside0.mk (below_step (by repeat (first | (with_reducible first | exact HB.out | apply below_alloc | apply pw_below_drewN | apply below_drew1) | exact HB.out)) hb)
  clear HB
  have HB := n0_
  clear n0_
  (try clear hb)
  (try clear hb2)
  (try clear hk)
  (try clear hi)
  by_cases c5 : t277 < 0
  · rw [if_pos c5] at H
    have c5b0 : decide (t277 < 0) = true := decide_eq_true c5
    clear c5
    obtain rfl := Option.some.inj H
    go_wp2
    go_ret
    exact ⟨by first | rfl | (simp [errW_none, errW_some] <;> rfl) | (simp [*, errW_none, errW_some] <;> rfl), by repeat (first | (with_reducible first | exact HB.out | apply below_alloc | apply pw_below_drewN | apply below_drew1) | exact HB.out)⟩
  · rw [if_neg c5] at H
    have c5b0 : decide (t277 < 0) = false := decide_eq_false c5
    clear c5
    replace H := Option.bind_eq_some_iff.mp H
    obtain ⟨t278, A60, H⟩ := H
    replace H : ((spec_OutboxTick.f k t278 a1).bind fun bt281 => ((laws_toOutS.f k l0).bind fun t292 => ((impl_OutboxTick.f k t292 a1).bind fun bt295 => ((laws_eqOutboxOut.f k bt295.1 bt295.2.1 bt295.2.2.1 bt295.2.2.2 bt281.1 bt281.2.1 bt281.2.2.1 bt281.2.2.2).bind fun t306 => (if t306 = true then ((laws_toOutS.f k l0).bind fun t307 => ((laws_eqOutS.f k t292 t307).bind fun t310 => (if t310 = true then ((laws_markOutS.f k t292 1).bind fun bt311 => (if bt311.1 < 0 then (laws_FnExactOutboxTick.j0 k l0 a1 true bt281.1 bt281.2.1 bt281.2.2.1 bt281.2.2.2 bt295.1 bt295.2.1 bt295.2.2.1 bt295.2.2.2) else ((laws_eqOutboxOut.f k bt295.1 bt295.2.1 bt295.2.2.1 bt295.2.2.2 bt281.1 bt281.2.1 bt281.2.2.1 bt281.2.2.2).bind fun t313 => (laws_FnExactOutboxTick.j0 k l0 a1 (!t313) bt281.1 bt281.2.1 bt281.2.2.1 bt281.2.2.2 bt295.1 bt295.2.1 bt295.2.2.1 bt295.2.2.2)))) else (some false)))) else (some false)))))) = some r := H
    have A6 := Aside0.mk A60
    clear A60
    try go_wp2_with (fail)
    go_at_call 38; (with_reducible refine (laws_toOutS.calls k _ _ l0 t278 _ ?side1 ?side2 A6.out).mono ?_); (case side1 => repeat (first | exact (Kd.C_below HR0.out HB.out) | (with_reducible refine Kd.C_alloc ?_ _) | (with_reducible refine Kd.C_drewN ?_ _) | (with_reducible refine Kd.C_drew ?_))); (case side2 => exact HC0.out)
    rintro e w7 ⟨v279, rfl, ho0, hb⟩
    have n0_ := Aside0.mk (Kd.R_lower ho0 (below_size (by repeat (first | (with_reducible first | exact HB.out | apply below_alloc | apply pw_below_drewN | apply below_drew1) | exact HB.out))))
    have n1_ := Aside0.mk (below_step (by repeat (first | (with_reducible first | exact HB.out | apply below_alloc | apply pw_below_drewN | apply below_drew1) | exact HB.out)) hb)
    clear HB
    have HO280 := n0_
    have HB := n1_
    clear n0_ n1_
    (try clear hb)
    (try clear hb2)
    (try clear hk)
    (try clear hi)
    (try clear ho0)
    replace H := Option.bind_eq_some_iff.mp H
    obtain ⟨⟨t281, t284, t287, t290⟩, A80, H⟩ := H
    replace H : ((laws_toOutS.f k l0).bind fun t292 => ((impl_OutboxTick.f k t292 a1).bind fun bt295 => ((laws_eqOutboxOut.f k bt295.1 bt295.2.1 bt295.2.2.1 bt295.2.2.2 t281 t284 t287 t290).bind fun t306 => (if t306 = true then ((laws_toOutS.f k l0).bind fun t307 => ((laws_eqOutS.f k t292 t307).bind fun t310 => (if t310 = true then ((laws_markOutS.f k t292 1).bind fun bt311 => (if bt311.1 < 0 then (laws_FnExactOutboxTick.j0 k l0 a1 true t281 t284 t287 t290 bt295.1 bt295.2.1 bt295.2.2.1 bt295.2.2.2) else ((laws_eqOutboxOut.f k bt295.1 bt295.2.1 bt295.2.2.1 bt295.2.2.2 t281 t284 t287 t290).bind fun t313 => (laws_FnExactOutboxTick.j0 k l0 a1 (!t313) t281 t284 t287 t290 bt295.1 bt295.2.1 bt295.2.2.1 bt295.2.2.2)))) else (some false)))) else (some false))))) = some r := H
    have A8 := Aside0.mk A80
    clear A80
    obtain ⟨Ao9, co9, eo9⟩ := Kd.R_slice HO280.out
    subst eo9
    try go_wp2_with (fail)
    go_at_call 19; (with_reducible refine (spec_OutboxTick.calls k _ _ t278 a1 t281 t284 t287 t290 _ ?side1 ?side2 A8.out).mono ?_); (case side1 => repeat (first | exact (Kd.R_reads' HO280.out).2.2 | (with_reducible refine Kd.C_alloc ?_ _) | (with_reducible refine Kd.C_drewN ?_ _) | (with_reducible refine Kd.C_drew ?_))); (case side2 => exact (Kd.R_reads' HO280.out).2.1)
    rintro e w10 ⟨v282, v285, v288, rfl, ho0, ho1, ho2, hb⟩
    have n0_ := Aside0.mk (Kd.R_mono (Kd.R_told (Kd.R_told (Kd.R_old (by (with_reducible repeat (first | apply Kd.R_alloc | apply Kd.R_drewN | apply Kd.R_drew)); exact HO280.out) hb) (Kd.R_base ho0)) (Kd.R_base ho2)) (fun _ h_ => h_.1))
    have n1_ := Aside0.mk (Kd.R_lower (Kd.R_new' ho0 (Kd.R_lt (by (with_reducible repeat (first | apply Kd.R_alloc | apply Kd.R_drewN | apply Kd.R_drew)); exact HO280.out))) (below_size (by repeat (first | (with_reducible first | exact HB.out | apply below_alloc | apply pw_below_drewN | apply below_drew1) | exact HB.out))))
    have n2_ := Aside0.mk (Kd.R_lower ho1 (below_size (by repeat (first | (with_reducible first | exact HB.out | apply below_alloc | apply pw_below_drewN | apply below_drew1) | exact HB.out))))
    have n3_ := Aside0.mk (Kd.R_lower (Kd.R_new' ho2 (Kd.R_lt (by (with_reducible repeat (first | apply Kd.R_alloc | apply Kd.R_drewN | apply Kd.R_drew)); exact HO280.out))) (below_size (by repeat (first | (with_reducible first | exact HB.out | apply below_alloc | apply pw_below_drewN | apply below_drew1) | exact HB.out))))
    have n4_ := Aside0.mk (below_step (by repeat (first | (with_reducible first | exact HB.out | apply below_alloc | apply pw_below_drewN | apply below_drew1) | exact HB.out)) hb)
    clear HO280
    clear HB
    have HO280 := n0_
    have HO283 := n1_
    have HO286 := n2_
    have HO289 := n3_
    have HB := n4_
    clear n0_ n1_ n2_ n3_ n4_
    (try clear hb)
    (try clear hb2)
    (try clear hk)
    (try clear hi)
    (try clear ho0)
    (try clear ho1)
    (try clear ho2)
    replace H := Option.bind_eq_some_iff.mp H
    obtain ⟨t292, A110, H⟩ := H
    replace H : ((impl_OutboxTick.f k t292 a1).bind fun bt295 => ((laws_eqOutboxOut.f k bt295.1 bt295.2.1 bt295.2.2.1 bt295.2.2.2 t281 t284 t287 t290).bind fun t306 => (if t306 = true then ((laws_toOutS.f k l0).bind fun t307 => ((laws_eqOutS.f k t292 t307).bind fun t310 => (if t310 = true then ((laws_markOutS.f k t292 1).bind fun bt311 => (if bt311.1 < 0 then (laws_FnExactOutboxTick.j0 k l0 a1 true t281 t284 t287 t290 bt295.1 bt295.2.1 bt295.2.2.1 bt295.2.2.2) else ((laws_eqOutboxOut.f k bt295.1 bt295.2.1 bt295.2.2.1 bt295.2.2.2 t281 t284 t287 t290).bind fun t313 => (laws_FnExactOutboxTick.j0 k l0 a1 (!t313) t281 t284 t287 t290 bt295.1 bt295.2.1 bt295.2.2.1 bt295.2.2.2)))) else (some false)))) else (some false)))) = some r := H
    have A11 := Aside0.mk A110
    clear A110
    try go_wp2_with (first | ((with_reducible refine gate_dst (N := 6) rfl ?_); refine box_event ?hg (N := 6) ?hd (cs := #[.slice none 0 0, .slice none 0 0, .slice none 0 0, .int .i64 0]) (t := 34) ?hr ?_; (case hd => rfl); (case hg => rfl); (case hr => first | (go_simp; done) | (go_simp; rfl)); intro gb291 hg w12 hbox hb; have n0_ := Aside0.mk (Kd.R_below (by (with_reducible repeat (first | apply Kd.R_alloc | apply Kd.R_drewN | apply Kd.R_drew)); exact HO280.out) hb); have n1_ := Aside0.mk (Kd.R_below (by (with_reducible repeat (first | apply Kd.R_alloc | apply Kd.R_drewN | apply Kd.R_drew)); exact HO283.out) hb); have n2_ := Aside0.mk (Kd.R_below (by (with_reducible repeat (first | apply Kd.R_alloc | apply Kd.R_drewN | apply Kd.R_drew)); exact HO286.out) hb); have n3_ := Aside0.mk (Kd.R_below (by (with_reducible repeat (first | apply Kd.R_alloc | apply Kd.R_drewN | apply Kd.R_drew)); exact HO289.out) hb); have n4_ := Aside0.mk (below_step (by repeat (first | (with_reducible first | exact HB.out | apply below_alloc | apply pw_below_drewN | apply below_drew1) | exact HB.out)) hb); have n5_ := Aside0.mk (hbox); have n6_ := Aside0.mk ((by rw [hg]; exact (below_size (by repeat (first | (with_reducible first | exact HB.out | apply below_alloc | apply pw_below_drewN | apply below_drew1) | exact HB.out))) : w.heap.size ≤ gb291)); have n7_ := Aside0.mk ((by rw [hg]; exact (below_size (by repeat (first | (with_reducible first | exact HB.out | apply below_alloc | apply pw_below_drewN | apply below_drew1) | exact HB.out))) : w.heap.size ≤ gb291)); clear HO280; clear HO283; clear HO286; clear HO289; clear HB; have HO280 := n0_; have HO283 := n1_; have HO286 := n2_; have HO289 := n3_; have HB := n4_; have BK291 := n5_; have GW291 := n6_; have GE291 := n7_; clear n0_ n1_ n2_ n3_ n4_ n5_ n6_ n7_; clear hb hbox hg; obtain ⟨Ao13, co13, eo13⟩ := Kd.R_slice HO283.out; subst eo13; have hcz14_0 : w12.cell? ⟨gb291, 0, none⟩ = some (.slice none 0 0) := (blk_cell BK291.out 0).trans rfl; have hcz14_1 : w12.cell? ⟨gb291, 1, none⟩ = some (.slice none 0 0) := (blk_cell BK291.out 1).trans rfl; have hcz14_2 : w12.cell? ⟨gb291, 2, none⟩ = some (.slice none 0 0) := (blk_cell BK291.out 2).trans rfl; have hcz14_3 : w12.cell? ⟨gb291, 3, none⟩ = some (.int .i64 0) := (blk_cell BK291.out 3).trans rfl; have hfz14_0 := blk_frozen BK291.out 0; have hfz14_1 := blk_frozen BK291.out 1; have hfz14_2 := blk_frozen BK291.out 2; have hfz14_3 := blk_frozen BK291.out 3; obtain ⟨Ao15, co15, eo15⟩ := Kd.R_slice HO286.out; subst eo15; obtain ⟨Ao16, co16, eo16⟩ := Kd.R_slice HO289.out; subst eo16))
    go_at_call 38; (with_reducible refine (laws_toOutS.calls k _ _ l0 t292 _ ?side1 ?side2 A11.out).mono ?_); (case side1 => exact Kd.C_below HR0.out (by repeat (first | (with_reducible first | exact HB.out | apply below_alloc | apply pw_below_drewN | apply below_drew1 | refine below_set ?_ GE291.out) | exact HB.out))); (case side2 => exact HC0.out)
    rintro e w17 ⟨v293, rfl, ho0, hb⟩
    have n0_ := Aside0.mk (Kd.R_elder' (by (with_reducible repeat (first | apply Kd.R_alloc | apply Kd.R_drewN | apply Kd.R_drew)); exact (Kd.R_mono (Kd.R_far (p := ⟨gb291, 3, none⟩) (Kd.R_far (p := ⟨gb291, 2, none⟩) (Kd.R_far (p := ⟨gb291, 1, none⟩) (Kd.R_far (p := ⟨gb291, 0, none⟩) (Kd.R_types HO280.out BK291.out (by decide)) (fun _ hk => hk.2) (.slice Ao13 t281.length co13)) (fun _ hk => hk.2) (.slice Ao15 t284.length co15)) (fun _ hk => hk.2) (.slice Ao16 t287.length co16)) (fun _ hk => hk.2) (.int .i64 t290)) (fun _ h_ => h_.1))) (Kd.R_base ho0) hb)
    have n1_ := Aside0.mk (Kd.R_elder' (by (with_reducible repeat (first | apply Kd.R_alloc | apply Kd.R_drewN | apply Kd.R_drew)); exact (Kd.R_mono (Kd.R_far (p := ⟨gb291, 3, none⟩) (Kd.R_far (p := ⟨gb291, 2, none⟩) (Kd.R_far (p := ⟨gb291, 1, none⟩) (Kd.R_far (p := ⟨gb291, 0, none⟩) (Kd.R_types HO283.out BK291.out (by decide)) (fun _ hk => hk.2) (.slice Ao13 t281.length co13)) (fun _ hk => hk.2) (.slice Ao15 t284.length co15)) (fun _ hk => hk.2) (.slice Ao16 t287.length co16)) (fun _ hk => hk.2) (.int .i64 t290)) (fun _ h_ => h_.1))) (Kd.R_base ho0) hb)
    have n2_ := Aside0.mk (Kd.R_below (by (with_reducible repeat (first | apply Kd.R_alloc | apply Kd.R_drewN | apply Kd.R_drew)); exact (Kd.R_mono (Kd.R_far (p := ⟨gb291, 3, none⟩) (Kd.R_far (p := ⟨gb291, 2, none⟩) (Kd.R_far (p := ⟨gb291, 1, none⟩) (Kd.R_far (p := ⟨gb291, 0, none⟩) (Kd.R_types HO286.out BK291.out (by decide)) (fun _ hk => hk.2) (.slice Ao13 t281.length co13)) (fun _ hk => hk.2) (.slice Ao15 t284.length co15)) (fun _ hk => hk.2) (.slice Ao16 t287.length co16)) (fun _ hk => hk.2) (.int .i64 t290)) (fun _ h_ => h_.1))) hb)
    have n3_ := Aside0.mk (Kd.R_elder' (by (with_reducible repeat (first | apply Kd.R_alloc | apply Kd.R_drewN | apply Kd.R_drew)); exact (Kd.R_mono (Kd.R_far (p := ⟨gb291, 3, none⟩) (Kd.R_far (p := ⟨gb291, 2, none⟩) (Kd.R_far (p := ⟨gb291, 1, none⟩) (Kd.R_far (p := ⟨gb291, 0, none⟩) (Kd.R_types HO289.out BK291.out (by decide)) (fun _ hk => hk.2) (.slice Ao13 t281.length co13)) (fun _ hk => hk.2) (.slice Ao15 t284.length co15)) (fun _ hk => hk.2) (.slice Ao16 t287.length co16)) (fun _ hk => hk.2) (.int .i64 t290)) (fun _ h_ => h_.1))) (Kd.R_base ho0) hb)
    have n4_ := Aside0.mk (Kd.R_lower (Kd.R_new' (Kd.R_new' (Kd.R_new' ho0 (Kd.R_lt (by (with_reducible repeat (first | apply Kd.R_alloc | apply Kd.R_drewN | apply Kd.R_drew)); exact (Kd.R_mono (Kd.R_far (p := ⟨gb291, 3, none⟩) (Kd.R_far (p := ⟨gb291, 2, none⟩) (Kd.R_far (p := ⟨gb291, 1, none⟩) (Kd.R_far (p := ⟨gb291, 0, none⟩) (Kd.R_types HO280.out BK291.out (by decide)) (fun _ hk => hk.2) (.slice Ao13 t281.length co13)) (fun _ hk => hk.2) (.slice Ao15 t284.length co15)) (fun _ hk => hk.2) (.slice Ao16 t287.length co16)) (fun _ hk => hk.2) (.int .i64 t290)) (fun _ h_ => h_.1))))) (Kd.R_lt (by (with_reducible repeat (first | apply Kd.R_alloc | apply Kd.R_drewN | apply Kd.R_drew)); exact (Kd.R_mono (Kd.R_far (p := ⟨gb291, 3, none⟩) (Kd.R_far (p := ⟨gb291, 2, none⟩) (Kd.R_far (p := ⟨gb291, 1, none⟩) (Kd.R_far (p := ⟨gb291, 0, none⟩) (Kd.R_types HO283.out BK291.out (by decide)) (fun _ hk => hk.2) (.slice Ao13 t281.length co13)) (fun _ hk => hk.2) (.slice Ao15 t284.length co15)) (fun _ hk => hk.2) (.slice Ao16 t287.length co16)) (fun _ hk => hk.2) (.int .i64 t290)) (fun _ h_ => h_.1))))) (Kd.R_lt (by (with_reducible repeat (first | apply Kd.R_alloc | apply Kd.R_drewN | apply Kd.R_drew)); exact (Kd.R_mono (Kd.R_far (p := ⟨gb291, 3, none⟩) (Kd.R_far (p := ⟨gb291, 2, none⟩) (Kd.R_far (p := ⟨gb291, 1, none⟩) (Kd.R_far (p := ⟨gb291, 0, none⟩) (Kd.R_types HO289.out BK291.out (by decide)) (fun _ hk => hk.2) (.slice Ao13 t281.length co13)) (fun _ hk => hk.2) (.slice Ao15 t284.length co15)) (fun _ hk => hk.2) (.slice Ao16 t287.length co16)) (fun _ hk => hk.2) (.int .i64 t290)) (fun _ h_ => h_.1))))) (below_size (by repeat (first | (with_reducible first | exact HB.out | apply below_alloc | apply pw_below_drewN | apply below_drew1 | refine below_set ?_ GE291.out) | exact HB.out))))
    have n5_ := Aside0.mk (blk_below (g := gb291) (o := .cells #[.slice Ao13 t281.length co13, .slice Ao15 t284.length co15, .slice Ao16 t287.length co16, .int .i64 t290] 34 (0, 0)) (by (with_reducible repeat (first | refine blk_drewN ?_ _ | refine blk_drew ?_ | refine blk_alloc ?_ _)); refine blk_put (cs := #[.slice Ao13 t281.length co13, .slice Ao15 t284.length co15, .slice Ao16 t287.length co16, .int .i64 0]) ?_ 3 _ rfl; (with_reducible repeat (first | refine blk_drewN ?_ _ | refine blk_drew ?_ | refine blk_alloc ?_ _)); refine blk_put (cs := #[.slice Ao13 t281.length co13, .slice Ao15 t284.length co15, .slice none 0 0, .int .i64 0]) ?_ 2 _ rfl; (with_reducible repeat (first | refine blk_drewN ?_ _ | refine blk_drew ?_ | refine blk_alloc ?_ _)); refine blk_put (cs := #[.slice Ao13 t281.length co13, .slice none 0 0, .slice none 0 0, .int .i64 0]) ?_ 1 _ rfl; (with_reducible repeat (first | refine blk_drewN ?_ _ | refine blk_drew ?_ | refine blk_alloc ?_ _)); refine blk_put (cs := #[.slice none 0 0, .slice none 0 0, .slice none 0 0, .int .i64 0]) ?_ 0 _ rfl; (with_reducible repeat (first | refine blk_drewN ?_ _ | refine blk_drew ?_ | refine blk_alloc ?_ _)); exact BK291.out) hb)
    have n6_ := Aside0.mk (below_step (by repeat (first | (with_reducible first | exact HB.out | apply below_alloc | apply pw_below_drewN | apply below_drew1 | refine below_set ?_ GE291.out) | exact HB.out)) hb)
    clear HO280
    clear HO283
    clear HO286
    clear HO289
    clear BK291
    clear HB
    have HO280 := n0_
    have HO283 := n1_
    have HO286 := n2_
    have HO289 := n3_
    have HO294 := n4_
    have BK291 := n5_
    have HB := n6_
    clear n0_ n1_ n2_ n3_ n4_ n5_ n6_
    (try clear hb)
    (try clear hb2)
    (try clear hk)
    (try clear hi)
    (try clear ho0)
    replace H := Option.bind_eq_some_iff.mp H
    obtain ⟨⟨t295, t298, t301, t304⟩, A180, H⟩ := H
    replace H : ((laws_eqOutboxOut.f k t295 t298 t301 t304 t281 t284 t287 t290).bind fun t306 => (if t306 = true then ((laws_toOutS.f k l0).bind fun t307 => ((laws_eqOutS.f k t292 t307).bind fun t310 => (if t310 = true then ((laws_markOutS.f k t292 1).bind fun bt311 => (if bt311.1 < 0 then (laws_FnExactOutboxTick.j0 k l0 a1 true t281 t284 t287 t290 t295 t298 t301 t304) else ((laws_eqOutboxOut.f k t295 t298 t301 t304 t281 t284 t287 t290).bind fun t313 => (laws_FnExactOutboxTick.j0 k l0 a1 (!t313) t281 t284 t287 t290 t295 t298 t301 t304)))) else (some false)))) else (some false))) = some r := H
    have A18 := Aside0.mk A180
    clear A180
    obtain ⟨Ao19, co19, eo19⟩ := Kd.R_slice HO294.out
    subst eo19
    try go_wp2_with (fail)
    go_at_call 20; (with_reducible refine (impl_OutboxTick.calls k _ _ t292 a1 t295 t298 t301 t304 _ ?side1 ?side2 A18.out).mono ?_); (case side1 => repeat (first | exact (Kd.R_reads' HO294.out).2.2 | (with_reducible refine Kd.C_alloc ?_ _) | (with_reducible refine Kd.C_drewN ?_ _) | (with_reducible refine Kd.C_drew ?_))); (case side2 => exact (Kd.R_reads' HO294.out).2.1)
    rintro e w20 ⟨v296, v299, v302, rfl, ho0, ho1, ho2, hb⟩
    have n0_ := Aside0.mk (Kd.R_mono (Kd.R_told (Kd.R_told (Kd.R_old (by (with_reducible repeat (first | apply Kd.R_alloc | apply Kd.R_drewN | apply Kd.R_drew)); exact HO280.out) hb) (Kd.R_base ho0)) (Kd.R_base ho2)) (fun _ h_ => h_.1))
    have n1_ := Aside0.mk (Kd.R_mono (Kd.R_told (Kd.R_told (Kd.R_old (by (with_reducible repeat (first | apply Kd.R_alloc | apply Kd.R_drewN | apply Kd.R_drew)); exact HO283.out) hb) (Kd.R_base ho0)) (Kd.R_base ho2)) (fun _ h_ => h_.1))
    have n2_ := Aside0.mk (Kd.R_elder' (by (with_reducible repeat (first | apply Kd.R_alloc | apply Kd.R_drewN | apply Kd.R_drew)); exact HO286.out) (Kd.R_base ho1) hb)
    have n3_ := Aside0.mk (Kd.R_mono (Kd.R_told (Kd.R_told (Kd.R_old (by (with_reducible repeat (first | apply Kd.R_alloc | apply Kd.R_drewN | apply Kd.R_drew)); exact HO289.out) hb) (Kd.R_base ho0)) (Kd.R_base ho2)) (fun _ h_ => h_.1))
    have n4_ := Aside0.mk (Kd.R_mono (Kd.R_told (Kd.R_told (Kd.R_old (by (with_reducible repeat (first | apply Kd.R_alloc | apply Kd.R_drewN | apply Kd.R_drew)); exact HO294.out) hb) (Kd.R_base ho0)) (Kd.R_base ho2)) (fun _ h_ => h_.1))
    have n5_ := Aside0.mk (Kd.R_lower (Kd.R_new' (Kd.R_new' (Kd.R_new' (Kd.R_new' ho0 (Kd.R_lt (by (with_reducible repeat (first | apply Kd.R_alloc | apply Kd.R_drewN | apply Kd.R_drew)); exact HO280.out))) (Kd.R_lt (by (with_reducible repeat (first | apply Kd.R_alloc | apply Kd.R_drewN | apply Kd.R_drew)); exact HO283.out))) (Kd.R_lt (by (with_reducible repeat (first | apply Kd.R_alloc | apply Kd.R_drewN | apply Kd.R_drew)); exact HO289.out))) (Kd.R_lt (by (with_reducible repeat (first | apply Kd.R_alloc | apply Kd.R_drewN | apply Kd.R_drew)); exact HO294.out))) (below_size (by repeat (first | (with_reducible first | exact HB.out | apply below_alloc | apply pw_below_drewN | apply below_drew1 | refine below_set ?_ GE291.out) | exact HB.out))))
    have n6_ := Aside0.mk (Kd.R_lower (Kd.R_new' ho1 (Kd.R_lt (by (with_reducible repeat (first | apply Kd.R_alloc | apply Kd.R_drewN | apply Kd.R_drew)); exact HO286.out))) (below_size (by repeat (first | (with_reducible first | exact HB.out | apply below_alloc | apply pw_below_drewN | apply below_drew1 | refine below_set ?_ GE291.out) | exact HB.out))))
    have n7_ := Aside0.mk (Kd.R_lower (Kd.R_new' (Kd.R_new' (Kd.R_new' (Kd.R_new' ho2 (Kd.R_lt (by (with_reducible repeat (first | apply Kd.R_alloc | apply Kd.R_drewN | apply Kd.R_drew)); exact HO280.out))) (Kd.R_lt (by (with_reducible repeat (first | apply Kd.R_alloc | apply Kd.R_drewN | apply Kd.R_drew)); exact HO283.out))) (Kd.R_lt (by (with_reducible repeat (first | apply Kd.R_alloc | apply Kd.R_drewN | apply Kd.R_drew)); exact HO289.out))) (Kd.R_lt (by (with_reducible repeat (first | apply Kd.R_alloc | apply Kd.R_drewN | apply Kd.R_drew)); exact HO294.out))) (below_size (by repeat (first | (with_reducible first | exact HB.out | apply below_alloc | apply pw_below_drewN | apply below_drew1 | refine below_set ?_ GE291.out) | exact HB.out))))
    have n8_ := Aside0.mk (blk_below (g := gb291) (o := .cells #[.slice Ao13 t281.length co13, .slice Ao15 t284.length co15, .slice Ao16 t287.length co16, .int .i64 t290] 34 (0, 0)) (by (with_reducible repeat (first | refine blk_drewN ?_ _ | refine blk_drew ?_ | refine blk_alloc ?_ _)); exact BK291.out) hb)
    have n9_ := Aside0.mk (below_step (by repeat (first | (with_reducible first | exact HB.out | apply below_alloc | apply pw_below_drewN | apply below_drew1 | refine below_set ?_ GE291.out) | exact HB.out)) hb)
    clear HO280
    clear HO283
    clear HO286
    clear HO289
    clear HO294
    clear BK291
    clear HB
    have HO280 := n0_
    have HO283 := n1_
    have HO286 := n2_
    have HO289 := n3_
    have HO294 := n4_
    have HO297 := n5_
    have HO300 := n6_
    have HO303 := n7_
    have BK291 := n8_
    have HB := n9_
    clear n0_ n1_ n2_ n3_ n4_ n5_ n6_ n7_ n8_ n9_
    (try clear hb)
    (try clear hb2)
    (try clear hk)
    (try clear hi)
    (try clear ho0)
    (try clear ho1)
    (try clear ho2)
    replace H := Option.bind_eq_some_iff.mp H
    obtain ⟨t306, A210, H⟩ := H
    replace H : (if t306 = true then ((laws_toOutS.f k l0).bind fun t307 => ((laws_eqOutS.f k t292 t307).bind fun t310 => (if t310 = true then ((laws_markOutS.f k t292 1).bind fun bt311 => (if bt311.1 < 0 then (laws_FnExactOutboxTick.j0 k l0 a1 true t281 t284 t287 t290 t295 t298 t301 t304) else ((laws_eqOutboxOut.f k t295 t298 t301 t304 t281 t284 t287 t290).bind fun t313 => (laws_FnExactOutboxTick.j0 k l0 a1 (!t313) t281 t284 t287 t290 t295 t298 t301 t304)))) else (some false)))) else (some false)) = some r := H
    have A21 := Aside0.mk A210
    clear A210
    try go_wp2_with (first | ((with_reducible refine gate_dst (N := 8) rfl ?_); refine box_event ?hg (N := 8) ?hd (cs := #[.slice none 0 0, .slice none 0 0, .slice none 0 0, .int .i64 0]) (t := 34) ?hr ?_; (case hd => rfl); (case hg => rfl); (case hr => first | (go_simp; done) | (go_simp; rfl)); intro gb305 hg w22 hbox hb; have n0_ := Aside0.mk (Kd.R_below (by (with_reducible repeat (first | apply Kd.R_alloc | apply Kd.R_drewN | apply Kd.R_drew)); exact HO280.out) hb); have n1_ := Aside0.mk (Kd.R_below (by (with_reducible repeat (first | apply Kd.R_alloc | apply Kd.R_drewN | apply Kd.R_drew)); exact HO283.out) hb); have n2_ := Aside0.mk (Kd.R_below (by (with_reducible repeat (first | apply Kd.R_alloc | apply Kd.R_drewN | apply Kd.R_drew)); exact HO286.out) hb); have n3_ := Aside0.mk (Kd.R_below (by (with_reducible repeat (first | apply Kd.R_alloc | apply Kd.R_drewN | apply Kd.R_drew)); exact HO289.out) hb); have n4_ := Aside0.mk (Kd.R_below (by (with_reducible repeat (first | apply Kd.R_alloc | apply Kd.R_drewN | apply Kd.R_drew)); exact HO294.out) hb); have n5_ := Aside0.mk (Kd.R_below (by (with_reducible repeat (first | apply Kd.R_alloc | apply Kd.R_drewN | apply Kd.R_drew)); exact HO297.out) hb); have n6_ := Aside0.mk (Kd.R_below (by (with_reducible repeat (first | apply Kd.R_alloc | apply Kd.R_drewN | apply Kd.R_drew)); exact HO300.out) hb); have n7_ := Aside0.mk (Kd.R_below (by (with_reducible repeat (first | apply Kd.R_alloc | apply Kd.R_drewN | apply Kd.R_drew)); exact HO303.out) hb); have n8_ := Aside0.mk (blk_below (g := gb291) (o := .cells #[.slice Ao13 t281.length co13, .slice Ao15 t284.length co15, .slice Ao16 t287.length co16, .int .i64 t290] 34 (0, 0)) (by (with_reducible repeat (first | refine blk_drewN ?_ _ | refine blk_drew ?_ | refine blk_alloc ?_ _)); exact BK291.out) hb); have n9_ := Aside0.mk (below_step (by repeat (first | (with_reducible first | exact HB.out | apply below_alloc | apply pw_below_drewN | apply below_drew1 | refine below_set ?_ GE291.out) | exact HB.out)) hb); have n10_ := Aside0.mk (hbox); have n11_ := Aside0.mk ((by rw [hg]; exact (below_size (by repeat (first | (with_reducible first | exact HB.out | apply below_alloc | apply pw_below_drewN | apply below_drew1 | refine below_set ?_ GE291.out) | exact HB.out))) : w.heap.size ≤ gb305)); have n12_ := Aside0.mk ((by rw [hg]; exact (below_size (by repeat (first | (with_reducible first | exact HB.out | apply below_alloc | apply pw_below_drewN | apply below_drew1 | refine below_set ?_ GE291.out) | exact HB.out))) : w.heap.size ≤ gb305)); have n13_ := Aside0.mk ((by rw [hg]; exact Nat.ne_of_lt (blk_lt (g := gb291) (o := .cells #[.slice Ao13 t281.length co13, .slice Ao15 t284.length co15, .slice Ao16 t287.length co16, .int .i64 t290] 34 (0, 0)) (by (with_reducible repeat (first | refine blk_drewN ?_ _ | refine blk_drew ?_ | refine blk_alloc ?_ _)); exact BK291.out)) : gb291 ≠ gb305)); have n14_ := Aside0.mk ((by rw [hg]; exact Nat.ne_of_gt (blk_lt (g := gb291) (o := .cells #[.slice Ao13 t281.length co13, .slice Ao15 t284.length co15, .slice Ao16 t287.length co16, .int .i64 t290] 34 (0, 0)) (by (with_reducible repeat (first | refine blk_drewN ?_ _ | refine blk_drew ?_ | refine blk_alloc ?_ _)); exact BK291.out)) : gb305 ≠ gb291)); clear HO280; clear HO283; clear HO286; clear HO289; clear HO294; clear HO297; clear HO300; clear HO303; clear BK291; clear HB; have HO280 := n0_; have HO283 := n1_; have HO286 := n2_; have HO289 := n3_; have HO294 := n4_; have HO297 := n5_; have HO300 := n6_; have HO303 := n7_; have BK291 := n8_; have HB := n9_; have BK305 := n10_; have GW305 := n11_; have GE305 := n12_; have NB291_305 := n13_; have NB305_291 := n14_; clear n0_ n1_ n2_ n3_ n4_ n5_ n6_ n7_ n8_ n9_ n10_ n11_ n12_ n13_ n14_; clear hb hbox hg; obtain ⟨Ao23, co23, eo23⟩ := Kd.R_slice HO297.out; subst eo23; have hnb24 := NB305_291.out; have hnc24 := NB291_305.out; have hcz25_0 : w22.cell? ⟨gb305, 0, none⟩ = some (.slice none 0 0) := (blk_cell BK305.out 0).trans rfl; have hcz25_1 : w22.cell? ⟨gb305, 1, none⟩ = some (.slice none 0 0) := (blk_cell BK305.out 1).trans rfl; have hcz25_2 : w22.cell? ⟨gb305, 2, none⟩ = some (.slice none 0 0) := (blk_cell BK305.out 2).trans rfl; have hcz25_3 : w22.cell? ⟨gb305, 3, none⟩ = some (.int .i64 0) := (blk_cell BK305.out 3).trans rfl; have hfz25_0 := blk_frozen BK305.out 0; have hfz25_1 := blk_frozen BK305.out 1; have hfz25_2 := blk_frozen BK305.out 2; have hfz25_3 := blk_frozen BK305.out 3; obtain ⟨Ao26, co26, eo26⟩ := Kd.R_slice HO300.out; subst eo26; obtain ⟨Ao27, co27, eo27⟩ := Kd.R_slice HO303.out; subst eo27; have hcz28_0 : w22.cell? ⟨gb291, 0, none⟩ = some (.slice Ao13 t281.length co13) := (blk_cell BK291.out 0).trans rfl; have hcz28_1 : w22.cell? ⟨gb291, 1, none⟩ = some (.slice Ao15 t284.length co15) := (blk_cell BK291.out 1).trans rfl; have hcz28_2 : w22.cell? ⟨gb291, 2, none⟩ = some (.slice Ao16 t287.length co16) := (blk_cell BK291.out 2).trans rfl; have hcz28_3 : w22.cell? ⟨gb291, 3, none⟩ = some (.int .i64 t290) := (blk_cell BK291.out 3).trans rfl; have hfz28_0 := blk_frozen BK291.out 0; have hfz28_1 := blk_frozen BK291.out 1; have hfz28_2 := blk_frozen BK291.out 2; have hfz28_3 := blk_frozen BK291.out 3))
    go_at_call 39; (with_reducible refine (laws_eqOutboxOut.calls k _ _ t295 _ _ t298 _ _ t301 t304 _ _ t281 _ _ t284 _ _ t287 t290 t306 _ ?side1 ?side2 ?side3 ?side4 ?side5 ?side6 ?side7 ?side8 ?side9 ?side10 ?side11 ?side12 A21.out).mono ?_); (case side1 => refine (Kd.R_reads' (e := 24) (base := w.heap.size) (ok := fun k_ => ((((some k_ ≠ (.slice Ao27 t301.length co27 : Value).ownBlock ∧ some k_ ≠ (.slice Ao9 t278.length co9 : Value).ownBlock) ∧ some k_ ≠ (.slice Ao13 t281.length co13 : Value).ownBlock) ∧ some k_ ≠ (.slice Ao16 t287.length co16 : Value).ownBlock) ∧ some k_ ≠ (.slice Ao19 t292.length co19 : Value).ownBlock)) (n := t295.length) (c := co23) ?_).2.2; exact (by (with_reducible repeat (first | apply Kd.R_alloc | apply Kd.R_drewN | apply Kd.R_drew)); exact (Kd.R_mono (Kd.R_far (p := ⟨gb305, 3, none⟩) (Kd.R_far (p := ⟨gb305, 2, none⟩) (Kd.R_far (p := ⟨gb305, 1, none⟩) (Kd.R_far (p := ⟨gb305, 0, none⟩) (Kd.R_types HO297.out BK305.out (by decide)) (fun _ hk => hk.2) (.slice Ao23 t295.length co23)) (fun _ hk => hk.2) (.slice Ao26 t298.length co26)) (fun _ hk => hk.2) (.slice Ao27 t301.length co27)) (fun _ hk => hk.2) (.int .i64 t304)) (fun _ h_ => h_.1)))); (case side2 => exact (Kd.R_reads' HO297.out).2.1); (case side3 => refine (Kd.R_reads' (e := 105) (base := w.heap.size) (ok := fun k_ => (True ∧ some k_ ≠ (.slice Ao15 t284.length co15 : Value).ownBlock)) (n := t298.length) (c := co26) ?_).2.2; exact (by (with_reducible repeat (first | apply Kd.R_alloc | apply Kd.R_drewN | apply Kd.R_drew)); exact (Kd.R_mono (Kd.R_far (p := ⟨gb305, 3, none⟩) (Kd.R_far (p := ⟨gb305, 2, none⟩) (Kd.R_far (p := ⟨gb305, 1, none⟩) (Kd.R_far (p := ⟨gb305, 0, none⟩) (Kd.R_types HO300.out BK305.out (by decide)) (fun _ hk => hk.2) (.slice Ao23 t295.length co23)) (fun _ hk => hk.2) (.slice Ao26 t298.length co26)) (fun _ hk => hk.2) (.slice Ao27 t301.length co27)) (fun _ hk => hk.2) (.int .i64 t304)) (fun _ h_ => h_.1)))); (case side4 => exact (Kd.R_reads' HO300.out).2.1); (case side5 => refine (Kd.R_reads' (e := 24) (base := w.heap.size) (ok := fun k_ => ((((some k_ ≠ (.slice Ao23 t295.length co23 : Value).ownBlock ∧ some k_ ≠ (.slice Ao9 t278.length co9 : Value).ownBlock) ∧ some k_ ≠ (.slice Ao13 t281.length co13 : Value).ownBlock) ∧ some k_ ≠ (.slice Ao16 t287.length co16 : Value).ownBlock) ∧ some k_ ≠ (.slice Ao19 t292.length co19 : Value).ownBlock)) (n := t301.length) (c := co27) ?_).2.2; exact (by (with_reducible repeat (first | apply Kd.R_alloc | apply Kd.R_drewN | apply Kd.R_drew)); exact (Kd.R_mono (Kd.R_far (p := ⟨gb305, 3, none⟩) (Kd.R_far (p := ⟨gb305, 2, none⟩) (Kd.R_far (p := ⟨gb305, 1, none⟩) (Kd.R_far (p := ⟨gb305, 0, none⟩) (Kd.R_types HO303.out BK305.out (by decide)) (fun _ hk => hk.2) (.slice Ao23 t295.length co23)) (fun _ hk => hk.2) (.slice Ao26 t298.length co26)) (fun _ hk => hk.2) (.slice Ao27 t301.length co27)) (fun _ hk => hk.2) (.int .i64 t304)) (fun _ h_ => h_.1)))); (case side6 => exact (Kd.R_reads' HO303.out).2.1); (case side7 => refine (Kd.R_reads' (e := 24) (base := w.heap.size) (ok := fun k_ => ((((some k_ ≠ (.slice Ao16 t287.length co16 : Value).ownBlock ∧ some k_ ≠ (.slice Ao9 t278.length co9 : Value).ownBlock) ∧ some k_ ≠ (.slice Ao19 t292.length co19 : Value).ownBlock) ∧ some k_ ≠ (.slice Ao23 t295.length co23 : Value).ownBlock) ∧ some k_ ≠ (.slice Ao27 t301.length co27 : Value).ownBlock)) (n := t281.length) (c := co13) ?_).2.2; exact (by (with_reducible repeat (first | apply Kd.R_alloc | apply Kd.R_drewN | apply Kd.R_drew)); exact (Kd.R_mono (Kd.R_far (p := ⟨gb305, 3, none⟩) (Kd.R_far (p := ⟨gb305, 2, none⟩) (Kd.R_far (p := ⟨gb305, 1, none⟩) (Kd.R_far (p := ⟨gb305, 0, none⟩) (Kd.R_types HO283.out BK305.out (by decide)) (fun _ hk => hk.2) (.slice Ao23 t295.length co23)) (fun _ hk => hk.2) (.slice Ao26 t298.length co26)) (fun _ hk => hk.2) (.slice Ao27 t301.length co27)) (fun _ hk => hk.2) (.int .i64 t304)) (fun _ h_ => h_.1)))); (case side8 => exact (Kd.R_reads' HO283.out).2.1); (case side9 => refine (Kd.R_reads' (e := 105) (base := w.heap.size) (ok := fun k_ => (True ∧ some k_ ≠ (.slice Ao26 t298.length co26 : Value).ownBlock)) (n := t284.length) (c := co15) ?_).2.2; exact (by (with_reducible repeat (first | apply Kd.R_alloc | apply Kd.R_drewN | apply Kd.R_drew)); exact (Kd.R_mono (Kd.R_far (p := ⟨gb305, 3, none⟩) (Kd.R_far (p := ⟨gb305, 2, none⟩) (Kd.R_far (p := ⟨gb305, 1, none⟩) (Kd.R_far (p := ⟨gb305, 0, none⟩) (Kd.R_types HO286.out BK305.out (by decide)) (fun _ hk => hk.2) (.slice Ao23 t295.length co23)) (fun _ hk => hk.2) (.slice Ao26 t298.length co26)) (fun _ hk => hk.2) (.slice Ao27 t301.length co27)) (fun _ hk => hk.2) (.int .i64 t304)) (fun _ h_ => h_.1)))); (case side10 => exact (Kd.R_reads' HO286.out).2.1); (case side11 => refine (Kd.R_reads' (e := 24) (base := w.heap.size) (ok := fun k_ => ((((some k_ ≠ (.slice Ao13 t281.length co13 : Value).ownBlock ∧ some k_ ≠ (.slice Ao9 t278.length co9 : Value).ownBlock) ∧ some k_ ≠ (.slice Ao19 t292.length co19 : Value).ownBlock) ∧ some k_ ≠ (.slice Ao23 t295.length co23 : Value).ownBlock) ∧ some k_ ≠ (.slice Ao27 t301.length co27 : Value).ownBlock)) (n := t287.length) (c := co16) ?_).2.2; exact (by (with_reducible repeat (first | apply Kd.R_alloc | apply Kd.R_drewN | apply Kd.R_drew)); exact (Kd.R_mono (Kd.R_far (p := ⟨gb305, 3, none⟩) (Kd.R_far (p := ⟨gb305, 2, none⟩) (Kd.R_far (p := ⟨gb305, 1, none⟩) (Kd.R_far (p := ⟨gb305, 0, none⟩) (Kd.R_types HO289.out BK305.out (by decide)) (fun _ hk => hk.2) (.slice Ao23 t295.length co23)) (fun _ hk => hk.2) (.slice Ao26 t298.length co26)) (fun _ hk => hk.2) (.slice Ao27 t301.length co27)) (fun _ hk => hk.2) (.int .i64 t304)) (fun _ h_ => h_.1)))); (case side12 => exact (Kd.R_reads' HO289.out).2.1)
    rintro e w29 ⟨rfl, hb⟩
    have n0_ := Aside0.mk (Kd.R_below (by (with_reducible repeat (first | apply Kd.R_alloc | apply Kd.R_drewN | apply Kd.R_drew)); exact (Kd.R_mono (Kd.R_far (p := ⟨gb305, 3, none⟩) (Kd.R_far (p := ⟨gb305, 2, none⟩) (Kd.R_far (p := ⟨gb305, 1, none⟩) (Kd.R_far (p := ⟨gb305, 0, none⟩) (Kd.R_types HO280.out BK305.out (by decide)) (fun _ hk => hk.2) (.slice Ao23 t295.length co23)) (fun _ hk => hk.2) (.slice Ao26 t298.length co26)) (fun _ hk => hk.2) (.slice Ao27 t301.length co27)) (fun _ hk => hk.2) (.int .i64 t304)) (fun _ h_ => h_.1))) hb)
    have n1_ := Aside0.mk (Kd.R_below (by (with_reducible repeat (first | apply Kd.R_alloc | apply Kd.R_drewN | apply Kd.R_drew)); exact (Kd.R_mono (Kd.R_far (p := ⟨gb305, 3, none⟩) (Kd.R_far (p := ⟨gb305, 2, none⟩) (Kd.R_far (p := ⟨gb305, 1, none⟩) (Kd.R_far (p := ⟨gb305, 0, none⟩) (Kd.R_types HO283.out BK305.out (by decide)) (fun _ hk => hk.2) (.slice Ao23 t295.length co23)) (fun _ hk => hk.2) (.slice Ao26 t298.length co26)) (fun _ hk => hk.2) (.slice Ao27 t301.length co27)) (fun _ hk => hk.2) (.int .i64 t304)) (fun _ h_ => h_.1))) hb)
    have n2_ := Aside0.mk (Kd.R_below (by (with_reducible repeat (first | apply Kd.R_alloc | apply Kd.R_drewN | apply Kd.R_drew)); exact (Kd.R_mono (Kd.R_far (p := ⟨gb305, 3, none⟩) (Kd.R_far (p := ⟨gb305, 2, none⟩) (Kd.R_far (p := ⟨gb305, 1, none⟩) (Kd.R_far (p := ⟨gb305, 0, none⟩) (Kd.R_types HO286.out BK305.out (by decide)) (fun _ hk => hk.2) (.slice Ao23 t295.length co23)) (fun _ hk => hk.2) (.slice Ao26 t298.length co26)) (fun _ hk => hk.2) (.slice Ao27 t301.length co27)) (fun _ hk => hk.2) (.int .i64 t304)) (fun _ h_ => h_.1))) hb)
    have n3_ := Aside0.mk (Kd.R_below (by (with_reducible repeat (first | apply Kd.R_alloc | apply Kd.R_drewN | apply Kd.R_drew)); exact (Kd.R_mono (Kd.R_far (p := ⟨gb305, 3, none⟩) (Kd.R_far (p := ⟨gb305, 2, none⟩) (Kd.R_far (p := ⟨gb305, 1, none⟩) (Kd.R_far (p := ⟨gb305, 0, none⟩) (Kd.R_types HO289.out BK305.out (by decide)) (fun _ hk => hk.2) (.slice Ao23 t295.length co23)) (fun _ hk => hk.2) (.slice Ao26 t298.length co26)) (fun _ hk => hk.2) (.slice Ao27 t301.length co27)) (fun _ hk => hk.2) (.int .i64 t304)) (fun _ h_ => h_.1))) hb)
    have n4_ := Aside0.mk (Kd.R_below (by (with_reducible repeat (first | apply Kd.R_alloc | apply Kd.R_drewN | apply Kd.R_drew)); exact (Kd.R_mono (Kd.R_far (p := ⟨gb305, 3, none⟩) (Kd.R_far (p := ⟨gb305, 2, none⟩) (Kd.R_far (p := ⟨gb305, 1, none⟩) (Kd.R_far (p := ⟨gb305, 0, none⟩) (Kd.R_types HO294.out BK305.out (by decide)) (fun _ hk => hk.2) (.slice Ao23 t295.length co23)) (fun _ hk => hk.2) (.slice Ao26 t298.length co26)) (fun _ hk => hk.2) (.slice Ao27 t301.length co27)) (fun _ hk => hk.2) (.int .i64 t304)) (fun _ h_ => h_.1))) hb)
    have n5_ := Aside0.mk (Kd.R_below (by (with_reducible repeat (first | apply Kd.R_alloc | apply Kd.R_drewN | apply Kd.R_drew)); exact (Kd.R_mono (Kd.R_far (p := ⟨gb305, 3, none⟩) (Kd.R_far (p := ⟨gb305, 2, none⟩) (Kd.R_far (p := ⟨gb305, 1, none⟩) (Kd.R_far (p := ⟨gb305, 0, none⟩) (Kd.R_types HO297.out BK305.out (by decide)) (fun _ hk => hk.2) (.slice Ao23 t295.length co23)) (fun _ hk => hk.2) (.slice Ao26 t298.length co26)) (fun _ hk => hk.2) (.slice Ao27 t301.length co27)) (fun _ hk => hk.2) (.int .i64 t304)) (fun _ h_ => h_.1))) hb)
    have n6_ := Aside0.mk (Kd.R_below (by (with_reducible repeat (first | apply Kd.R_alloc | apply Kd.R_drewN | apply Kd.R_drew)); exact (Kd.R_mono (Kd.R_far (p := ⟨gb305, 3, none⟩) (Kd.R_far (p := ⟨gb305, 2, none⟩) (Kd.R_far (p := ⟨gb305, 1, none⟩) (Kd.R_far (p := ⟨gb305, 0, none⟩) (Kd.R_types HO300.out BK305.out (by decide)) (fun _ hk => hk.2) (.slice Ao23 t295.length co23)) (fun _ hk => hk.2) (.slice Ao26 t298.length co26)) (fun _ hk => hk.2) (.slice Ao27 t301.length co27)) (fun _ hk => hk.2) (.int .i64 t304)) (fun _ h_ => h_.1))) hb)
    have n7_ := Aside0.mk (Kd.R_below (by (with_reducible repeat (first | apply Kd.R_alloc | apply Kd.R_drewN | apply Kd.R_drew)); exact (Kd.R_mono (Kd.R_far (p := ⟨gb305, 3, none⟩) (Kd.R_far (p := ⟨gb305, 2, none⟩) (Kd.R_far (p := ⟨gb305, 1, none⟩) (Kd.R_far (p := ⟨gb305, 0, none⟩) (Kd.R_types HO303.out BK305.out (by decide)) (fun _ hk => hk.2) (.slice Ao23 t295.length co23)) (fun _ hk => hk.2) (.slice Ao26 t298.length co26)) (fun _ hk => hk.2) (.slice Ao27 t301.length co27)) (fun _ hk => hk.2) (.int .i64 t304)) (fun _ h_ => h_.1))) hb)
    have n8_ := Aside0.mk (blk_below (g := gb291) (o := .cells #[.slice Ao13 t281.length co13, .slice Ao15 t284.length co15, .slice Ao16 t287.length co16, .int .i64 t290] 34 (0, 0)) (by (with_reducible repeat (first | refine blk_drewN ?_ _ | refine blk_drew ?_ | refine blk_alloc ?_ _)); refine blk_far ?_ NB291_305.out _; (with_reducible repeat (first | refine blk_drewN ?_ _ | refine blk_drew ?_ | refine blk_alloc ?_ _)); refine blk_far ?_ NB291_305.out _; (with_reducible repeat (first | refine blk_drewN ?_ _ | refine blk_drew ?_ | refine blk_alloc ?_ _)); refine blk_far ?_ NB291_305.out _; (with_reducible repeat (first | refine blk_drewN ?_ _ | refine blk_drew ?_ | refine blk_alloc ?_ _)); refine blk_far ?_ NB291_305.out _; (with_reducible repeat (first | refine blk_drewN ?_ _ | refine blk_drew ?_ | refine blk_alloc ?_ _)); exact BK291.out) hb)
    have n9_ := Aside0.mk (blk_below (g := gb305) (o := .cells #[.slice Ao23 t295.length co23, .slice Ao26 t298.length co26, .slice Ao27 t301.length co27, .int .i64 t304] 34 (0, 0)) (by (with_reducible repeat (first | refine blk_drewN ?_ _ | refine blk_drew ?_ | refine blk_alloc ?_ _)); refine blk_put (cs := #[.slice Ao23 t295.length co23, .slice Ao26 t298.length co26, .slice Ao27 t301.length co27, .int .i64 0]) ?_ 3 _ rfl; (with_reducible repeat (first | refine blk_drewN ?_ _ | refine blk_drew ?_ | refine blk_alloc ?_ _)); refine blk_put (cs := #[.slice Ao23 t295.length co23, .slice Ao26 t298.length co26, .slice none 0 0, .int .i64 0]) ?_ 2 _ rfl; (with_reducible repeat (first | refine blk_drewN ?_ _ | refine blk_drew ?_ | refine blk_alloc ?_ _)); refine blk_put (cs := #[.slice Ao23 t295.length co23, .slice none 0 0, .slice none 0 0, .int .i64 0]) ?_ 1 _ rfl; (with_reducible repeat (first | refine blk_drewN ?_ _ | refine blk_drew ?_ | refine blk_alloc ?_ _)); refine blk_put (cs := #[.slice none 0 0, .slice none 0 0, .slice none 0 0, .int .i64 0]) ?_ 0 _ rfl; (with_reducible repeat (first | refine blk_drewN ?_ _ | refine blk_drew ?_ | refine blk_alloc ?_ _)); exact BK305.out) hb)
    have n10_ := Aside0.mk (below_step (by repeat (first | (with_reducible first | exact HB.out | apply below_alloc | apply pw_below_drewN | apply below_drew1 | refine below_set ?_ GE291.out | refine below_set ?_ GE305.out) | exact HB.out)) hb)
    clear HO280
    clear HO283
    clear HO286
    clear HO289
    clear HO294
    clear HO297
    clear HO300
    clear HO303
    clear BK291
    clear BK305
    clear HB
    have HO280 := n0_
    have HO283 := n1_
    have HO286 := n2_
    have HO289 := n3_
    have HO294 := n4_
    have HO297 := n5_
    have HO300 := n6_
    have HO303 := n7_
    have BK291 := n8_
    have BK305 := n9_
    have HB := n10_
    clear n0_ n1_ n2_ n3_ n4_ n5_ n6_ n7_ n8_ n9_ n10_
    (try clear hb)
    (try clear hb2)
    (try clear hk)
    (try clear hi)
    by_cases c30 : t306 = true
    · subst c30
      have H1 : ((laws_toOutS.f k l0).bind fun t307 => ((laws_eqOutS.f k t292 t307).bind fun t310 => (if t310 = true then ((laws_markOutS.f k t292 1).bind fun bt311 => (if bt311.1 < 0 then (laws_FnExactOutboxTick.j0 k l0 a1 true t281 t284 t287 t290 t295 t298 t301 t304) else ((laws_eqOutboxOut.f k t295 t298 t301 t304 t281 t284 t287 t290).bind fun t313 => (laws_FnExactOutboxTick.j0 k l0 a1 (!t313) t281 t284 t287 t290 t295 t298 t301 t304)))) else (some false)))) = some r := by rw [if_pos rfl] at H; exact H
      clear H
      have H := H1
      clear H1
      replace H := Option.bind_eq_some_iff.mp H
      obtain ⟨t307, A310, H⟩ := H
      replace H : ((laws_eqOutS.f k t292 t307).bind fun t310 => (if t310 = true then ((laws_markOutS.f k t292 1).bind fun bt311 => (if bt311.1 < 0 then (laws_FnExactOutboxTick.j0 k l0 a1 true t281 t284 t287 t290 t295 t298 t301 t304) else ((laws_eqOutboxOut.f k t295 t298 t301 t304 t281 t284 t287 t290).bind fun t313 => (laws_FnExactOutboxTick.j0 k l0 a1 (!t313) t281 t284 t287 t290 t295 t298 t301 t304)))) else (some false))) = some r := H
      have A31 := Aside0.mk A310
      clear A310
      try go_wp2_with (fail)
      go_at_call 38; (with_reducible refine (laws_toOutS.calls k _ _ l0 t307 _ ?side1 ?side2 A31.out).mono ?_); (case side1 => repeat (first | exact (Kd.C_below HR0.out HB.out) | (with_reducible refine Kd.C_alloc ?_ _) | (with_reducible refine Kd.C_drewN ?_ _) | (with_reducible refine Kd.C_drew ?_))); (case side2 => exact HC0.out)
      rintro e w32 ⟨v308, rfl, ho0, hb⟩
      have n0_ := Aside0.mk (Kd.R_elder' (by (with_reducible repeat (first | apply Kd.R_alloc | apply Kd.R_drewN | apply Kd.R_drew)); exact HO280.out) (Kd.R_base ho0) hb)
      have n1_ := Aside0.mk (Kd.R_elder' (by (with_reducible repeat (first | apply Kd.R_alloc | apply Kd.R_drewN | apply Kd.R_drew)); exact HO283.out) (Kd.R_base ho0) hb)
      have n2_ := Aside0.mk (Kd.R_below (by (with_reducible repeat (first | apply Kd.R_alloc | apply Kd.R_drewN | apply Kd.R_drew)); exact HO286.out) hb)
      have n3_ := Aside0.mk (Kd.R_elder' (by (with_reducible repeat (first | apply Kd.R_alloc | apply Kd.R_drewN | apply Kd.R_drew)); exact HO289.out) (Kd.R_base ho0) hb)
      have n4_ := Aside0.mk (Kd.R_elder' (by (with_reducible repeat (first | apply Kd.R_alloc | apply Kd.R_drewN | apply Kd.R_drew)); exact HO294.out) (Kd.R_base ho0) hb)
      have n5_ := Aside0.mk (Kd.R_elder' (by (with_reducible repeat (first | apply Kd.R_alloc | apply Kd.R_drewN | apply Kd.R_drew)); exact HO297.out) (Kd.R_base ho0) hb)
      have n6_ := Aside0.mk (Kd.R_below (by (with_reducible repeat (first | apply Kd.R_alloc | apply Kd.R_drewN | apply Kd.R_drew)); exact HO300.out) hb)
      have n7_ := Aside0.mk (Kd.R_elder' (by (with_reducible repeat (first | apply Kd.R_alloc | apply Kd.R_drewN | apply Kd.R_drew)); exact HO303.out) (Kd.R_base ho0) hb)
      have n8_ := Aside0.mk (Kd.R_lower (Kd.R_new' (Kd.R_new' (Kd.R_new' (Kd.R_new' (Kd.R_new' (Kd.R_new' ho0 (Kd.R_lt (by (with_reducible repeat (first | apply Kd.R_alloc | apply Kd.R_drewN | apply Kd.R_drew)); exact HO280.out))) (Kd.R_lt (by (with_reducible repeat (first | apply Kd.R_alloc | apply Kd.R_drewN | apply Kd.R_drew)); exact HO283.out))) (Kd.R_lt (by (with_reducible repeat (first | apply Kd.R_alloc | apply Kd.R_drewN | apply Kd.R_drew)); exact HO289.out))) (Kd.R_lt (by (with_reducible repeat (first | apply Kd.R_alloc | apply Kd.R_drewN | apply Kd.R_drew)); exact HO294.out))) (Kd.R_lt (by (with_reducible repeat (first | apply Kd.R_alloc | apply Kd.R_drewN | apply Kd.R_drew)); exact HO297.out))) (Kd.R_lt (by (with_reducible repeat (first | apply Kd.R_alloc | apply Kd.R_drewN | apply Kd.R_drew)); exact HO303.out))) (below_size (by repeat (first | (with_reducible first | exact HB.out | apply below_alloc | apply pw_below_drewN | apply below_drew1 | refine below_set ?_ GE291.out | refine below_set ?_ GE305.out) | exact HB.out))))
      have n9_ := Aside0.mk (blk_below (g := gb291) (o := .cells #[.slice Ao13 t281.length co13, .slice Ao15 t284.length co15, .slice Ao16 t287.length co16, .int .i64 t290] 34 (0, 0)) (by (with_reducible repeat (first | refine blk_drewN ?_ _ | refine blk_drew ?_ | refine blk_alloc ?_ _)); exact BK291.out) hb)
      have n10_ := Aside0.mk (blk_below (g := gb305) (o := .cells #[.slice Ao23 t295.length co23, .slice Ao26 t298.length co26, .slice Ao27 t301.length co27, .int .i64 t304] 34 (0, 0)) (by (with_reducible repeat (first | refine blk_drewN ?_ _ | refine blk_drew ?_ | refine blk_alloc ?_ _)); exact BK305.out) hb)
      have n11_ := Aside0.mk (below_step (by repeat (first | (with_reducible first | exact HB.out | apply below_alloc | apply pw_below_drewN | apply below_drew1 | refine below_set ?_ GE291.out | refine below_set ?_ GE305.out) | exact HB.out)) hb)
      clear HO280
      clear HO283
      clear HO286
      clear HO289
      clear HO294
      clear HO297
      clear HO300
      clear HO303
      clear BK291
      clear BK305
      clear HB
      have HO280 := n0_
      have HO283 := n1_
      have HO286 := n2_
      have HO289 := n3_
      have HO294 := n4_
      have HO297 := n5_
      have HO300 := n6_
      have HO303 := n7_
      have HO309 := n8_
      have BK291 := n9_
      have BK305 := n10_
      have HB := n11_
      clear n0_ n1_ n2_ n3_ n4_ n5_ n6_ n7_ n8_ n9_ n10_ n11_
      (try clear hb)
      (try clear hb2)
      (try clear hk)
      (try clear hi)
      (try clear ho0)
      replace H := Option.bind_eq_some_iff.mp H
      obtain ⟨t310, A330, H⟩ := H
      replace H : (if t310 = true then ((laws_markOutS.f k t292 1).bind fun bt311 => (if bt311.1 < 0 then (laws_FnExactOutboxTick.j0 k l0 a1 true t281 t284 t287 t290 t295 t298 t301 t304) else ((laws_eqOutboxOut.f k t295 t298 t301 t304 t281 t284 t287 t290).bind fun t313 => (laws_FnExactOutboxTick.j0 k l0 a1 (!t313) t281 t284 t287 t290 t295 t298 t301 t304)))) else (some false)) = some r := H
      have A33 := Aside0.mk A330
      clear A330
      obtain ⟨Ao34, co34, eo34⟩ := Kd.R_slice HO309.out
      subst eo34
      try go_wp2_with (fail)
      go_at_call 40; (with_reducible refine (laws_eqOutS.calls k _ _ t292 _ _ t307 t310 _ ?side1 ?side2 ?side3 ?side4 A33.out).mono ?_); (case side1 => repeat (first | exact (Kd.R_reads' HO294.out).2.2 | (with_reducible refine Kd.C_alloc ?_ _) | (with_reducible refine Kd.C_drewN ?_ _) | (with_reducible refine Kd.C_drew ?_))); (case side2 => exact (Kd.R_reads' HO294.out).2.1); (case side3 => repeat (first | exact (Kd.R_reads' HO309.out).2.2 | (with_reducible refine Kd.C_alloc ?_ _) | (with_reducible refine Kd.C_drewN ?_ _) | (with_reducible refine Kd.C_drew ?_))); (case side4 => exact (Kd.R_reads' HO309.out).2.1)
      rintro e w35 ⟨rfl, hb⟩
      have n0_ := Aside0.mk (Kd.R_below (by (with_reducible repeat (first | apply Kd.R_alloc | apply Kd.R_drewN | apply Kd.R_drew)); exact HO280.out) hb)
      have n1_ := Aside0.mk (Kd.R_below (by (with_reducible repeat (first | apply Kd.R_alloc | apply Kd.R_drewN | apply Kd.R_drew)); exact HO283.out) hb)
      have n2_ := Aside0.mk (Kd.R_below (by (with_reducible repeat (first | apply Kd.R_alloc | apply Kd.R_drewN | apply Kd.R_drew)); exact HO286.out) hb)
      have n3_ := Aside0.mk (Kd.R_below (by (with_reducible repeat (first | apply Kd.R_alloc | apply Kd.R_drewN | apply Kd.R_drew)); exact HO289.out) hb)
      have n4_ := Aside0.mk (Kd.R_below (by (with_reducible repeat (first | apply Kd.R_alloc | apply Kd.R_drewN | apply Kd.R_drew)); exact HO294.out) hb)
      have n5_ := Aside0.mk (Kd.R_below (by (with_reducible repeat (first | apply Kd.R_alloc | apply Kd.R_drewN | apply Kd.R_drew)); exact HO297.out) hb)
      have n6_ := Aside0.mk (Kd.R_below (by (with_reducible repeat (first | apply Kd.R_alloc | apply Kd.R_drewN | apply Kd.R_drew)); exact HO300.out) hb)
      have n7_ := Aside0.mk (Kd.R_below (by (with_reducible repeat (first | apply Kd.R_alloc | apply Kd.R_drewN | apply Kd.R_drew)); exact HO303.out) hb)
      have n8_ := Aside0.mk (Kd.R_below (by (with_reducible repeat (first | apply Kd.R_alloc | apply Kd.R_drewN | apply Kd.R_drew)); exact HO309.out) hb)
      have n9_ := Aside0.mk (blk_below (g := gb291) (o := .cells #[.slice Ao13 t281.length co13, .slice Ao15 t284.length co15, .slice Ao16 t287.length co16, .int .i64 t290] 34 (0, 0)) (by (with_reducible repeat (first | refine blk_drewN ?_ _ | refine blk_drew ?_ | refine blk_alloc ?_ _)); exact BK291.out) hb)
      have n10_ := Aside0.mk (blk_below (g := gb305) (o := .cells #[.slice Ao23 t295.length co23, .slice Ao26 t298.length co26, .slice Ao27 t301.length co27, .int .i64 t304] 34 (0, 0)) (by (with_reducible repeat (first | refine blk_drewN ?_ _ | refine blk_drew ?_ | refine blk_alloc ?_ _)); exact BK305.out) hb)
      have n11_ := Aside0.mk (below_step (by repeat (first | (with_reducible first | exact HB.out | apply below_alloc | apply pw_below_drewN | apply below_drew1 | refine below_set ?_ GE291.out | refine below_set ?_ GE305.out) | exact HB.out)) hb)
      clear HO280
      clear HO283
      clear HO286
      clear HO289
      clear HO294
      clear HO297
      clear HO300
      clear HO303
      clear HO309
      clear BK291
      clear BK305
      clear HB
      have HO280 := n0_
      have HO283 := n1_
      have HO286 := n2_
      have HO289 := n3_
      have HO294 := n4_
      have HO297 := n5_
      have HO300 := n6_
      have HO303 := n7_
      have HO309 := n8_
      have BK291 := n9_
      have BK305 := n10_
      have HB := n11_
      clear n0_ n1_ n2_ n3_ n4_ n5_ n6_ n7_ n8_ n9_ n10_ n11_
      (try clear hb)
      (try clear hb2)
      (try clear hk)
      (try clear hi)
      by_cases c36 : t310 = true
      · subst c36
        have H1 : ((laws_markOutS.f k t292 1).bind fun bt311 => (if bt311.1 < 0 then (laws_FnExactOutboxTick.j0 k l0 a1 true t281 t284 t287 t290 t295 t298 t301 t304) else ((laws_eqOutboxOut.f k t295 t298 t301 t304 t281 t284 t287 t290).bind fun t313 => (laws_FnExactOutboxTick.j0 k l0 a1 (!t313) t281 t284 t287 t290 t295 t298 t301 t304)))) = some r := by rw [if_pos rfl] at H; exact H
        clear H
        have H := H1
        clear H1
        replace H := Option.bind_eq_some_iff.mp H
        obtain ⟨⟨t311, t312⟩, A370, H⟩ := H
        replace H : (if t311 < 0 then (laws_FnExactOutboxTick.j0 k l0 a1 true t281 t284 t287 t290 t295 t298 t301 t304) else ((laws_eqOutboxOut.f k t295 t298 t301 t304 t281 t284 t287 t290).bind fun t313 => (laws_FnExactOutboxTick.j0 k l0 a1 (!t313) t281 t284 t287 t290 t295 t298 t301 t304))) = some r := H
        have A37 := Aside0.mk A370
        clear A370
        try go_wp2_with (fail)
        go_at_call 41; (with_reducible refine (laws_markOutS.calls k (fun k_ => some k_ = (.slice Ao19 t292.length co19 : Value).ownBlock) (.slice Ao19 t292.length co19) t292 1 t311 t312 w _ ?side1 ?side2 A37.out).mono ?_); (case side1 => repeat (first | (with_reducible first | exact HB.out | apply below_alloc | apply pw_below_drewN | apply below_drew1 | refine below_set ?_ GE291.out | refine below_set ?_ GE305.out) | exact HB.out)); (case side2 => exact Kd.R_tight rfl HO294.out)
        rintro e w38 ⟨rfl, hy0, hb, hkp⟩
        have n0_ := Aside0.mk (Kd.R_mono (ok' := fun k_ => some k_ ≠ (.slice Ao13 t281.length co13 : Value).ownBlock ∧ some k_ ≠ (.slice Ao16 t287.length co16 : Value).ownBlock ∧ some k_ ≠ (.slice Ao19 t292.length co19 : Value).ownBlock ∧ some k_ ≠ (.slice Ao23 t295.length co23 : Value).ownBlock ∧ some k_ ≠ (.slice Ao27 t301.length co27 : Value).ownBlock ∧ some k_ ≠ (.slice Ao34 t307.length co34 : Value).ownBlock) (Kd.R_keptB (HO280.out) hkp (fun k_ hk_ hs_ => (hk_.1.1.1.2) hs_)) (fun k_ hk_ => ⟨hk_.1.1.1.1.1.1.2, hk_.1.1.1.1.1.2, hk_.1.1.1.1.2, hk_.1.1.1.2, hk_.1.1.2, hk_.1.2⟩))
        have n1_ := Aside0.mk (Kd.R_mono (ok' := fun k_ => some k_ ≠ (.slice Ao9 t278.length co9 : Value).ownBlock ∧ some k_ ≠ (.slice Ao16 t287.length co16 : Value).ownBlock ∧ some k_ ≠ (.slice Ao19 t292.length co19 : Value).ownBlock ∧ some k_ ≠ (.slice Ao23 t295.length co23 : Value).ownBlock ∧ some k_ ≠ (.slice Ao27 t301.length co27 : Value).ownBlock ∧ some k_ ≠ (.slice Ao34 t307.length co34 : Value).ownBlock) (Kd.R_keptB (HO283.out) hkp (fun k_ hk_ hs_ => (hk_.1.1.1.2) hs_)) (fun k_ hk_ => ⟨hk_.1.1.1.1.1.2, hk_.1.1.1.1.1.1, hk_.1.1.1.1.2, hk_.1.1.1.2, hk_.1.1.2, hk_.1.2⟩))
        have n2_ := Aside0.mk (Kd.R_mono (ok' := fun k_ => some k_ ≠ (.slice Ao26 t298.length co26 : Value).ownBlock) (Kd.R_keptB ((Kd.R_apart' HO286.out (Kd.R_typed HO294.out) (by decide))) hkp (fun k_ hk_ hs_ => (hk_.2) hs_)) (fun k_ hk_ => hk_.1.1.2))
        have n3_ := Aside0.mk (Kd.R_mono (ok' := fun k_ => some k_ ≠ (.slice Ao9 t278.length co9 : Value).ownBlock ∧ some k_ ≠ (.slice Ao13 t281.length co13 : Value).ownBlock ∧ some k_ ≠ (.slice Ao19 t292.length co19 : Value).ownBlock ∧ some k_ ≠ (.slice Ao23 t295.length co23 : Value).ownBlock ∧ some k_ ≠ (.slice Ao27 t301.length co27 : Value).ownBlock ∧ some k_ ≠ (.slice Ao34 t307.length co34 : Value).ownBlock) (Kd.R_keptB (HO289.out) hkp (fun k_ hk_ hs_ => (hk_.1.1.1.2) hs_)) (fun k_ hk_ => ⟨hk_.1.1.1.1.1.2, hk_.1.1.1.1.1.1, hk_.1.1.1.1.2, hk_.1.1.1.2, hk_.1.1.2, hk_.1.2⟩))
        have n4_ := Aside0.mk (blk_kept (by (with_reducible repeat (first | refine blk_drewN ?_ _ | refine blk_drew ?_ | refine blk_alloc ?_ _)); exact BK291.out) hkp (fun hs_ => (fun e_ => (Kd.R_ne HO294.out BK291.out (by decide)) e_) hs_))
        have n5_ := Aside0.mk (Kd.R_reok rfl hy0 (fun k_ e_ => HO294.out.1 k_ e_))
        have n6_ := Aside0.mk (Kd.R_mono (ok' := fun k_ => some k_ ≠ (.slice Ao9 t278.length co9 : Value).ownBlock ∧ some k_ ≠ (.slice Ao13 t281.length co13 : Value).ownBlock ∧ some k_ ≠ (.slice Ao16 t287.length co16 : Value).ownBlock ∧ some k_ ≠ (.slice Ao19 t292.length co19 : Value).ownBlock ∧ some k_ ≠ (.slice Ao27 t301.length co27 : Value).ownBlock ∧ some k_ ≠ (.slice Ao34 t307.length co34 : Value).ownBlock) (Kd.R_keptB (HO297.out) hkp (fun k_ hk_ hs_ => (hk_.1.2) hs_)) (fun k_ hk_ => ⟨hk_.1.1.1.1.1.2, hk_.1.1.1.1.2, hk_.1.1.1.2, hk_.1.1.2, hk_.1.1.1.1.1.1, hk_.1.2⟩))
        have n7_ := Aside0.mk (Kd.R_mono (ok' := fun k_ => some k_ ≠ (.slice Ao15 t284.length co15 : Value).ownBlock) (Kd.R_keptB ((Kd.R_apart' HO300.out (Kd.R_typed HO294.out) (by decide))) hkp (fun k_ hk_ hs_ => (hk_.2) hs_)) (fun k_ hk_ => hk_.1.1.2))
        have n8_ := Aside0.mk (Kd.R_mono (ok' := fun k_ => some k_ ≠ (.slice Ao9 t278.length co9 : Value).ownBlock ∧ some k_ ≠ (.slice Ao13 t281.length co13 : Value).ownBlock ∧ some k_ ≠ (.slice Ao16 t287.length co16 : Value).ownBlock ∧ some k_ ≠ (.slice Ao19 t292.length co19 : Value).ownBlock ∧ some k_ ≠ (.slice Ao23 t295.length co23 : Value).ownBlock ∧ some k_ ≠ (.slice Ao34 t307.length co34 : Value).ownBlock) (Kd.R_keptB (HO303.out) hkp (fun k_ hk_ hs_ => (hk_.1.2) hs_)) (fun k_ hk_ => ⟨hk_.1.1.1.1.1.2, hk_.1.1.1.1.2, hk_.1.1.1.2, hk_.1.1.2, hk_.1.1.1.1.1.1, hk_.1.2⟩))
        have n9_ := Aside0.mk (blk_kept (by (with_reducible repeat (first | refine blk_drewN ?_ _ | refine blk_drew ?_ | refine blk_alloc ?_ _)); exact BK305.out) hkp (fun hs_ => (fun e_ => (Kd.R_ne HO294.out BK305.out (by decide)) e_) hs_))
        have n10_ := Aside0.mk (Kd.R_mono (ok' := fun k_ => some k_ ≠ (.slice Ao9 t278.length co9 : Value).ownBlock ∧ some k_ ≠ (.slice Ao13 t281.length co13 : Value).ownBlock ∧ some k_ ≠ (.slice Ao16 t287.length co16 : Value).ownBlock ∧ some k_ ≠ (.slice Ao19 t292.length co19 : Value).ownBlock ∧ some k_ ≠ (.slice Ao23 t295.length co23 : Value).ownBlock ∧ some k_ ≠ (.slice Ao27 t301.length co27 : Value).ownBlock) (Kd.R_keptB (HO309.out) hkp (fun k_ hk_ hs_ => (hk_.1.1.2) hs_)) (fun k_ hk_ => ⟨hk_.1.1.1.1.1.1.2, hk_.1.1.1.1.1.2, hk_.1.1.1.1.2, hk_.1.1.1.2, hk_.1.1.2, hk_.1.2⟩))
        have n11_ := Aside0.mk (hb)
        clear HO280
        clear HO283
        clear HO286
        clear HO289
        clear BK291
        clear HO294
        clear HO297
        clear HO300
        clear HO303
        clear BK305
        clear HO309
        clear HB
        have HO280 := n0_
        have HO283 := n1_
        have HO286 := n2_
        have HO289 := n3_
        have BK291 := n4_
        have HO294 := n5_
        have HO297 := n6_
        have HO300 := n7_
        have HO303 := n8_
        have BK305 := n9_
        have HO309 := n10_
        have HB := n11_
        clear n0_ n1_ n2_ n3_ n4_ n5_ n6_ n7_ n8_ n9_ n10_ n11_
        (try clear hb)
        (try clear hkp)
        (try clear hy0)
        have HC39 := Aside0.mk H
        clear H
        go_upto_region 14 with (fail)
        go_cut [46] (fun v46 wc => ∃ (kq : Nat) (x46_38 : Bool), v46 = .bool x46_38 ∧ Aside0 (laws_FnExactOutboxTick.j0 kq l0 a1 x46_38 t281 t284 t287 t290 t295 t298 t301 t304 = some r) ∧ Aside0 (kq ≤ k) ∧ Aside0 (Kd.R k24 24 wc w.heap.size (fun k_ => some k_ ≠ ((.slice Ao16 t287.length co16) : Value).ownBlock ∧ some k_ ≠ ((.slice Ao23 t295.length co23) : Value).ownBlock ∧ some k_ ≠ ((.slice Ao27 t301.length co27) : Value).ownBlock) (.slice Ao13 t281.length co13) t281) ∧ Aside0 (Kd.R k105 105 wc w.heap.size (fun k_ => some k_ ≠ ((.slice Ao26 t298.length co26) : Value).ownBlock) (.slice Ao15 t284.length co15) t284) ∧ Aside0 (Kd.R k24 24 wc w.heap.size (fun k_ => some k_ ≠ ((.slice Ao13 t281.length co13) : Value).ownBlock ∧ some k_ ≠ ((.slice Ao23 t295.length co23) : Value).ownBlock ∧ some k_ ≠ ((.slice Ao27 t301.length co27) : Value).ownBlock) (.slice Ao16 t287.length co16) t287) ∧ Aside0 (Kd.R k24 24 wc w.heap.size (fun k_ => some k_ ≠ ((.slice Ao13 t281.length co13) : Value).ownBlock ∧ some k_ ≠ ((.slice Ao16 t287.length co16) : Value).ownBlock ∧ some k_ ≠ ((.slice Ao27 t301.length co27) : Value).ownBlock) (.slice Ao23 t295.length co23) t295) ∧ Aside0 (Kd.R k105 105 wc w.heap.size (fun k_ => some k_ ≠ ((.slice Ao15 t284.length co15) : Value).ownBlock) (.slice Ao26 t298.length co26) t298) ∧ Aside0 (Kd.R k24 24 wc w.heap.size (fun k_ => some k_ ≠ ((.slice Ao13 t281.length co13) : Value).ownBlock ∧ some k_ ≠ ((.slice Ao16 t287.length co16) : Value).ownBlock ∧ some k_ ≠ ((.slice Ao23 t295.length co23) : Value).ownBlock) (.slice Ao27 t301.length co27) t301) ∧ Aside0 (wc.heap[gb291]? = some (.cells #[(.slice Ao13 t281.length co13), (.slice Ao15 t284.length co15), (.slice Ao16 t287.length co16), .int .i64 t290] 34 (0, 0))) ∧ Aside0 (wc.heap[gb305]? = some (.cells #[(.slice Ao23 t295.length co23), (.slice Ao26 t298.length co26), (.slice Ao27 t301.length co27), .int .i64 t304] 34 (0, 0))) ∧ Aside0 (Below w.heap.size w wc))
        case first =>
          have H := HC39.out
          clear HC39
          by_cases c40 : t311 < 0
          · rw [if_pos c40] at H
            have c40b0 : decide (t311 < 0) = true := decide_eq_true c40
            clear c40
            (first | rw [c40b0] | (simp only [i64_w, i32_w]; rw [c40b0]) | skip)
            have H' := Aside0.mk H
            clear H
            go_wp2
            go_meet
            case rel => exact ⟨_, (true), (by first | rfl | (simp; done) | (simp [*]; done)), H', ⟨by first | omega | exact Nat.le_refl _⟩, ⟨by (with_reducible repeat (first | apply Kd.R_alloc | apply Kd.R_drewN | apply Kd.R_drew)); exact Kd.R_mono HO283.out (fun _ hk => ⟨hk.2.1, ⟨hk.2.2.2.1, hk.2.2.2.2.1⟩⟩)⟩, ⟨by (with_reducible repeat (first | apply Kd.R_alloc | apply Kd.R_drewN | apply Kd.R_drew)); exact HO286.out⟩, ⟨by (with_reducible repeat (first | apply Kd.R_alloc | apply Kd.R_drewN | apply Kd.R_drew)); exact Kd.R_mono HO289.out (fun _ hk => ⟨hk.2.1, ⟨hk.2.2.2.1, hk.2.2.2.2.1⟩⟩)⟩, ⟨by (with_reducible repeat (first | apply Kd.R_alloc | apply Kd.R_drewN | apply Kd.R_drew)); exact Kd.R_mono HO297.out (fun _ hk => ⟨hk.2.1, ⟨hk.2.2.1, hk.2.2.2.2.1⟩⟩)⟩, ⟨by (with_reducible repeat (first | apply Kd.R_alloc | apply Kd.R_drewN | apply Kd.R_drew)); exact HO300.out⟩, ⟨by (with_reducible repeat (first | apply Kd.R_alloc | apply Kd.R_drewN | apply Kd.R_drew)); exact Kd.R_mono HO303.out (fun _ hk => ⟨hk.2.1, ⟨hk.2.2.1, hk.2.2.2.2.1⟩⟩)⟩, ⟨by (with_reducible repeat (first | refine blk_drewN ?_ _ | refine blk_drew ?_ | refine blk_alloc ?_ _)); exact BK291.out⟩, ⟨by (with_reducible repeat (first | refine blk_drewN ?_ _ | refine blk_drew ?_ | refine blk_alloc ?_ _)); exact BK305.out⟩, ⟨by repeat (first | (with_reducible first | exact HB.out | apply below_alloc | apply pw_below_drewN | apply below_drew1 | refine below_set ?_ GE291.out | refine below_set ?_ GE305.out) | exact HB.out)⟩⟩
          · rw [if_neg c40] at H
            have c40b0 : decide (t311 < 0) = false := decide_eq_false c40
            clear c40
            (first | rw [c40b0] | (simp only [i64_w, i32_w]; rw [c40b0]) | skip)
            replace H := Option.bind_eq_some_iff.mp H
            obtain ⟨t313, A410, H⟩ := H
            replace H : (laws_FnExactOutboxTick.j0 k l0 a1 (!t313) t281 t284 t287 t290 t295 t298 t301 t304) = some r := H
            have A41 := Aside0.mk A410
            clear A410
            have H' := Aside0.mk H
            clear H
            have hnb42 := NB305_291.out
            have hnc42 := NB291_305.out
            have hcz43_0 : w38.cell? ⟨gb305, 0, none⟩ = some (.slice Ao23 t295.length co23) := (blk_cell BK305.out 0).trans rfl
            have hcz43_1 : w38.cell? ⟨gb305, 1, none⟩ = some (.slice Ao26 t298.length co26) := (blk_cell BK305.out 1).trans rfl
            have hcz43_2 : w38.cell? ⟨gb305, 2, none⟩ = some (.slice Ao27 t301.length co27) := (blk_cell BK305.out 2).trans rfl
            have hcz43_3 : w38.cell? ⟨gb305, 3, none⟩ = some (.int .i64 t304) := (blk_cell BK305.out 3).trans rfl
            have hfz43_0 := blk_frozen BK305.out 0
            have hfz43_1 := blk_frozen BK305.out 1
            have hfz43_2 := blk_frozen BK305.out 2
            have hfz43_3 := blk_frozen BK305.out 3
            have hcz44_0 : w38.cell? ⟨gb291, 0, none⟩ = some (.slice Ao13 t281.length co13) := (blk_cell BK291.out 0).trans rfl
            have hcz44_1 : w38.cell? ⟨gb291, 1, none⟩ = some (.slice Ao15 t284.length co15) := (blk_cell BK291.out 1).trans rfl
            have hcz44_2 : w38.cell? ⟨gb291, 2, none⟩ = some (.slice Ao16 t287.length co16) := (blk_cell BK291.out 2).trans rfl
            have hcz44_3 : w38.cell? ⟨gb291, 3, none⟩ = some (.int .i64 t290) := (blk_cell BK291.out 3).trans rfl
            have hfz44_0 := blk_frozen BK291.out 0
            have hfz44_1 := blk_frozen BK291.out 1
            have hfz44_2 := blk_frozen BK291.out 2
            have hfz44_3 := blk_frozen BK291.out 3
            go_wp2_with (first | (go_at_call 39; (with_reducible refine (laws_eqOutboxOut.calls k _ _ t295 _ _ t298 _ _ t301 t304 _ _ t281 _ _ t284 _ _ t287 t290 t313 _ ?side1 ?side2 ?side3 ?side4 ?side5 ?side6 ?side7 ?side8 ?side9 ?side10 ?side11 ?side12 A41.out).mono ?_); (case side1 => repeat (first | exact (Kd.R_reads' HO297.out).2.2 | (with_reducible refine Kd.C_alloc ?_ _) | (with_reducible refine Kd.C_drewN ?_ _) | (with_reducible refine Kd.C_drew ?_))); (case side2 => exact (Kd.R_reads' HO297.out).2.1); (case side3 => repeat (first | exact (Kd.R_reads' HO300.out).2.2 | (with_reducible refine Kd.C_alloc ?_ _) | (with_reducible refine Kd.C_drewN ?_ _) | (with_reducible refine Kd.C_drew ?_))); (case side4 => exact (Kd.R_reads' HO300.out).2.1); (case side5 => repeat (first | exact (Kd.R_reads' HO303.out).2.2 | (with_reducible refine Kd.C_alloc ?_ _) | (with_reducible refine Kd.C_drewN ?_ _) | (with_reducible refine Kd.C_drew ?_))); (case side6 => exact (Kd.R_reads' HO303.out).2.1); (case side7 => repeat (first | exact (Kd.R_reads' HO283.out).2.2 | (with_reducible refine Kd.C_alloc ?_ _) | (with_reducible refine Kd.C_drewN ?_ _) | (with_reducible refine Kd.C_drew ?_))); (case side8 => exact (Kd.R_reads' HO283.out).2.1); (case side9 => repeat (first | exact (Kd.R_reads' HO286.out).2.2 | (with_reducible refine Kd.C_alloc ?_ _) | (with_reducible refine Kd.C_drewN ?_ _) | (with_reducible refine Kd.C_drew ?_))); (case side10 => exact (Kd.R_reads' HO286.out).2.1); (case side11 => repeat (first | exact (Kd.R_reads' HO289.out).2.2 | (with_reducible refine Kd.C_alloc ?_ _) | (with_reducible refine Kd.C_drewN ?_ _) | (with_reducible refine Kd.C_drew ?_))); (case side12 => exact (Kd.R_reads' HO289.out).2.1); rintro e w45 ⟨rfl, hb⟩; have n0_ := Aside0.mk (Kd.R_below (by (with_reducible repeat (first | apply Kd.R_alloc | apply Kd.R_drewN | apply Kd.R_drew)); exact HO280.out) hb); have n1_ := Aside0.mk (Kd.R_below (by (with_reducible repeat (first | apply Kd.R_alloc | apply Kd.R_drewN | apply Kd.R_drew)); exact HO283.out) hb); have n2_ := Aside0.mk (Kd.R_below (by (with_reducible repeat (first | apply Kd.R_alloc | apply Kd.R_drewN | apply Kd.R_drew)); exact HO286.out) hb); have n3_ := Aside0.mk (Kd.R_below (by (with_reducible repeat (first | apply Kd.R_alloc | apply Kd.R_drewN | apply Kd.R_drew)); exact HO289.out) hb); have n4_ := Aside0.mk (Kd.R_below (by (with_reducible repeat (first | apply Kd.R_alloc | apply Kd.R_drewN | apply Kd.R_drew)); exact HO294.out) hb); have n5_ := Aside0.mk (Kd.R_below (by (with_reducible repeat (first | apply Kd.R_alloc | apply Kd.R_drewN | apply Kd.R_drew)); exact HO297.out) hb); have n6_ := Aside0.mk (Kd.R_below (by (with_reducible repeat (first | apply Kd.R_alloc | apply Kd.R_drewN | apply Kd.R_drew)); exact HO300.out) hb); have n7_ := Aside0.mk (Kd.R_below (by (with_reducible repeat (first | apply Kd.R_alloc | apply Kd.R_drewN | apply Kd.R_drew)); exact HO303.out) hb); have n8_ := Aside0.mk (Kd.R_below (by (with_reducible repeat (first | apply Kd.R_alloc | apply Kd.R_drewN | apply Kd.R_drew)); exact HO309.out) hb); have n9_ := Aside0.mk (blk_below (g := gb291) (o := .cells #[.slice Ao13 t281.length co13, .slice Ao15 t284.length co15, .slice Ao16 t287.length co16, .int .i64 t290] 34 (0, 0)) (by (with_reducible repeat (first | refine blk_drewN ?_ _ | refine blk_drew ?_ | refine blk_alloc ?_ _)); exact BK291.out) hb); have n10_ := Aside0.mk (blk_below (g := gb305) (o := .cells #[.slice Ao23 t295.length co23, .slice Ao26 t298.length co26, .slice Ao27 t301.length co27, .int .i64 t304] 34 (0, 0)) (by (with_reducible repeat (first | refine blk_drewN ?_ _ | refine blk_drew ?_ | refine blk_alloc ?_ _)); exact BK305.out) hb); have n11_ := Aside0.mk (below_step (by repeat (first | (with_reducible first | exact HB.out | apply below_alloc | apply pw_below_drewN | apply below_drew1 | refine below_set ?_ GE291.out | refine below_set ?_ GE305.out) | exact HB.out)) hb); clear HO280; clear HO283; clear HO286; clear HO289; clear HO294; clear HO297; clear HO300; clear HO303; clear HO309; clear BK291; clear BK305; clear HB; have HO280 := n0_; have HO283 := n1_; have HO286 := n2_; have HO289 := n3_; have HO294 := n4_; have HO297 := n5_; have HO300 := n6_; have HO303 := n7_; have HO309 := n8_; have BK291 := n9_; have BK305 := n10_; have HB := n11_; clear n0_ n1_ n2_ n3_ n4_ n5_ n6_ n7_ n8_ n9_ n10_ n11_; (try clear hb); (try clear hb2); (try clear hk); (try clear hi)))
            go_meet
            case rel => exact ⟨_, (!t313), (by first | rfl | (simp; done) | (simp [*]; done)), H', ⟨by first | omega | exact Nat.le_refl _⟩, ⟨by (with_reducible repeat (first | apply Kd.R_alloc | apply Kd.R_drewN | apply Kd.R_drew)); exact Kd.R_mono HO283.out (fun _ hk => ⟨hk.2.1, ⟨hk.2.2.2.1, hk.2.2.2.2.1⟩⟩)⟩, ⟨by (with_reducible repeat (first | apply Kd.R_alloc | apply Kd.R_drewN | apply Kd.R_drew)); exact HO286.out⟩, ⟨by (with_reducible repeat (first | apply Kd.R_alloc | apply Kd.R_drewN | apply Kd.R_drew)); exact Kd.R_mono HO289.out (fun _ hk => ⟨hk.2.1, ⟨hk.2.2.2.1, hk.2.2.2.2.1⟩⟩)⟩, ⟨by (with_reducible repeat (first | apply Kd.R_alloc | apply Kd.R_drewN | apply Kd.R_drew)); exact Kd.R_mono HO297.out (fun _ hk => ⟨hk.2.1, ⟨hk.2.2.1, hk.2.2.2.2.1⟩⟩)⟩, ⟨by (with_reducible repeat (first | apply Kd.R_alloc | apply Kd.R_drewN | apply Kd.R_drew)); exact HO300.out⟩, ⟨by (with_reducible repeat (first | apply Kd.R_alloc | apply Kd.R_drewN | apply Kd.R_drew)); exact Kd.R_mono HO303.out (fun _ hk => ⟨hk.2.1, ⟨hk.2.2.1, hk.2.2.2.2.1⟩⟩)⟩, ⟨by (with_reducible repeat (first | refine blk_drewN ?_ _ | refine blk_drew ?_ | refine blk_alloc ?_ _)); exact BK291.out⟩, ⟨by (with_reducible repeat (first | refine blk_drewN ?_ _ | refine blk_drew ?_ | refine blk_alloc ?_ _)); exact BK305.out⟩, ⟨by repeat (first | (with_reducible first | exact HB.out | apply below_alloc | apply pw_below_drewN | apply below_drew1 | refine below_set ?_ GE291.out | refine below_set ?_ GE305.out) | exact HB.out)⟩⟩
        case rest =>
          clear HC39
          try clear c2
          try clear p2
          try clear c3
          try clear c4
          try clear c5
          try clear c5b0
          try clear c8
          try clear c24
          try clear c30
          try clear c36
          try clear c40
          try clear c40b0
          try clear c42
          try clear hcz14_0
          try clear hcz14_1
          try clear hcz14_2
          try clear hcz14_3
          try clear hcz25_0
          try clear hcz25_1
          try clear hcz25_2
          try clear hcz25_3
          try clear hcz28_0
          try clear hcz28_1
          try clear hcz28_2
          try clear hcz28_3
          try clear hcz43_0
          try clear hcz43_1
          try clear hcz43_2
          try clear hcz43_3
          try clear hcz44_0
          try clear hcz44_1
          try clear hcz44_2
          try clear hcz44_3
          try clear hfz14_0
          try clear hfz14_1
          try clear hfz14_2
          try clear hfz14_3
          try clear hfz25_0
          try clear hfz25_1
          try clear hfz25_2
          try clear hfz25_3
          try clear hfz28_0
          try clear hfz28_1
          try clear hfz28_2
          try clear hfz28_3
          try clear hfz43_0
          try clear hfz43_1
          try clear hfz43_2
          try clear hfz43_3
          try clear hfz44_0
          try clear hfz44_1
          try clear hfz44_2
          try clear hfz44_3
          obtain ⟨kq, x46_38, rfl, HA, HJ38, HO_292000, HO_292001, HO_292002, HO_306000, HO_306001, HO_306002, BK291, BK305, HB⟩ := hcut
          cases kq with
          | zero => exact absurd HA.out (by simp [laws_FnExactOutboxTick.j0])
          | succ kj38 =>
            have H := HA.out
            clear HA
            simp only [laws_FnExactOutboxTick.j0] at H
            by_cases c46 : x46_38 = true
            · subst c46
              have H1 : (some false) = some r := by rw [if_pos rfl] at H; exact H
              clear H
              have H := H1
              clear H1
              obtain rfl := Option.some.inj H
              go_wp2
              go_ret
              exact ⟨by first | rfl | (simp [errW_none, errW_some] <;> rfl) | (simp [*, errW_none, errW_some] <;> rfl), by repeat (first | (with_reducible first | exact HB.out | apply below_alloc | apply pw_below_drewN | apply below_drew1 | refine below_set ?_ GE291.out | refine below_set ?_ GE305.out) | exact HB.out)⟩
            · replace c46 := Bool.eq_false_iff.mpr c46
              subst c46
              have H1 : ((laws_markOutboxOut.f kj38 t295 t298 t301 t304 1).bind fun bt314 => ((laws_heldOutboxOut.f kj38 bt314.2.1 bt314.2.2.1 bt314.2.2.2 t304 1).bind fun t318 => (if t318 < 0 then (some false) else (if t318 = bt314.1 then ((laws_toOutS.f kj38 l0).bind fun t319 => ((impl_OutboxTick.f kj38 t319 a1).bind fun bt322 => ((laws_eqOutboxOut.f kj38 bt322.1 bt322.2.1 bt322.2.2.1 bt322.2.2.2 t281 t284 t287 t290).bind fun t333 => (if t333 = true then ((laws_heldOutboxOut.f kj38 bt314.2.1 bt314.2.2.1 bt314.2.2.2 t304 1).bind fun t334 => (if t334 < 0 then (some false) else (if t334 = bt314.1 then (some true) else (some false)))) else (some false))))) else (some false))))) = some r := by rw [if_neg (show ¬ (false = true) by decide)] at H; exact H
              clear H
              have H := H1
              clear H1
              replace H := Option.bind_eq_some_iff.mp H
              obtain ⟨⟨t314, t315, t316, t317⟩, A470, H⟩ := H
              replace H : ((laws_heldOutboxOut.f kj38 t315 t316 t317 t304 1).bind fun t318 => (if t318 < 0 then (some false) else (if t318 = t314 then ((laws_toOutS.f kj38 l0).bind fun t319 => ((impl_OutboxTick.f kj38 t319 a1).bind fun bt322 => ((laws_eqOutboxOut.f kj38 bt322.1 bt322.2.1 bt322.2.2.1 bt322.2.2.2 t281 t284 t287 t290).bind fun t333 => (if t333 = true then ((laws_heldOutboxOut.f kj38 t315 t316 t317 t304 1).bind fun t334 => (if t334 < 0 then (some false) else (if t334 = t314 then (some true) else (some false)))) else (some false))))) else (some false)))) = some r := H
              have A47 := Aside0.mk A470
              clear A470
              have hnb48 := NB305_291.out
              have hnc48 := NB291_305.out
              have hcz49_0 : wc.cell? ⟨gb305, 0, none⟩ = some (.slice Ao23 t295.length co23) := (blk_cell BK305.out 0).trans rfl
              have hcz49_1 : wc.cell? ⟨gb305, 1, none⟩ = some (.slice Ao26 t298.length co26) := (blk_cell BK305.out 1).trans rfl
              have hcz49_2 : wc.cell? ⟨gb305, 2, none⟩ = some (.slice Ao27 t301.length co27) := (blk_cell BK305.out 2).trans rfl
              have hcz49_3 : wc.cell? ⟨gb305, 3, none⟩ = some (.int .i64 t304) := (blk_cell BK305.out 3).trans rfl
              have hfz49_0 := blk_frozen BK305.out 0
              have hfz49_1 := blk_frozen BK305.out 1
              have hfz49_2 := blk_frozen BK305.out 2
              have hfz49_3 := blk_frozen BK305.out 3
              try go_wp2_with (fail)
              go_at_call 42; (with_reducible refine (laws_markOutboxOut.calls kj38 (fun k_ => some k_ = (.slice Ao23 t295.length co23 : Value).ownBlock) (.slice Ao23 t295.length co23) t295 (fun k_ => some k_ = (.slice Ao26 t298.length co26 : Value).ownBlock) (.slice Ao26 t298.length co26) t298 (fun k_ => some k_ = (.slice Ao27 t301.length co27 : Value).ownBlock) (.slice Ao27 t301.length co27) t301 t304 1 t314 t315 t316 t317 w _ ?side1 ?side2 ?side3 ?side4 ?side5 ?side6 A47.out).mono ?_); (case side1 => repeat (first | (with_reducible first | exact HB.out | apply below_alloc | apply pw_below_drewN | apply below_drew1 | refine below_set ?_ GE291.out | refine below_set ?_ GE305.out) | exact HB.out)); (case side2 => exact Kd.R_tight rfl HO_306000.out); (case side3 => exact fun k_ e_ => (HO_306000.out.1 k_ e_.symm).2.2); (case side4 => exact Kd.R_tight rfl HO_306001.out); (case side5 => exact Kd.R_tight rfl HO_306002.out); (case side6 => exact fun k_ e_ => (HO_306002.out.1 k_ e_.symm).2.2)
              rintro e w50 ⟨rfl, hy0, hy1, hy2, hb, hkp⟩
              have n0_ := Aside0.mk (Kd.R_mono (ok' := fun k_ => some k_ ≠ (.slice Ao16 t287.length co16 : Value).ownBlock ∧ some k_ ≠ (.slice Ao23 t295.length co23 : Value).ownBlock ∧ some k_ ≠ (.slice Ao27 t301.length co27 : Value).ownBlock) (Kd.R_keptB ((Kd.R_apart' HO_292000.out (Kd.R_typed HO_306001.out) (by decide))) hkp (fun k_ hk_ hs_ => Or.elim hs_ (fun e_ => (hk_.1.2.1) e_) (fun e_ => Or.elim e_ (fun e_ => (hk_.2) e_) (fun e_ => (hk_.1.2.2) e_)))) (fun k_ hk_ => ⟨hk_.1.1.1, hk_.1.1.2.1, hk_.1.1.2.2⟩))
              have n1_ := Aside0.mk (Kd.R_mono (ok' := fun k_ => some k_ ≠ (.slice Ao26 t298.length co26 : Value).ownBlock) (Kd.R_keptB ((Kd.R_apart' (Kd.R_apart' HO_292001.out (Kd.R_typed HO_306000.out) (by decide)) (Kd.R_typed HO_306002.out) (by decide))) hkp (fun k_ hk_ hs_ => Or.elim hs_ (fun e_ => (hk_.1.2) e_) (fun e_ => Or.elim e_ (fun e_ => (hk_.1.1) e_) (fun e_ => (hk_.2) e_)))) (fun k_ hk_ => hk_.1.1.1))
              have n2_ := Aside0.mk (Kd.R_mono (ok' := fun k_ => some k_ ≠ (.slice Ao13 t281.length co13 : Value).ownBlock ∧ some k_ ≠ (.slice Ao23 t295.length co23 : Value).ownBlock ∧ some k_ ≠ (.slice Ao27 t301.length co27 : Value).ownBlock) (Kd.R_keptB ((Kd.R_apart' HO_292002.out (Kd.R_typed HO_306001.out) (by decide))) hkp (fun k_ hk_ hs_ => Or.elim hs_ (fun e_ => (hk_.1.2.1) e_) (fun e_ => Or.elim e_ (fun e_ => (hk_.2) e_) (fun e_ => (hk_.1.2.2) e_)))) (fun k_ hk_ => ⟨hk_.1.1.1, hk_.1.1.2.1, hk_.1.1.2.2⟩))
              have n3_ := Aside0.mk (Kd.R_reok rfl hy0 (fun k_ e_ => HO_306000.out.1 k_ e_))
              have n4_ := Aside0.mk (Kd.R_reok rfl hy1 (fun k_ e_ => HO_306001.out.1 k_ e_))
              have n5_ := Aside0.mk (Kd.R_reok rfl hy2 (fun k_ e_ => HO_306002.out.1 k_ e_))
              have n6_ := Aside0.mk (blk_kept (by (with_reducible repeat (first | refine blk_drewN ?_ _ | refine blk_drew ?_ | refine blk_alloc ?_ _)); exact BK291.out) hkp (fun hs_ => Or.elim hs_ (fun e_ => (fun e_ => (Kd.R_ne HO_306000.out BK291.out (by decide)) e_) e_) (fun e_ => Or.elim e_ (fun e_ => (fun e_ => (Kd.R_ne HO_306001.out BK291.out (by decide)) e_) e_) (fun e_ => (fun e_ => (Kd.R_ne HO_306002.out BK291.out (by decide)) e_) e_))))
              have n7_ := Aside0.mk (blk_kept (by (with_reducible repeat (first | refine blk_drewN ?_ _ | refine blk_drew ?_ | refine blk_alloc ?_ _)); exact BK305.out) hkp (fun hs_ => Or.elim hs_ (fun e_ => (fun e_ => (Kd.R_ne HO_306000.out BK305.out (by decide)) e_) e_) (fun e_ => Or.elim e_ (fun e_ => (fun e_ => (Kd.R_ne HO_306001.out BK305.out (by decide)) e_) e_) (fun e_ => (fun e_ => (Kd.R_ne HO_306002.out BK305.out (by decide)) e_) e_))))
              have n8_ := Aside0.mk (hb)
              clear HO_292000
              clear HO_292001
              clear HO_292002
              clear HO_306000
              clear HO_306001
              clear HO_306002
              clear BK291
              clear BK305
              clear HB
              have HO_292000 := n0_
              have HO_292001 := n1_
              have HO_292002 := n2_
              have HO_306000 := n3_
              have HO_306001 := n4_
              have HO_306002 := n5_
              have BK291 := n6_
              have BK305 := n7_
              have HB := n8_
              clear n0_ n1_ n2_ n3_ n4_ n5_ n6_ n7_ n8_
              (try clear hb)
              (try clear hkp)
              (try clear hy0)
              (try clear hy1)
              (try clear hy2)
              replace H := Option.bind_eq_some_iff.mp H
              obtain ⟨t318, A510, H⟩ := H
              replace H : (if t318 < 0 then (some false) else (if t318 = t314 then ((laws_toOutS.f kj38 l0).bind fun t319 => ((impl_OutboxTick.f kj38 t319 a1).bind fun bt322 => ((laws_eqOutboxOut.f kj38 bt322.1 bt322.2.1 bt322.2.2.1 bt322.2.2.2 t281 t284 t287 t290).bind fun t333 => (if t333 = true then ((laws_heldOutboxOut.f kj38 t315 t316 t317 t304 1).bind fun t334 => (if t334 < 0 then (some false) else (if t334 = t314 then (some true) else (some false)))) else (some false))))) else (some false))) = some r := H
              have A51 := Aside0.mk A510
              clear A510
              have hnb52 := NB305_291.out
              have hnc52 := NB291_305.out
              have hcz53_0 : w50.cell? ⟨gb305, 0, none⟩ = some (.slice Ao23 t295.length co23) := (blk_cell BK305.out 0).trans rfl
              have hcz53_1 : w50.cell? ⟨gb305, 1, none⟩ = some (.slice Ao26 t298.length co26) := (blk_cell BK305.out 1).trans rfl
              have hcz53_2 : w50.cell? ⟨gb305, 2, none⟩ = some (.slice Ao27 t301.length co27) := (blk_cell BK305.out 2).trans rfl
              have hcz53_3 : w50.cell? ⟨gb305, 3, none⟩ = some (.int .i64 t304) := (blk_cell BK305.out 3).trans rfl
              have hfz53_0 := blk_frozen BK305.out 0
              have hfz53_1 := blk_frozen BK305.out 1
              have hfz53_2 := blk_frozen BK305.out 2
              have hfz53_3 := blk_frozen BK305.out 3
              try go_wp2_with (fail)
              go_at_call 43; refine calls_of_args (args' := #[.agg #[.slice Ao23 t315.length co23, .slice Ao26 t316.length co26, .slice Ao27 t317.length co27, .int .i64 t304], .int .i64 1]) (by first | (rw [show t315.length = t295.length from (Kd.R_reads' HO_306000.out).1.symm, show t316.length = t298.length from (Kd.R_reads' HO_306001.out).1.symm, show t317.length = t301.length from (Kd.R_reads' HO_306002.out).1.symm] <;> rfl) | rfl) ?_; (with_reducible refine (laws_heldOutboxOut.calls kj38 _ _ t315 _ _ t316 _ _ t317 t304 1 t318 _ ?side1 ?side2 ?side3 ?side4 ?side5 ?side6 A51.out).mono ?_); (case side1 => repeat (first | exact (Kd.R_reads' HO_306000.out).2.2 | (with_reducible refine Kd.C_alloc ?_ _) | (with_reducible refine Kd.C_drewN ?_ _) | (with_reducible refine Kd.C_drew ?_))); (case side2 => rw [show t315.length = t295.length from (Kd.R_reads' HO_306000.out).1.symm]; exact (Kd.R_reads' HO_306000.out).2.1); (case side3 => repeat (first | exact (Kd.R_reads' HO_306001.out).2.2 | (with_reducible refine Kd.C_alloc ?_ _) | (with_reducible refine Kd.C_drewN ?_ _) | (with_reducible refine Kd.C_drew ?_))); (case side4 => rw [show t316.length = t298.length from (Kd.R_reads' HO_306001.out).1.symm]; exact (Kd.R_reads' HO_306001.out).2.1); (case side5 => repeat (first | exact (Kd.R_reads' HO_306002.out).2.2 | (with_reducible refine Kd.C_alloc ?_ _) | (with_reducible refine Kd.C_drewN ?_ _) | (with_reducible refine Kd.C_drew ?_))); (case side6 => rw [show t317.length = t301.length from (Kd.R_reads' HO_306002.out).1.symm]; exact (Kd.R_reads' HO_306002.out).2.1)
              rintro e w54 ⟨rfl, hb⟩
              have n0_ := Aside0.mk (Kd.R_below (by (with_reducible repeat (first | apply Kd.R_alloc | apply Kd.R_drewN | apply Kd.R_drew)); exact HO_292000.out) hb)
              have n1_ := Aside0.mk (Kd.R_below (by (with_reducible repeat (first | apply Kd.R_alloc | apply Kd.R_drewN | apply Kd.R_drew)); exact HO_292001.out) hb)
              have n2_ := Aside0.mk (Kd.R_below (by (with_reducible repeat (first | apply Kd.R_alloc | apply Kd.R_drewN | apply Kd.R_drew)); exact HO_292002.out) hb)
              have n3_ := Aside0.mk (Kd.R_below (by (with_reducible repeat (first | apply Kd.R_alloc | apply Kd.R_drewN | apply Kd.R_drew)); exact HO_306000.out) hb)
              have n4_ := Aside0.mk (Kd.R_below (by (with_reducible repeat (first | apply Kd.R_alloc | apply Kd.R_drewN | apply Kd.R_drew)); exact HO_306001.out) hb)
              have n5_ := Aside0.mk (Kd.R_below (by (with_reducible repeat (first | apply Kd.R_alloc | apply Kd.R_drewN | apply Kd.R_drew)); exact HO_306002.out) hb)
              have n6_ := Aside0.mk (blk_below (g := gb291) (o := .cells #[.slice Ao13 t281.length co13, .slice Ao15 t284.length co15, .slice Ao16 t287.length co16, .int .i64 t290] 34 (0, 0)) (by (with_reducible repeat (first | refine blk_drewN ?_ _ | refine blk_drew ?_ | refine blk_alloc ?_ _)); exact BK291.out) hb)
              have n7_ := Aside0.mk (blk_below (g := gb305) (o := .cells #[.slice Ao23 t295.length co23, .slice Ao26 t298.length co26, .slice Ao27 t301.length co27, .int .i64 t304] 34 (0, 0)) (by (with_reducible repeat (first | refine blk_drewN ?_ _ | refine blk_drew ?_ | refine blk_alloc ?_ _)); exact BK305.out) hb)
              have n8_ := Aside0.mk (below_step (by repeat (first | (with_reducible first | exact HB.out | apply below_alloc | apply pw_below_drewN | apply below_drew1 | refine below_set ?_ GE291.out | refine below_set ?_ GE305.out) | exact HB.out)) hb)
              clear HO_292000
              clear HO_292001
              clear HO_292002
              clear HO_306000
              clear HO_306001
              clear HO_306002
              clear BK291
              clear BK305
              clear HB
              have HO_292000 := n0_
              have HO_292001 := n1_
              have HO_292002 := n2_
              have HO_306000 := n3_
              have HO_306001 := n4_
              have HO_306002 := n5_
              have BK291 := n6_
              have BK305 := n7_
              have HB := n8_
              clear n0_ n1_ n2_ n3_ n4_ n5_ n6_ n7_ n8_
              (try clear hb)
              (try clear hb2)
              (try clear hk)
              (try clear hi)
              by_cases c55 : t318 < 0
              · rw [if_pos c55] at H
                have c55b0 : decide (t318 < 0) = true := decide_eq_true c55
                clear c55
                obtain rfl := Option.some.inj H
                go_wp2
                go_ret
                exact ⟨by first | rfl | (simp [errW_none, errW_some] <;> rfl) | (simp [*, errW_none, errW_some] <;> rfl), by repeat (first | (with_reducible first | exact HB.out | apply below_alloc | apply pw_below_drewN | apply below_drew1 | refine below_set ?_ GE291.out | refine below_set ?_ GE305.out) | exact HB.out)⟩
              · rw [if_neg c55] at H
                have c55b0 : decide (t318 < 0) = false := decide_eq_false c55
                clear c55
                by_cases c56 : t318 = t314
                · rw [if_pos c56] at H
                  have c56b0 : (t318 == t314) = true := beq_iff_eq.mpr c56
                  have c56b1 : (t318 != t314) = false := bne_eq_false_iff_eq.mpr c56
                  clear c56
                  replace H := Option.bind_eq_some_iff.mp H
                  obtain ⟨t319, A570, H⟩ := H
                  replace H : ((impl_OutboxTick.f kj38 t319 a1).bind fun bt322 => ((laws_eqOutboxOut.f kj38 bt322.1 bt322.2.1 bt322.2.2.1 bt322.2.2.2 t281 t284 t287 t290).bind fun t333 => (if t333 = true then ((laws_heldOutboxOut.f kj38 t315 t316 t317 t304 1).bind fun t334 => (if t334 < 0 then (some false) else (if t334 = t314 then (some true) else (some false)))) else (some false)))) = some r := H
                  have A57 := Aside0.mk A570
                  clear A570
                  try go_wp2_with (fail)
                  go_at_call 38; (with_reducible refine (laws_toOutS.calls kj38 _ _ l0 t319 _ ?side1 ?side2 A57.out).mono ?_); (case side1 => repeat (first | exact (Kd.C_below HR0.out HB.out) | (with_reducible refine Kd.C_alloc ?_ _) | (with_reducible refine Kd.C_drewN ?_ _) | (with_reducible refine Kd.C_drew ?_))); (case side2 => exact HC0.out)
                  rintro e w58 ⟨v320, rfl, ho0, hb⟩
                  have n0_ := Aside0.mk (Kd.R_elder' (by (with_reducible repeat (first | apply Kd.R_alloc | apply Kd.R_drewN | apply Kd.R_drew)); exact HO_292000.out) (Kd.R_base ho0) hb)
                  have n1_ := Aside0.mk (Kd.R_below (by (with_reducible repeat (first | apply Kd.R_alloc | apply Kd.R_drewN | apply Kd.R_drew)); exact HO_292001.out) hb)
                  have n2_ := Aside0.mk (Kd.R_elder' (by (with_reducible repeat (first | apply Kd.R_alloc | apply Kd.R_drewN | apply Kd.R_drew)); exact HO_292002.out) (Kd.R_base ho0) hb)
                  have n3_ := Aside0.mk (Kd.R_elder' (by (with_reducible repeat (first | apply Kd.R_alloc | apply Kd.R_drewN | apply Kd.R_drew)); exact HO_306000.out) (Kd.R_base ho0) hb)
                  have n4_ := Aside0.mk (Kd.R_below (by (with_reducible repeat (first | apply Kd.R_alloc | apply Kd.R_drewN | apply Kd.R_drew)); exact HO_306001.out) hb)
                  have n5_ := Aside0.mk (Kd.R_elder' (by (with_reducible repeat (first | apply Kd.R_alloc | apply Kd.R_drewN | apply Kd.R_drew)); exact HO_306002.out) (Kd.R_base ho0) hb)
                  have n6_ := Aside0.mk (Kd.R_lower (Kd.R_new' (Kd.R_new' (Kd.R_new' (Kd.R_new' ho0 (Kd.R_lt (by (with_reducible repeat (first | apply Kd.R_alloc | apply Kd.R_drewN | apply Kd.R_drew)); exact HO_292000.out))) (Kd.R_lt (by (with_reducible repeat (first | apply Kd.R_alloc | apply Kd.R_drewN | apply Kd.R_drew)); exact HO_292002.out))) (Kd.R_lt (by (with_reducible repeat (first | apply Kd.R_alloc | apply Kd.R_drewN | apply Kd.R_drew)); exact HO_306000.out))) (Kd.R_lt (by (with_reducible repeat (first | apply Kd.R_alloc | apply Kd.R_drewN | apply Kd.R_drew)); exact HO_306002.out))) (below_size (by repeat (first | (with_reducible first | exact HB.out | apply below_alloc | apply pw_below_drewN | apply below_drew1 | refine below_set ?_ GE291.out | refine below_set ?_ GE305.out) | exact HB.out))))
                  have n7_ := Aside0.mk (blk_below (g := gb291) (o := .cells #[.slice Ao13 t281.length co13, .slice Ao15 t284.length co15, .slice Ao16 t287.length co16, .int .i64 t290] 34 (0, 0)) (by (with_reducible repeat (first | refine blk_drewN ?_ _ | refine blk_drew ?_ | refine blk_alloc ?_ _)); exact BK291.out) hb)
                  have n8_ := Aside0.mk (blk_below (g := gb305) (o := .cells #[.slice Ao23 t295.length co23, .slice Ao26 t298.length co26, .slice Ao27 t301.length co27, .int .i64 t304] 34 (0, 0)) (by (with_reducible repeat (first | refine blk_drewN ?_ _ | refine blk_drew ?_ | refine blk_alloc ?_ _)); exact BK305.out) hb)
                  have n9_ := Aside0.mk (below_step (by repeat (first | (with_reducible first | exact HB.out | apply below_alloc | apply pw_below_drewN | apply below_drew1 | refine below_set ?_ GE291.out | refine below_set ?_ GE305.out) | exact HB.out)) hb)
                  clear HO_292000
                  clear HO_292001
                  clear HO_292002
                  clear HO_306000
                  clear HO_306001
                  clear HO_306002
                  clear BK291
                  clear BK305
                  clear HB
                  have HO_292000 := n0_
                  have HO_292001 := n1_
                  have HO_292002 := n2_
                  have HO_306000 := n3_
                  have HO_306001 := n4_
                  have HO_306002 := n5_
                  have HO321 := n6_
                  have BK291 := n7_
                  have BK305 := n8_
                  have HB := n9_
                  clear n0_ n1_ n2_ n3_ n4_ n5_ n6_ n7_ n8_ n9_
                  (try clear hb)
                  (try clear hb2)
                  (try clear hk)
                  (try clear hi)
                  (try clear ho0)
                  replace H := Option.bind_eq_some_iff.mp H
                  obtain ⟨⟨t322, t325, t328, t331⟩, A590, H⟩ := H
                  replace H : ((laws_eqOutboxOut.f kj38 t322 t325 t328 t331 t281 t284 t287 t290).bind fun t333 => (if t333 = true then ((laws_heldOutboxOut.f kj38 t315 t316 t317 t304 1).bind fun t334 => (if t334 < 0 then (some false) else (if t334 = t314 then (some true) else (some false)))) else (some false))) = some r := H
                  have A59 := Aside0.mk A590
                  clear A590
                  obtain ⟨Ao60, co60, eo60⟩ := Kd.R_slice HO321.out
                  subst eo60
                  try go_wp2_with (fail)
                  go_at_call 20; (with_reducible refine (impl_OutboxTick.calls kj38 _ _ t319 a1 t322 t325 t328 t331 _ ?side1 ?side2 A59.out).mono ?_); (case side1 => repeat (first | exact (Kd.R_reads' HO321.out).2.2 | (with_reducible refine Kd.C_alloc ?_ _) | (with_reducible refine Kd.C_drewN ?_ _) | (with_reducible refine Kd.C_drew ?_))); (case side2 => exact (Kd.R_reads' HO321.out).2.1)
                  rintro e w61 ⟨v323, v326, v329, rfl, ho0, ho1, ho2, hb⟩
                  have n0_ := Aside0.mk (Kd.R_mono (Kd.R_told (Kd.R_told (Kd.R_old (by (with_reducible repeat (first | apply Kd.R_alloc | apply Kd.R_drewN | apply Kd.R_drew)); exact HO_292000.out) hb) (Kd.R_base ho0)) (Kd.R_base ho2)) (fun _ h_ => h_.1))
                  have n1_ := Aside0.mk (Kd.R_elder' (by (with_reducible repeat (first | apply Kd.R_alloc | apply Kd.R_drewN | apply Kd.R_drew)); exact HO_292001.out) (Kd.R_base ho1) hb)
                  have n2_ := Aside0.mk (Kd.R_mono (Kd.R_told (Kd.R_told (Kd.R_old (by (with_reducible repeat (first | apply Kd.R_alloc | apply Kd.R_drewN | apply Kd.R_drew)); exact HO_292002.out) hb) (Kd.R_base ho0)) (Kd.R_base ho2)) (fun _ h_ => h_.1))
                  have n3_ := Aside0.mk (Kd.R_mono (Kd.R_told (Kd.R_told (Kd.R_old (by (with_reducible repeat (first | apply Kd.R_alloc | apply Kd.R_drewN | apply Kd.R_drew)); exact HO_306000.out) hb) (Kd.R_base ho0)) (Kd.R_base ho2)) (fun _ h_ => h_.1))
                  have n4_ := Aside0.mk (Kd.R_elder' (by (with_reducible repeat (first | apply Kd.R_alloc | apply Kd.R_drewN | apply Kd.R_drew)); exact HO_306001.out) (Kd.R_base ho1) hb)
                  have n5_ := Aside0.mk (Kd.R_mono (Kd.R_told (Kd.R_told (Kd.R_old (by (with_reducible repeat (first | apply Kd.R_alloc | apply Kd.R_drewN | apply Kd.R_drew)); exact HO_306002.out) hb) (Kd.R_base ho0)) (Kd.R_base ho2)) (fun _ h_ => h_.1))
                  have n6_ := Aside0.mk (Kd.R_mono (Kd.R_told (Kd.R_told (Kd.R_old (by (with_reducible repeat (first | apply Kd.R_alloc | apply Kd.R_drewN | apply Kd.R_drew)); exact HO321.out) hb) (Kd.R_base ho0)) (Kd.R_base ho2)) (fun _ h_ => h_.1))
                  have n7_ := Aside0.mk (Kd.R_lower (Kd.R_new' (Kd.R_new' (Kd.R_new' (Kd.R_new' (Kd.R_new' ho0 (Kd.R_lt (by (with_reducible repeat (first | apply Kd.R_alloc | apply Kd.R_drewN | apply Kd.R_drew)); exact HO_292000.out))) (Kd.R_lt (by (with_reducible repeat (first | apply Kd.R_alloc | apply Kd.R_drewN | apply Kd.R_drew)); exact HO_292002.out))) (Kd.R_lt (by (with_reducible repeat (first | apply Kd.R_alloc | apply Kd.R_drewN | apply Kd.R_drew)); exact HO_306000.out))) (Kd.R_lt (by (with_reducible repeat (first | apply Kd.R_alloc | apply Kd.R_drewN | apply Kd.R_drew)); exact HO_306002.out))) (Kd.R_lt (by (with_reducible repeat (first | apply Kd.R_alloc | apply Kd.R_drewN | apply Kd.R_drew)); exact HO321.out))) (below_size (by repeat (first | (with_reducible first | exact HB.out | apply below_alloc | apply pw_below_drewN | apply below_drew1 | refine below_set ?_ GE291.out | refine below_set ?_ GE305.out) | exact HB.out))))
                  have n8_ := Aside0.mk (Kd.R_lower (Kd.R_new' (Kd.R_new' ho1 (Kd.R_lt (by (with_reducible repeat (first | apply Kd.R_alloc | apply Kd.R_drewN | apply Kd.R_drew)); exact HO_292001.out))) (Kd.R_lt (by (with_reducible repeat (first | apply Kd.R_alloc | apply Kd.R_drewN | apply Kd.R_drew)); exact HO_306001.out))) (below_size (by repeat (first | (with_reducible first | exact HB.out | apply below_alloc | apply pw_below_drewN | apply below_drew1 | refine below_set ?_ GE291.out | refine below_set ?_ GE305.out) | exact HB.out))))
                  have n9_ := Aside0.mk (Kd.R_lower (Kd.R_new' (Kd.R_new' (Kd.R_new' (Kd.R_new' (Kd.R_new' ho2 (Kd.R_lt (by (with_reducible repeat (first | apply Kd.R_alloc | apply Kd.R_drewN | apply Kd.R_drew)); exact HO_292000.out))) (Kd.R_lt (by (with_reducible repeat (first | apply Kd.R_alloc | apply Kd.R_drewN | apply Kd.R_drew)); exact HO_292002.out))) (Kd.R_lt (by (with_reducible repeat (first | apply Kd.R_alloc | apply Kd.R_drewN | apply Kd.R_drew)); exact HO_306000.out))) (Kd.R_lt (by (with_reducible repeat (first | apply Kd.R_alloc | apply Kd.R_drewN | apply Kd.R_drew)); exact HO_306002.out))) (Kd.R_lt (by (with_reducible repeat (first | apply Kd.R_alloc | apply Kd.R_drewN | apply Kd.R_drew)); exact HO321.out))) (below_size (by repeat (first | (with_reducible first | exact HB.out | apply below_alloc | apply pw_below_drewN | apply below_drew1 | refine below_set ?_ GE291.out | refine below_set ?_ GE305.out) | exact HB.out))))
                  have n10_ := Aside0.mk (blk_below (g := gb291) (o := .cells #[.slice Ao13 t281.length co13, .slice Ao15 t284.length co15, .slice Ao16 t287.length co16, .int .i64 t290] 34 (0, 0)) (by (with_reducible repeat (first | refine blk_drewN ?_ _ | refine blk_drew ?_ | refine blk_alloc ?_ _)); exact BK291.out) hb)
                  have n11_ := Aside0.mk (blk_below (g := gb305) (o := .cells #[.slice Ao23 t295.length co23, .slice Ao26 t298.length co26, .slice Ao27 t301.length co27, .int .i64 t304] 34 (0, 0)) (by (with_reducible repeat (first | refine blk_drewN ?_ _ | refine blk_drew ?_ | refine blk_alloc ?_ _)); exact BK305.out) hb)
                  have n12_ := Aside0.mk (below_step (by repeat (first | (with_reducible first | exact HB.out | apply below_alloc | apply pw_below_drewN | apply below_drew1 | refine below_set ?_ GE291.out | refine below_set ?_ GE305.out) | exact HB.out)) hb)
                  clear HO_292000
                  clear HO_292001
                  clear HO_292002
                  clear HO_306000
                  clear HO_306001
                  clear HO_306002
                  clear HO321
                  clear BK291
                  clear BK305
                  clear HB
                  have HO_292000 := n0_
                  have HO_292001 := n1_
                  have HO_292002 := n2_
                  have HO_306000 := n3_
                  have HO_306001 := n4_
                  have HO_306002 := n5_
                  have HO321 := n6_
                  have HO324 := n7_
                  have HO327 := n8_
                  have HO330 := n9_
                  have BK291 := n10_
                  have BK305 := n11_
                  have HB := n12_
                  clear n0_ n1_ n2_ n3_ n4_ n5_ n6_ n7_ n8_ n9_ n10_ n11_ n12_
                  (try clear hb)
                  (try clear hb2)
                  (try clear hk)
                  (try clear hi)
                  (try clear ho0)
                  (try clear ho1)
                  (try clear ho2)
                  replace H := Option.bind_eq_some_iff.mp H
                  obtain ⟨t333, A620, H⟩ := H
                  replace H : (if t333 = true then ((laws_heldOutboxOut.f kj38 t315 t316 t317 t304 1).bind fun t334 => (if t334 < 0 then (some false) else (if t334 = t314 then (some true) else (some false)))) else (some false)) = some r := H
                  have A62 := Aside0.mk A620
                  clear A620
                  try go_wp2_with (first | ((with_reducible refine gate_dst (N := 12) rfl ?_); refine box_event ?hg (N := 12) ?hd (cs := #[.slice none 0 0, .slice none 0 0, .slice none 0 0, .int .i64 0]) (t := 34) ?hr ?_; (case hd => rfl); (case hg => rfl); (case hr => first | (go_simp; done) | (go_simp; rfl)); intro gb332 hg w63 hbox hb; have n0_ := Aside0.mk (Kd.R_below (by (with_reducible repeat (first | apply Kd.R_alloc | apply Kd.R_drewN | apply Kd.R_drew)); exact HO_292000.out) hb); have n1_ := Aside0.mk (Kd.R_below (by (with_reducible repeat (first | apply Kd.R_alloc | apply Kd.R_drewN | apply Kd.R_drew)); exact HO_292001.out) hb); have n2_ := Aside0.mk (Kd.R_below (by (with_reducible repeat (first | apply Kd.R_alloc | apply Kd.R_drewN | apply Kd.R_drew)); exact HO_292002.out) hb); have n3_ := Aside0.mk (Kd.R_below (by (with_reducible repeat (first | apply Kd.R_alloc | apply Kd.R_drewN | apply Kd.R_drew)); exact HO_306000.out) hb); have n4_ := Aside0.mk (Kd.R_below (by (with_reducible repeat (first | apply Kd.R_alloc | apply Kd.R_drewN | apply Kd.R_drew)); exact HO_306001.out) hb); have n5_ := Aside0.mk (Kd.R_below (by (with_reducible repeat (first | apply Kd.R_alloc | apply Kd.R_drewN | apply Kd.R_drew)); exact HO_306002.out) hb); have n6_ := Aside0.mk (Kd.R_below (by (with_reducible repeat (first | apply Kd.R_alloc | apply Kd.R_drewN | apply Kd.R_drew)); exact HO321.out) hb); have n7_ := Aside0.mk (Kd.R_below (by (with_reducible repeat (first | apply Kd.R_alloc | apply Kd.R_drewN | apply Kd.R_drew)); exact HO324.out) hb); have n8_ := Aside0.mk (Kd.R_below (by (with_reducible repeat (first | apply Kd.R_alloc | apply Kd.R_drewN | apply Kd.R_drew)); exact HO327.out) hb); have n9_ := Aside0.mk (Kd.R_below (by (with_reducible repeat (first | apply Kd.R_alloc | apply Kd.R_drewN | apply Kd.R_drew)); exact HO330.out) hb); have n10_ := Aside0.mk (blk_below (g := gb291) (o := .cells #[.slice Ao13 t281.length co13, .slice Ao15 t284.length co15, .slice Ao16 t287.length co16, .int .i64 t290] 34 (0, 0)) (by (with_reducible repeat (first | refine blk_drewN ?_ _ | refine blk_drew ?_ | refine blk_alloc ?_ _)); exact BK291.out) hb); have n11_ := Aside0.mk (blk_below (g := gb305) (o := .cells #[.slice Ao23 t295.length co23, .slice Ao26 t298.length co26, .slice Ao27 t301.length co27, .int .i64 t304] 34 (0, 0)) (by (with_reducible repeat (first | refine blk_drewN ?_ _ | refine blk_drew ?_ | refine blk_alloc ?_ _)); exact BK305.out) hb); have n12_ := Aside0.mk (below_step (by repeat (first | (with_reducible first | exact HB.out | apply below_alloc | apply pw_below_drewN | apply below_drew1 | refine below_set ?_ GE291.out | refine below_set ?_ GE305.out) | exact HB.out)) hb); have n13_ := Aside0.mk (hbox); have n14_ := Aside0.mk ((by rw [hg]; exact (below_size (by repeat (first | (with_reducible first | exact HB.out | apply below_alloc | apply pw_below_drewN | apply below_drew1 | refine below_set ?_ GE291.out | refine below_set ?_ GE305.out) | exact HB.out))) : w.heap.size ≤ gb332)); have n15_ := Aside0.mk ((by rw [hg]; exact (below_size (by repeat (first | (with_reducible first | exact HB.out | apply below_alloc | apply pw_below_drewN | apply below_drew1 | refine below_set ?_ GE291.out | refine below_set ?_ GE305.out) | exact HB.out))) : w.heap.size ≤ gb332)); have n16_ := Aside0.mk ((by rw [hg]; exact Nat.ne_of_lt (blk_lt (g := gb291) (o := .cells #[.slice Ao13 t281.length co13, .slice Ao15 t284.length co15, .slice Ao16 t287.length co16, .int .i64 t290] 34 (0, 0)) (by (with_reducible repeat (first | refine blk_drewN ?_ _ | refine blk_drew ?_ | refine blk_alloc ?_ _)); exact BK291.out)) : gb291 ≠ gb332)); have n17_ := Aside0.mk ((by rw [hg]; exact Nat.ne_of_gt (blk_lt (g := gb291) (o := .cells #[.slice Ao13 t281.length co13, .slice Ao15 t284.length co15, .slice Ao16 t287.length co16, .int .i64 t290] 34 (0, 0)) (by (with_reducible repeat (first | refine blk_drewN ?_ _ | refine blk_drew ?_ | refine blk_alloc ?_ _)); exact BK291.out)) : gb332 ≠ gb291)); have n18_ := Aside0.mk ((by rw [hg]; exact Nat.ne_of_lt (blk_lt (g := gb305) (o := .cells #[.slice Ao23 t295.length co23, .slice Ao26 t298.length co26, .slice Ao27 t301.length co27, .int .i64 t304] 34 (0, 0)) (by (with_reducible repeat (first | refine blk_drewN ?_ _ | refine blk_drew ?_ | refine blk_alloc ?_ _)); exact BK305.out)) : gb305 ≠ gb332)); have n19_ := Aside0.mk ((by rw [hg]; exact Nat.ne_of_gt (blk_lt (g := gb305) (o := .cells #[.slice Ao23 t295.length co23, .slice Ao26 t298.length co26, .slice Ao27 t301.length co27, .int .i64 t304] 34 (0, 0)) (by (with_reducible repeat (first | refine blk_drewN ?_ _ | refine blk_drew ?_ | refine blk_alloc ?_ _)); exact BK305.out)) : gb332 ≠ gb305)); clear HO_292000; clear HO_292001; clear HO_292002; clear HO_306000; clear HO_306001; clear HO_306002; clear HO321; clear HO324; clear HO327; clear HO330; clear BK291; clear BK305; clear HB; have HO_292000 := n0_; have HO_292001 := n1_; have HO_292002 := n2_; have HO_306000 := n3_; have HO_306001 := n4_; have HO_306002 := n5_; have HO321 := n6_; have HO324 := n7_; have HO327 := n8_; have HO330 := n9_; have BK291 := n10_; have BK305 := n11_; have HB := n12_; have BK332 := n13_; have GW332 := n14_; have GE332 := n15_; have NB291_332 := n16_; have NB332_291 := n17_; have NB305_332 := n18_; have NB332_305 := n19_; clear n0_ n1_ n2_ n3_ n4_ n5_ n6_ n7_ n8_ n9_ n10_ n11_ n12_ n13_ n14_ n15_ n16_ n17_ n18_ n19_; clear hb hbox hg; obtain ⟨Ao64, co64, eo64⟩ := Kd.R_slice HO324.out; subst eo64; have hnb65 := NB332_291.out; have hnc65 := NB291_332.out; have hnb66 := NB332_305.out; have hnc66 := NB305_332.out; have hcz67_0 : w63.cell? ⟨gb332, 0, none⟩ = some (.slice none 0 0) := (blk_cell BK332.out 0).trans rfl; have hcz67_1 : w63.cell? ⟨gb332, 1, none⟩ = some (.slice none 0 0) := (blk_cell BK332.out 1).trans rfl; have hcz67_2 : w63.cell? ⟨gb332, 2, none⟩ = some (.slice none 0 0) := (blk_cell BK332.out 2).trans rfl; have hcz67_3 : w63.cell? ⟨gb332, 3, none⟩ = some (.int .i64 0) := (blk_cell BK332.out 3).trans rfl; have hfz67_0 := blk_frozen BK332.out 0; have hfz67_1 := blk_frozen BK332.out 1; have hfz67_2 := blk_frozen BK332.out 2; have hfz67_3 := blk_frozen BK332.out 3; obtain ⟨Ao68, co68, eo68⟩ := Kd.R_slice HO327.out; subst eo68; obtain ⟨Ao69, co69, eo69⟩ := Kd.R_slice HO330.out; subst eo69; have hnb70 := NB291_305.out; have hnc70 := NB305_291.out; have hcz71_0 : w63.cell? ⟨gb291, 0, none⟩ = some (.slice Ao13 t281.length co13) := (blk_cell BK291.out 0).trans rfl; have hcz71_1 : w63.cell? ⟨gb291, 1, none⟩ = some (.slice Ao15 t284.length co15) := (blk_cell BK291.out 1).trans rfl; have hcz71_2 : w63.cell? ⟨gb291, 2, none⟩ = some (.slice Ao16 t287.length co16) := (blk_cell BK291.out 2).trans rfl; have hcz71_3 : w63.cell? ⟨gb291, 3, none⟩ = some (.int .i64 t290) := (blk_cell BK291.out 3).trans rfl; have hfz71_0 := blk_frozen BK291.out 0; have hfz71_1 := blk_frozen BK291.out 1; have hfz71_2 := blk_frozen BK291.out 2; have hfz71_3 := blk_frozen BK291.out 3))
                  go_at_call 39; (with_reducible refine (laws_eqOutboxOut.calls kj38 _ _ t322 _ _ t325 _ _ t328 t331 _ _ t281 _ _ t284 _ _ t287 t290 t333 _ ?side1 ?side2 ?side3 ?side4 ?side5 ?side6 ?side7 ?side8 ?side9 ?side10 ?side11 ?side12 A62.out).mono ?_); (case side1 => refine (Kd.R_reads' (e := 24) (base := w.heap.size) (ok := fun k_ => (((((some k_ ≠ (.slice Ao69 t328.length co69 : Value).ownBlock ∧ some k_ ≠ (.slice Ao13 t281.length co13 : Value).ownBlock) ∧ some k_ ≠ (.slice Ao16 t287.length co16 : Value).ownBlock) ∧ some k_ ≠ (.slice Ao23 t295.length co23 : Value).ownBlock) ∧ some k_ ≠ (.slice Ao27 t301.length co27 : Value).ownBlock) ∧ some k_ ≠ (.slice Ao60 t319.length co60 : Value).ownBlock)) (n := t322.length) (c := co64) ?_).2.2; exact (by (with_reducible repeat (first | apply Kd.R_alloc | apply Kd.R_drewN | apply Kd.R_drew)); exact (Kd.R_mono (Kd.R_far (p := ⟨gb332, 3, none⟩) (Kd.R_far (p := ⟨gb332, 2, none⟩) (Kd.R_far (p := ⟨gb332, 1, none⟩) (Kd.R_far (p := ⟨gb332, 0, none⟩) (Kd.R_types HO324.out BK332.out (by decide)) (fun _ hk => hk.2) (.slice Ao64 t322.length co64)) (fun _ hk => hk.2) (.slice Ao68 t325.length co68)) (fun _ hk => hk.2) (.slice Ao69 t328.length co69)) (fun _ hk => hk.2) (.int .i64 t331)) (fun _ h_ => h_.1)))); (case side2 => exact (Kd.R_reads' HO324.out).2.1); (case side3 => refine (Kd.R_reads' (e := 105) (base := w.heap.size) (ok := fun k_ => ((True ∧ some k_ ≠ (.slice Ao15 t284.length co15 : Value).ownBlock) ∧ some k_ ≠ (.slice Ao26 t298.length co26 : Value).ownBlock)) (n := t325.length) (c := co68) ?_).2.2; exact (by (with_reducible repeat (first | apply Kd.R_alloc | apply Kd.R_drewN | apply Kd.R_drew)); exact (Kd.R_mono (Kd.R_far (p := ⟨gb332, 3, none⟩) (Kd.R_far (p := ⟨gb332, 2, none⟩) (Kd.R_far (p := ⟨gb332, 1, none⟩) (Kd.R_far (p := ⟨gb332, 0, none⟩) (Kd.R_types HO327.out BK332.out (by decide)) (fun _ hk => hk.2) (.slice Ao64 t322.length co64)) (fun _ hk => hk.2) (.slice Ao68 t325.length co68)) (fun _ hk => hk.2) (.slice Ao69 t328.length co69)) (fun _ hk => hk.2) (.int .i64 t331)) (fun _ h_ => h_.1)))); (case side4 => exact (Kd.R_reads' HO327.out).2.1); (case side5 => refine (Kd.R_reads' (e := 24) (base := w.heap.size) (ok := fun k_ => (((((some k_ ≠ (.slice Ao64 t322.length co64 : Value).ownBlock ∧ some k_ ≠ (.slice Ao13 t281.length co13 : Value).ownBlock) ∧ some k_ ≠ (.slice Ao16 t287.length co16 : Value).ownBlock) ∧ some k_ ≠ (.slice Ao23 t295.length co23 : Value).ownBlock) ∧ some k_ ≠ (.slice Ao27 t301.length co27 : Value).ownBlock) ∧ some k_ ≠ (.slice Ao60 t319.length co60 : Value).ownBlock)) (n := t328.length) (c := co69) ?_).2.2; exact (by (with_reducible repeat (first | apply Kd.R_alloc | apply Kd.R_drewN | apply Kd.R_drew)); exact (Kd.R_mono (Kd.R_far (p := ⟨gb332, 3, none⟩) (Kd.R_far (p := ⟨gb332, 2, none⟩) (Kd.R_far (p := ⟨gb332, 1, none⟩) (Kd.R_far (p := ⟨gb332, 0, none⟩) (Kd.R_types HO330.out BK332.out (by decide)) (fun _ hk => hk.2) (.slice Ao64 t322.length co64)) (fun _ hk => hk.2) (.slice Ao68 t325.length co68)) (fun _ hk => hk.2) (.slice Ao69 t328.length co69)) (fun _ hk => hk.2) (.int .i64 t331)) (fun _ h_ => h_.1)))); (case side6 => exact (Kd.R_reads' HO330.out).2.1); (case side7 => refine (Kd.R_reads' (e := 24) (base := w.heap.size) (ok := fun k_ => ((((some k_ ≠ (.slice Ao16 t287.length co16 : Value).ownBlock ∧ (some k_ ≠ (.slice Ao23 t295.length co23 : Value).ownBlock ∧ some k_ ≠ (.slice Ao27 t301.length co27 : Value).ownBlock)) ∧ some k_ ≠ (.slice Ao60 t319.length co60 : Value).ownBlock) ∧ some k_ ≠ (.slice Ao64 t322.length co64 : Value).ownBlock) ∧ some k_ ≠ (.slice Ao69 t328.length co69 : Value).ownBlock)) (n := t281.length) (c := co13) ?_).2.2; exact (by (with_reducible repeat (first | apply Kd.R_alloc | apply Kd.R_drewN | apply Kd.R_drew)); exact (Kd.R_mono (Kd.R_far (p := ⟨gb332, 3, none⟩) (Kd.R_far (p := ⟨gb332, 2, none⟩) (Kd.R_far (p := ⟨gb332, 1, none⟩) (Kd.R_far (p := ⟨gb332, 0, none⟩) (Kd.R_types HO_292000.out BK332.out (by decide)) (fun _ hk => hk.2) (.slice Ao64 t322.length co64)) (fun _ hk => hk.2) (.slice Ao68 t325.length co68)) (fun _ hk => hk.2) (.slice Ao69 t328.length co69)) (fun _ hk => hk.2) (.int .i64 t331)) (fun _ h_ => h_.1)))); (case side8 => exact (Kd.R_reads' HO_292000.out).2.1); (case side9 => refine (Kd.R_reads' (e := 105) (base := w.heap.size) (ok := fun k_ => (some k_ ≠ (.slice Ao26 t298.length co26 : Value).ownBlock ∧ some k_ ≠ (.slice Ao68 t325.length co68 : Value).ownBlock)) (n := t284.length) (c := co15) ?_).2.2; exact (by (with_reducible repeat (first | apply Kd.R_alloc | apply Kd.R_drewN | apply Kd.R_drew)); exact (Kd.R_mono (Kd.R_far (p := ⟨gb332, 3, none⟩) (Kd.R_far (p := ⟨gb332, 2, none⟩) (Kd.R_far (p := ⟨gb332, 1, none⟩) (Kd.R_far (p := ⟨gb332, 0, none⟩) (Kd.R_types HO_292001.out BK332.out (by decide)) (fun _ hk => hk.2) (.slice Ao64 t322.length co64)) (fun _ hk => hk.2) (.slice Ao68 t325.length co68)) (fun _ hk => hk.2) (.slice Ao69 t328.length co69)) (fun _ hk => hk.2) (.int .i64 t331)) (fun _ h_ => h_.1)))); (case side10 => exact (Kd.R_reads' HO_292001.out).2.1); (case side11 => refine (Kd.R_reads' (e := 24) (base := w.heap.size) (ok := fun k_ => ((((some k_ ≠ (.slice Ao13 t281.length co13 : Value).ownBlock ∧ (some k_ ≠ (.slice Ao23 t295.length co23 : Value).ownBlock ∧ some k_ ≠ (.slice Ao27 t301.length co27 : Value).ownBlock)) ∧ some k_ ≠ (.slice Ao60 t319.length co60 : Value).ownBlock) ∧ some k_ ≠ (.slice Ao64 t322.length co64 : Value).ownBlock) ∧ some k_ ≠ (.slice Ao69 t328.length co69 : Value).ownBlock)) (n := t287.length) (c := co16) ?_).2.2; exact (by (with_reducible repeat (first | apply Kd.R_alloc | apply Kd.R_drewN | apply Kd.R_drew)); exact (Kd.R_mono (Kd.R_far (p := ⟨gb332, 3, none⟩) (Kd.R_far (p := ⟨gb332, 2, none⟩) (Kd.R_far (p := ⟨gb332, 1, none⟩) (Kd.R_far (p := ⟨gb332, 0, none⟩) (Kd.R_types HO_292002.out BK332.out (by decide)) (fun _ hk => hk.2) (.slice Ao64 t322.length co64)) (fun _ hk => hk.2) (.slice Ao68 t325.length co68)) (fun _ hk => hk.2) (.slice Ao69 t328.length co69)) (fun _ hk => hk.2) (.int .i64 t331)) (fun _ h_ => h_.1)))); (case side12 => exact (Kd.R_reads' HO_292002.out).2.1)
                  rintro e w72 ⟨rfl, hb⟩
                  have n0_ := Aside0.mk (Kd.R_below (by (with_reducible repeat (first | apply Kd.R_alloc | apply Kd.R_drewN | apply Kd.R_drew)); exact (Kd.R_mono (Kd.R_far (p := ⟨gb332, 3, none⟩) (Kd.R_far (p := ⟨gb332, 2, none⟩) (Kd.R_far (p := ⟨gb332, 1, none⟩) (Kd.R_far (p := ⟨gb332, 0, none⟩) (Kd.R_types HO_292000.out BK332.out (by decide)) (fun _ hk => hk.2) (.slice Ao64 t322.length co64)) (fun _ hk => hk.2) (.slice Ao68 t325.length co68)) (fun _ hk => hk.2) (.slice Ao69 t328.length co69)) (fun _ hk => hk.2) (.int .i64 t331)) (fun _ h_ => h_.1))) hb)
                  have n1_ := Aside0.mk (Kd.R_below (by (with_reducible repeat (first | apply Kd.R_alloc | apply Kd.R_drewN | apply Kd.R_drew)); exact (Kd.R_mono (Kd.R_far (p := ⟨gb332, 3, none⟩) (Kd.R_far (p := ⟨gb332, 2, none⟩) (Kd.R_far (p := ⟨gb332, 1, none⟩) (Kd.R_far (p := ⟨gb332, 0, none⟩) (Kd.R_types HO_292001.out BK332.out (by decide)) (fun _ hk => hk.2) (.slice Ao64 t322.length co64)) (fun _ hk => hk.2) (.slice Ao68 t325.length co68)) (fun _ hk => hk.2) (.slice Ao69 t328.length co69)) (fun _ hk => hk.2) (.int .i64 t331)) (fun _ h_ => h_.1))) hb)
                  have n2_ := Aside0.mk (Kd.R_below (by (with_reducible repeat (first | apply Kd.R_alloc | apply Kd.R_drewN | apply Kd.R_drew)); exact (Kd.R_mono (Kd.R_far (p := ⟨gb332, 3, none⟩) (Kd.R_far (p := ⟨gb332, 2, none⟩) (Kd.R_far (p := ⟨gb332, 1, none⟩) (Kd.R_far (p := ⟨gb332, 0, none⟩) (Kd.R_types HO_292002.out BK332.out (by decide)) (fun _ hk => hk.2) (.slice Ao64 t322.length co64)) (fun _ hk => hk.2) (.slice Ao68 t325.length co68)) (fun _ hk => hk.2) (.slice Ao69 t328.length co69)) (fun _ hk => hk.2) (.int .i64 t331)) (fun _ h_ => h_.1))) hb)
                  have n3_ := Aside0.mk (Kd.R_below (by (with_reducible repeat (first | apply Kd.R_alloc | apply Kd.R_drewN | apply Kd.R_drew)); exact (Kd.R_mono (Kd.R_far (p := ⟨gb332, 3, none⟩) (Kd.R_far (p := ⟨gb332, 2, none⟩) (Kd.R_far (p := ⟨gb332, 1, none⟩) (Kd.R_far (p := ⟨gb332, 0, none⟩) (Kd.R_types HO_306000.out BK332.out (by decide)) (fun _ hk => hk.2) (.slice Ao64 t322.length co64)) (fun _ hk => hk.2) (.slice Ao68 t325.length co68)) (fun _ hk => hk.2) (.slice Ao69 t328.length co69)) (fun _ hk => hk.2) (.int .i64 t331)) (fun _ h_ => h_.1))) hb)
                  have n4_ := Aside0.mk (Kd.R_below (by (with_reducible repeat (first | apply Kd.R_alloc | apply Kd.R_drewN | apply Kd.R_drew)); exact (Kd.R_mono (Kd.R_far (p := ⟨gb332, 3, none⟩) (Kd.R_far (p := ⟨gb332, 2, none⟩) (Kd.R_far (p := ⟨gb332, 1, none⟩) (Kd.R_far (p := ⟨gb332, 0, none⟩) (Kd.R_types HO_306001.out BK332.out (by decide)) (fun _ hk => hk.2) (.slice Ao64 t322.length co64)) (fun _ hk => hk.2) (.slice Ao68 t325.length co68)) (fun _ hk => hk.2) (.slice Ao69 t328.length co69)) (fun _ hk => hk.2) (.int .i64 t331)) (fun _ h_ => h_.1))) hb)
                  have n5_ := Aside0.mk (Kd.R_below (by (with_reducible repeat (first | apply Kd.R_alloc | apply Kd.R_drewN | apply Kd.R_drew)); exact (Kd.R_mono (Kd.R_far (p := ⟨gb332, 3, none⟩) (Kd.R_far (p := ⟨gb332, 2, none⟩) (Kd.R_far (p := ⟨gb332, 1, none⟩) (Kd.R_far (p := ⟨gb332, 0, none⟩) (Kd.R_types HO_306002.out BK332.out (by decide)) (fun _ hk => hk.2) (.slice Ao64 t322.length co64)) (fun _ hk => hk.2) (.slice Ao68 t325.length co68)) (fun _ hk => hk.2) (.slice Ao69 t328.length co69)) (fun _ hk => hk.2) (.int .i64 t331)) (fun _ h_ => h_.1))) hb)
                  have n6_ := Aside0.mk (Kd.R_below (by (with_reducible repeat (first | apply Kd.R_alloc | apply Kd.R_drewN | apply Kd.R_drew)); exact (Kd.R_mono (Kd.R_far (p := ⟨gb332, 3, none⟩) (Kd.R_far (p := ⟨gb332, 2, none⟩) (Kd.R_far (p := ⟨gb332, 1, none⟩) (Kd.R_far (p := ⟨gb332, 0, none⟩) (Kd.R_types HO321.out BK332.out (by decide)) (fun _ hk => hk.2) (.slice Ao64 t322.length co64)) (fun _ hk => hk.2) (.slice Ao68 t325.length co68)) (fun _ hk => hk.2) (.slice Ao69 t328.length co69)) (fun _ hk => hk.2) (.int .i64 t331)) (fun _ h_ => h_.1))) hb)
                  have n7_ := Aside0.mk (Kd.R_below (by (with_reducible repeat (first | apply Kd.R_alloc | apply Kd.R_drewN | apply Kd.R_drew)); exact (Kd.R_mono (Kd.R_far (p := ⟨gb332, 3, none⟩) (Kd.R_far (p := ⟨gb332, 2, none⟩) (Kd.R_far (p := ⟨gb332, 1, none⟩) (Kd.R_far (p := ⟨gb332, 0, none⟩) (Kd.R_types HO324.out BK332.out (by decide)) (fun _ hk => hk.2) (.slice Ao64 t322.length co64)) (fun _ hk => hk.2) (.slice Ao68 t325.length co68)) (fun _ hk => hk.2) (.slice Ao69 t328.length co69)) (fun _ hk => hk.2) (.int .i64 t331)) (fun _ h_ => h_.1))) hb)
                  have n8_ := Aside0.mk (Kd.R_below (by (with_reducible repeat (first | apply Kd.R_alloc | apply Kd.R_drewN | apply Kd.R_drew)); exact (Kd.R_mono (Kd.R_far (p := ⟨gb332, 3, none⟩) (Kd.R_far (p := ⟨gb332, 2, none⟩) (Kd.R_far (p := ⟨gb332, 1, none⟩) (Kd.R_far (p := ⟨gb332, 0, none⟩) (Kd.R_types HO327.out BK332.out (by decide)) (fun _ hk => hk.2) (.slice Ao64 t322.length co64)) (fun _ hk => hk.2) (.slice Ao68 t325.length co68)) (fun _ hk => hk.2) (.slice Ao69 t328.length co69)) (fun _ hk => hk.2) (.int .i64 t331)) (fun _ h_ => h_.1))) hb)
                  have n9_ := Aside0.mk (Kd.R_below (by (with_reducible repeat (first | apply Kd.R_alloc | apply Kd.R_drewN | apply Kd.R_drew)); exact (Kd.R_mono (Kd.R_far (p := ⟨gb332, 3, none⟩) (Kd.R_far (p := ⟨gb332, 2, none⟩) (Kd.R_far (p := ⟨gb332, 1, none⟩) (Kd.R_far (p := ⟨gb332, 0, none⟩) (Kd.R_types HO330.out BK332.out (by decide)) (fun _ hk => hk.2) (.slice Ao64 t322.length co64)) (fun _ hk => hk.2) (.slice Ao68 t325.length co68)) (fun _ hk => hk.2) (.slice Ao69 t328.length co69)) (fun _ hk => hk.2) (.int .i64 t331)) (fun _ h_ => h_.1))) hb)
                  have n10_ := Aside0.mk (blk_below (g := gb291) (o := .cells #[.slice Ao13 t281.length co13, .slice Ao15 t284.length co15, .slice Ao16 t287.length co16, .int .i64 t290] 34 (0, 0)) (by (with_reducible repeat (first | refine blk_drewN ?_ _ | refine blk_drew ?_ | refine blk_alloc ?_ _)); refine blk_far ?_ NB291_332.out _; (with_reducible repeat (first | refine blk_drewN ?_ _ | refine blk_drew ?_ | refine blk_alloc ?_ _)); refine blk_far ?_ NB291_332.out _; (with_reducible repeat (first | refine blk_drewN ?_ _ | refine blk_drew ?_ | refine blk_alloc ?_ _)); refine blk_far ?_ NB291_332.out _; (with_reducible repeat (first | refine blk_drewN ?_ _ | refine blk_drew ?_ | refine blk_alloc ?_ _)); refine blk_far ?_ NB291_332.out _; (with_reducible repeat (first | refine blk_drewN ?_ _ | refine blk_drew ?_ | refine blk_alloc ?_ _)); exact BK291.out) hb)
                  have n11_ := Aside0.mk (blk_below (g := gb305) (o := .cells #[.slice Ao23 t295.length co23, .slice Ao26 t298.length co26, .slice Ao27 t301.length co27, .int .i64 t304] 34 (0, 0)) (by (with_reducible repeat (first | refine blk_drewN ?_ _ | refine blk_drew ?_ | refine blk_alloc ?_ _)); refine blk_far ?_ NB305_332.out _; (with_reducible repeat (first | refine blk_drewN ?_ _ | refine blk_drew ?_ | refine blk_alloc ?_ _)); refine blk_far ?_ NB305_332.out _; (with_reducible repeat (first | refine blk_drewN ?_ _ | refine blk_drew ?_ | refine blk_alloc ?_ _)); refine blk_far ?_ NB305_332.out _; (with_reducible repeat (first | refine blk_drewN ?_ _ | refine blk_drew ?_ | refine blk_alloc ?_ _)); refine blk_far ?_ NB305_332.out _; (with_reducible repeat (first | refine blk_drewN ?_ _ | refine blk_drew ?_ | refine blk_alloc ?_ _)); exact BK305.out) hb)
                  have n12_ := Aside0.mk (blk_below (g := gb332) (o := .cells #[.slice Ao64 t322.length co64, .slice Ao68 t325.length co68, .slice Ao69 t328.length co69, .int .i64 t331] 34 (0, 0)) (by (with_reducible repeat (first | refine blk_drewN ?_ _ | refine blk_drew ?_ | refine blk_alloc ?_ _)); refine blk_put (cs := #[.slice Ao64 t322.length co64, .slice Ao68 t325.length co68, .slice Ao69 t328.length co69, .int .i64 0]) ?_ 3 _ rfl; (with_reducible repeat (first | refine blk_drewN ?_ _ | refine blk_drew ?_ | refine blk_alloc ?_ _)); refine blk_put (cs := #[.slice Ao64 t322.length co64, .slice Ao68 t325.length co68, .slice none 0 0, .int .i64 0]) ?_ 2 _ rfl; (with_reducible repeat (first | refine blk_drewN ?_ _ | refine blk_drew ?_ | refine blk_alloc ?_ _)); refine blk_put (cs := #[.slice Ao64 t322.length co64, .slice none 0 0, .slice none 0 0, .int .i64 0]) ?_ 1 _ rfl; (with_reducible repeat (first | refine blk_drewN ?_ _ | refine blk_drew ?_ | refine blk_alloc ?_ _)); refine blk_put (cs := #[.slice none 0 0, .slice none 0 0, .slice none 0 0, .int .i64 0]) ?_ 0 _ rfl; (with_reducible repeat (first | refine blk_drewN ?_ _ | refine blk_drew ?_ | refine blk_alloc ?_ _)); exact BK332.out) hb)
                  have n13_ := Aside0.mk (below_step (by repeat (first | (with_reducible first | exact HB.out | apply below_alloc | apply pw_below_drewN | apply below_drew1 | refine below_set ?_ GE291.out | refine below_set ?_ GE305.out | refine below_set ?_ GE332.out) | exact HB.out)) hb)
                  clear HO_292000
                  clear HO_292001
                  clear HO_292002
                  clear HO_306000
                  clear HO_306001
                  clear HO_306002
                  clear HO321
                  clear HO324
                  clear HO327
                  clear HO330
                  clear BK291
                  clear BK305
                  clear BK332
                  clear HB
                  have HO_292000 := n0_
                  have HO_292001 := n1_
                  have HO_292002 := n2_
                  have HO_306000 := n3_
                  have HO_306001 := n4_
                  have HO_306002 := n5_
                  have HO321 := n6_
                  have HO324 := n7_
                  have HO327 := n8_
                  have HO330 := n9_
                  have BK291 := n10_
                  have BK305 := n11_
                  have BK332 := n12_
                  have HB := n13_
                  clear n0_ n1_ n2_ n3_ n4_ n5_ n6_ n7_ n8_ n9_ n10_ n11_ n12_ n13_
                  (try clear hb)
                  (try clear hb2)
                  (try clear hk)
                  (try clear hi)
                  by_cases c73 : t333 = true
                  · subst c73
                    have H1 : ((laws_heldOutboxOut.f kj38 t315 t316 t317 t304 1).bind fun t334 => (if t334 < 0 then (some false) else (if t334 = t314 then (some true) else (some false)))) = some r := by rw [if_pos rfl] at H; exact H
                    clear H
                    have H := H1
                    clear H1
                    replace H := Option.bind_eq_some_iff.mp H
                    obtain ⟨t334, A740, H⟩ := H
                    replace H : (if t334 < 0 then (some false) else (if t334 = t314 then (some true) else (some false))) = some r := H
                    have A74 := Aside0.mk A740
                    clear A740
                    have hnb75 := NB305_291.out
                    have hnc75 := NB291_305.out
                    have hnb76 := NB305_332.out
                    have hnc76 := NB332_305.out
                    have hcz77_0 : w72.cell? ⟨gb305, 0, none⟩ = some (.slice Ao23 t295.length co23) := (blk_cell BK305.out 0).trans rfl
                    have hcz77_1 : w72.cell? ⟨gb305, 1, none⟩ = some (.slice Ao26 t298.length co26) := (blk_cell BK305.out 1).trans rfl
                    have hcz77_2 : w72.cell? ⟨gb305, 2, none⟩ = some (.slice Ao27 t301.length co27) := (blk_cell BK305.out 2).trans rfl
                    have hcz77_3 : w72.cell? ⟨gb305, 3, none⟩ = some (.int .i64 t304) := (blk_cell BK305.out 3).trans rfl
                    have hfz77_0 := blk_frozen BK305.out 0
                    have hfz77_1 := blk_frozen BK305.out 1
                    have hfz77_2 := blk_frozen BK305.out 2
                    have hfz77_3 := blk_frozen BK305.out 3
                    try go_wp2_with (fail)
                    go_at_call 43; refine calls_of_args (args' := #[.agg #[.slice Ao23 t315.length co23, .slice Ao26 t316.length co26, .slice Ao27 t317.length co27, .int .i64 t304], .int .i64 1]) (by first | (rw [show t315.length = t295.length from (Kd.R_reads' HO_306000.out).1.symm, show t316.length = t298.length from (Kd.R_reads' HO_306001.out).1.symm, show t317.length = t301.length from (Kd.R_reads' HO_306002.out).1.symm] <;> rfl) | rfl) ?_; (with_reducible refine (laws_heldOutboxOut.calls kj38 _ _ t315 _ _ t316 _ _ t317 t304 1 t334 _ ?side1 ?side2 ?side3 ?side4 ?side5 ?side6 A74.out).mono ?_); (case side1 => repeat (first | exact (Kd.R_reads' HO_306000.out).2.2 | (with_reducible refine Kd.C_alloc ?_ _) | (with_reducible refine Kd.C_drewN ?_ _) | (with_reducible refine Kd.C_drew ?_))); (case side2 => rw [show t315.length = t295.length from (Kd.R_reads' HO_306000.out).1.symm]; exact (Kd.R_reads' HO_306000.out).2.1); (case side3 => repeat (first | exact (Kd.R_reads' HO_306001.out).2.2 | (with_reducible refine Kd.C_alloc ?_ _) | (with_reducible refine Kd.C_drewN ?_ _) | (with_reducible refine Kd.C_drew ?_))); (case side4 => rw [show t316.length = t298.length from (Kd.R_reads' HO_306001.out).1.symm]; exact (Kd.R_reads' HO_306001.out).2.1); (case side5 => repeat (first | exact (Kd.R_reads' HO_306002.out).2.2 | (with_reducible refine Kd.C_alloc ?_ _) | (with_reducible refine Kd.C_drewN ?_ _) | (with_reducible refine Kd.C_drew ?_))); (case side6 => rw [show t317.length = t301.length from (Kd.R_reads' HO_306002.out).1.symm]; exact (Kd.R_reads' HO_306002.out).2.1)
                    rintro e w78 ⟨rfl, hb⟩
                    have n0_ := Aside0.mk (Kd.R_below (by (with_reducible repeat (first | apply Kd.R_alloc | apply Kd.R_drewN | apply Kd.R_drew)); exact HO_292000.out) hb)
                    have n1_ := Aside0.mk (Kd.R_below (by (with_reducible repeat (first | apply Kd.R_alloc | apply Kd.R_drewN | apply Kd.R_drew)); exact HO_292001.out) hb)
                    have n2_ := Aside0.mk (Kd.R_below (by (with_reducible repeat (first | apply Kd.R_alloc | apply Kd.R_drewN | apply Kd.R_drew)); exact HO_292002.out) hb)
                    have n3_ := Aside0.mk (Kd.R_below (by (with_reducible repeat (first | apply Kd.R_alloc | apply Kd.R_drewN | apply Kd.R_drew)); exact HO_306000.out) hb)
                    have n4_ := Aside0.mk (Kd.R_below (by (with_reducible repeat (first | apply Kd.R_alloc | apply Kd.R_drewN | apply Kd.R_drew)); exact HO_306001.out) hb)
                    have n5_ := Aside0.mk (Kd.R_below (by (with_reducible repeat (first | apply Kd.R_alloc | apply Kd.R_drewN | apply Kd.R_drew)); exact HO_306002.out) hb)
                    have n6_ := Aside0.mk (Kd.R_below (by (with_reducible repeat (first | apply Kd.R_alloc | apply Kd.R_drewN | apply Kd.R_drew)); exact HO321.out) hb)
                    have n7_ := Aside0.mk (Kd.R_below (by (with_reducible repeat (first | apply Kd.R_alloc | apply Kd.R_drewN | apply Kd.R_drew)); exact HO324.out) hb)
                    have n8_ := Aside0.mk (Kd.R_below (by (with_reducible repeat (first | apply Kd.R_alloc | apply Kd.R_drewN | apply Kd.R_drew)); exact HO327.out) hb)
                    have n9_ := Aside0.mk (Kd.R_below (by (with_reducible repeat (first | apply Kd.R_alloc | apply Kd.R_drewN | apply Kd.R_drew)); exact HO330.out) hb)
                    have n10_ := Aside0.mk (blk_below (g := gb291) (o := .cells #[.slice Ao13 t281.length co13, .slice Ao15 t284.length co15, .slice Ao16 t287.length co16, .int .i64 t290] 34 (0, 0)) (by (with_reducible repeat (first | refine blk_drewN ?_ _ | refine blk_drew ?_ | refine blk_alloc ?_ _)); exact BK291.out) hb)
                    have n11_ := Aside0.mk (blk_below (g := gb305) (o := .cells #[.slice Ao23 t295.length co23, .slice Ao26 t298.length co26, .slice Ao27 t301.length co27, .int .i64 t304] 34 (0, 0)) (by (with_reducible repeat (first | refine blk_drewN ?_ _ | refine blk_drew ?_ | refine blk_alloc ?_ _)); exact BK305.out) hb)
                    have n12_ := Aside0.mk (blk_below (g := gb332) (o := .cells #[.slice Ao64 t322.length co64, .slice Ao68 t325.length co68, .slice Ao69 t328.length co69, .int .i64 t331] 34 (0, 0)) (by (with_reducible repeat (first | refine blk_drewN ?_ _ | refine blk_drew ?_ | refine blk_alloc ?_ _)); exact BK332.out) hb)
                    have n13_ := Aside0.mk (below_step (by repeat (first | (with_reducible first | exact HB.out | apply below_alloc | apply pw_below_drewN | apply below_drew1 | refine below_set ?_ GE291.out | refine below_set ?_ GE305.out | refine below_set ?_ GE332.out) | exact HB.out)) hb)
                    clear HO_292000
                    clear HO_292001
                    clear HO_292002
                    clear HO_306000
                    clear HO_306001
                    clear HO_306002
                    clear HO321
                    clear HO324
                    clear HO327
                    clear HO330
                    clear BK291
                    clear BK305
                    clear BK332
                    clear HB
                    have HO_292000 := n0_
                    have HO_292001 := n1_
                    have HO_292002 := n2_
                    have HO_306000 := n3_
                    have HO_306001 := n4_
                    have HO_306002 := n5_
                    have HO321 := n6_
                    have HO324 := n7_
                    have HO327 := n8_
                    have HO330 := n9_
                    have BK291 := n10_
                    have BK305 := n11_
                    have BK332 := n12_
                    have HB := n13_
                    clear n0_ n1_ n2_ n3_ n4_ n5_ n6_ n7_ n8_ n9_ n10_ n11_ n12_ n13_
                    (try clear hb)
                    (try clear hb2)
                    (try clear hk)
                    (try clear hi)
                    by_cases c79 : t334 < 0
                    · rw [if_pos c79] at H
                      have c79b0 : decide (t334 < 0) = true := decide_eq_true c79
                      clear c79
                      obtain rfl := Option.some.inj H
                      go_wp2
                      go_ret
                      exact ⟨by first | rfl | (simp [errW_none, errW_some] <;> rfl) | (simp [*, errW_none, errW_some] <;> rfl), by repeat (first | (with_reducible first | exact HB.out | apply below_alloc | apply pw_below_drewN | apply below_drew1 | refine below_set ?_ GE291.out | refine below_set ?_ GE305.out | refine below_set ?_ GE332.out) | exact HB.out)⟩
                    · rw [if_neg c79] at H
                      have c79b0 : decide (t334 < 0) = false := decide_eq_false c79
                      clear c79
                      by_cases c80 : t334 = t314
                      · rw [if_pos c80] at H
                        have c80b0 : (t334 == t314) = true := beq_iff_eq.mpr c80
                        have c80b1 : (t334 != t314) = false := bne_eq_false_iff_eq.mpr c80
                        clear c80
                        obtain rfl := Option.some.inj H
                        go_wp2
                        go_ret
                        exact ⟨by first | rfl | (simp [errW_none, errW_some] <;> rfl) | (simp [*, errW_none, errW_some] <;> rfl), by repeat (first | (with_reducible first | exact HB.out | apply below_alloc | apply pw_below_drewN | apply below_drew1 | refine below_set ?_ GE291.out | refine below_set ?_ GE305.out | refine below_set ?_ GE332.out) | exact HB.out)⟩
                      · rw [if_neg c80] at H
                        have c80b0 : (t334 == t314) = false := beq_eq_false_iff_ne.mpr c80
                        have c80b1 : (t334 != t314) = true := bne_iff_ne.mpr c80
                        obtain rfl := Option.some.inj H
                        go_wp2
                        go_ret
                        exact ⟨by first | rfl | (simp [errW_none, errW_some] <;> rfl) | (simp [*, errW_none, errW_some] <;> rfl), by repeat (first | (with_reducible first | exact HB.out | apply below_alloc | apply pw_below_drewN | apply below_drew1 | refine below_set ?_ GE291.out | refine below_set ?_ GE305.out | refine below_set ?_ GE332.out) | exact HB.out)⟩
                  · replace c73 := Bool.eq_false_iff.mpr c73
                    subst c73
                    have H1 : (some false) = some r := by rw [if_neg (show ¬ (false = true) by decide)] at H; exact H
                    clear H
                    have H := H1
                    clear H1
                    obtain rfl := Option.some.inj H
                    go_wp2
                    go_ret
                    exact ⟨by first | rfl | (simp [errW_none, errW_some] <;> rfl) | (simp [*, errW_none, errW_some] <;> rfl), by repeat (first | (with_reducible first | exact HB.out | apply below_alloc | apply pw_below_drewN | apply below_drew1 | refine below_set ?_ GE291.out | refine below_set ?_ GE305.out | refine below_set ?_ GE332.out) | exact HB.out)⟩
                · rw [if_neg c56] at H
                  have c56b0 : (t318 == t314) = false := beq_eq_false_iff_ne.mpr c56
                  have c56b1 : (t318 != t314) = true := bne_iff_ne.mpr c56
                  obtain rfl := Option.some.inj H
                  go_wp2
                  go_ret
                  exact ⟨by first | rfl | (simp [errW_none, errW_some] <;> rfl) | (simp [*, errW_none, errW_some] <;> rfl), by repeat (first | (with_reducible first | exact HB.out | apply below_alloc | apply pw_below_drewN | apply below_drew1 | refine below_set ?_ GE291.out | refine below_set ?_ GE305.out) | exact HB.out)⟩
      · replace c36 := Bool.eq_false_iff.mpr c36
        subst c36
        have H1 : (some false) = some r := by rw [if_neg (show ¬ (false = true) by decide)] at H; exact H
        clear H
        have H := H1
        clear H1
        obtain rfl := Option.some.inj H
        go_wp2
        go_ret
        exact ⟨by first | rfl | (simp [errW_none, errW_some] <;> rfl) | (simp [*, errW_none, errW_some] <;> rfl), by repeat (first | (with_reducible first | exact HB.out | apply below_alloc | apply pw_below_drewN | apply below_drew1 | refine below_set ?_ GE291.out | refine below_set ?_ GE305.out) | exact HB.out)⟩
    · replace c30 := Bool.eq_false_iff.mpr c30
      subst c30
      have H1 : (some false) = some r := by rw [if_neg (show ¬ (false = true) by decide)] at H; exact H
      clear H
      have H := H1
      clear H1
      obtain rfl := Option.some.inj H
      go_wp2
      go_ret
      exact ⟨by first | rfl | (simp [errW_none, errW_some] <;> rfl) | (simp [*, errW_none, errW_some] <;> rfl), by repeat (first | (with_reducible first | exact HB.out | apply below_alloc | apply pw_below_drewN | apply below_drew1 | refine below_set ?_ GE291.out | refine below_set ?_ GE305.out) | exact HB.out)⟩
end Go.Proofs.Ytefmkmhjbfpelaa.QK
