-- Merged by a program of this session (wip/tool/pack.py) out of its own texts for this claim.
import Derived.Deep.Slices
import Derived.ChangeArms
import Derived.WalkKit
import Derived.ProofKit
import Derived.OpenShut
import Derived.ShutString
import Derived.ChangeOld
import Derived.Below
import Derived.SizedLaws
import Derived.Lib.Strings
import Derived.Test.YtefmkmhjbfpelaaKFnMoves0
import Derived.Test.YtefmkmhjbfpelaaKFnMoves1
import Derived.Test.YtefmkmhjbfpelaaKFnMoves2
import Derived.Test.YtefmkmhjbfpelaaKFnMoves3
import Derived.Test.YtefmkmhjbfpelaaKFnMoves5
import Derived.Test.YtefmkmhjbfpelaaKFnMoves8
import Derived.Test.YtefmkmhjbfpelaaKFnMoves10
import Derived.Test.YtefmkmhjbfpelaaKFnMoves11
import Derived.Test.YtefmkmhjbfpelaaKFnMoves17
import Derived.Test.YtefmkmhjbfpelaaKFnMoves18
namespace Go.Proofs.Ytefmkmhjbfpelaa.QM
open Go.RowKit Go.Proofs.YtefmkmhjbfpelaaW.PrintWords Go.Proofs.YtefmkmhjbfpelaaW.PrintLast Go.Proofs.YtefmkmhjbfpelaaW.PrintMore
attribute [local go_sem] max2_int min2_int max_two min_two max_three min_three max_four min_four   -- for this text's walks alone
set_option linter.unusedVariables false
set_option linter.unusedSimpArgs false
set_option maxHeartbeats 8000000 in
set_option maxRecDepth 100000 in
theorem laws_FnMoves.calls (k : Nat) (A0 : Option Addr) (c0 : Nat) (l0 : List Int) (r : Bool) (w : World) (hr0 : Kd.C (Kd.int .u8) w A0 l0.length l0) (hc0 : l0.length ≤ c0) (h : laws_FnMoves.f k l0 = some r) :
    Calls Try.prog 13 #[.slice A0 l0.length c0] w fun e w' => e = .returned (.bool r) ∧ Below w.heap.size w w' := by
  have hu47 := Try.underlying47; have HR0 := Aside0.mk hr0; have HC0 := Aside0.mk hc0; clear hr0 hc0; have HB := Aside0.mk (Below.refl w.heap.size w); have H : (if (l0.length : Int) > 1048576 then (some true) else ((spec_DrawBookMove.f k l0).bind fun bt720 => ((spec_BookRight.f k bt720.1 bt720.2.1).bind fun t729 => (if t729 = true then (if bt720.2.2.2 < 1 then (laws_FnMoves.j0 k bt720.2.2.1 bt720.2.2.2 true bt720.1 bt720.2.1) else (laws_FnMoves.j0 k bt720.2.2.1 bt720.2.2.2 (decide (bt720.2.2.2 > 1000000000)) bt720.1 bt720.2.1)) else (laws_FnMoves.j0 k bt720.2.2.1 bt720.2.2.2 true bt720.1 bt720.2.1))))) = some r := h; clear h
  by_cases c2 : (l0.length : Int) > 1048576
  · rw [if_pos c2] at H; have c2b0 : decide (1048576 < (l0.length : Int)) = true := decide_eq_true c2; have c2b1 : decide (1048576 < l0.length) = true := decide_eq_true (by omega); clear c2; obtain rfl := Option.some.inj H
    go_enter Try.func13, Try.ntmps13
    go_wp2
    go_ret
    exact ⟨ff, bs HB⟩
  · rw [if_neg c2] at H; have c2b0 : decide (1048576 < (l0.length : Int)) = false := decide_eq_false c2; have c2b1 : decide (1048576 < l0.length) = false := decide_eq_false (by omega); clear c2; replace H := Option.bind_eq_some_iff.mp H; obtain ⟨⟨t720, t723, t726, t727⟩, A30, H⟩ := H; replace H : ((spec_BookRight.f k t720 t723).bind fun t729 => (if t729 = true then (if t727 < 1 then (laws_FnMoves.j0 k t726 t727 true t720 t723) else (laws_FnMoves.j0 k t726 t727 (decide (t727 > 1000000000)) t720 t723)) else (laws_FnMoves.j0 k t726 t727 true t720 t723))) = some r := H; have A3 := Aside0.mk A30; clear A30
    go_enter Try.func13, Try.ntmps13
    try go_wp2_with (fail)
    go_at_call 59; (with_reducible refine (spec_DrawBookMove.calls k _ _ l0 t720 t723 t726 t727 _ ?side1 HC0.out A3.out).mono ?_); (case side1 => repeat (first | exact HR0.out | (with_reducible refine Kd.C_alloc ?_ _) | (with_reducible refine Kd.C_drewN ?_ _) | (with_reducible refine Kd.C_drew ?_))); rintro e w4 ⟨v721, v724, rfl, ho0, ho1, hb⟩; have HO722 := Aside0.mk (Kd.R_lower ho0 (below_size (bs HB))); have HO725 := Aside0.mk (Kd.R_lower ho1 (below_size (bs HB))); replace HB := Aside0.mk (below_step (bs HB) hb); (try clear hb); (try clear hb2); (try clear hk); (try clear hi); (try clear ho0); (try clear ho1); have HC5 := Aside0.mk H; clear H
    go_upto_region 4 with (first | ((with_reducible refine gate_dst (N := 3) rfl ?_); refine bx 3 (cs := #[.slice none 0 0, .slice none 0 0]) (t := 47) ?_; intro gb728 hg w6 hbox hb; replace HO722 := Aside0.mk (Kd.R_below (rs HO722) hb); replace HO725 := Aside0.mk (Kd.R_below (rs HO725) hb); have BK728 := Aside0.mk (hbox); have GW728 := Aside0.mk ((gs hg (bs HB))); have GE728 := Aside0.mk ((gs hg (bs HB))); replace HB := Aside0.mk (below_step (bs HB) hb); clear hb hbox hg; obtain ⟨Ao7, co7, eo7⟩ := Kd.R_slice HO722.out; subst eo7; obtain ⟨hcz8_0, hcz8_1, hfz8_0, hfz8_1⟩ := cf2 BK728; obtain ⟨Ao9, co9, eo9⟩ := Kd.R_slice HO725.out; subst eo9))
    (try simp only [Act.put, List.setIfInBounds_toArray, List.set_cons_zero, List.set_cons_succ])
    go_cut [29] (fun v29 wc => ∃ (kq : Nat) (x29_4 : Bool), v29 = .bool x29_4 ∧ Aside0 (laws_FnMoves.j0 kq t726 t727 x29_4 t720 t723 = some r) ∧ Aside0 (kq ≤ k) ∧ Aside0 (Kd.R k117 117 wc w.heap.size (fun _ => True) (.slice Ao7 t720.length co7) t720) ∧ Aside0 (Kd.R k54 54 wc w.heap.size (fun _ => True) (.slice Ao9 t723.length co9) t723) ∧ Aside0 (wc.heap[gb728]? = some (.cells #[(.slice Ao7 t720.length co7), (.slice Ao9 t723.length co9)] 47 (0, 0))) ∧ Aside0 (Below w.heap.size w wc))
    case first =>
      have H := HC5.out; clear HC5; replace H := Option.bind_eq_some_iff.mp H; obtain ⟨t729, A100, H⟩ := H; replace H : (if t729 = true then (if t727 < 1 then (laws_FnMoves.j0 k t726 t727 true t720 t723) else (laws_FnMoves.j0 k t726 t727 (decide (t727 > 1000000000)) t720 t723)) else (laws_FnMoves.j0 k t726 t727 true t720 t723)) = some r := H; have A10 := Aside0.mk A100; clear A100; obtain ⟨hcz11_0, hcz11_1, hfz11_0, hfz11_1⟩ := cf2 BK728
      try go_wp2_with (fail)
      go_at_call 60; (with_reducible refine (spec_BookRight.calls k _ _ t720 _ _ t723 t729 _ ?side1 ?side2 ?side3 ?side4 A10.out).mono ?_); (case side1 => refine (Kd.R_reads' (e := 117) (base := w.heap.size) (ok := fun k_ => True) (n := t720.length) (c := co7) ?_).2.2; exact (by (with_reducible repeat (first | apply Kd.R_alloc | apply Kd.R_drewN | apply Kd.R_drew)); exact (Kd.R_mono (rf (Kd.R_types HO722.out BK728.out (by decide))) (fun _ h_ => h_.1)))); (case side2 => exact (Kd.R_reads' HO722.out).2.1); (case side3 => refine (Kd.R_reads' (e := 54) (base := w.heap.size) (ok := fun k_ => True) (n := t723.length) (c := co9) ?_).2.2; exact (by (with_reducible repeat (first | apply Kd.R_alloc | apply Kd.R_drewN | apply Kd.R_drew)); exact (Kd.R_mono (rf (Kd.R_types HO725.out BK728.out (by decide))) (fun _ h_ => h_.1)))); (case side4 => exact (Kd.R_reads' HO725.out).2.1); rintro e w12 ⟨rfl, hb⟩; have n0_ := Aside0.mk (Kd.R_below (by (with_reducible repeat (first | apply Kd.R_alloc | apply Kd.R_drewN | apply Kd.R_drew)); exact (Kd.R_mono (rf (Kd.R_types HO722.out BK728.out (by decide))) (fun _ h_ => h_.1))) hb); have n1_ := Aside0.mk (Kd.R_below (by (with_reducible repeat (first | apply Kd.R_alloc | apply Kd.R_drewN | apply Kd.R_drew)); exact (Kd.R_mono (rf (Kd.R_types HO725.out BK728.out (by decide))) (fun _ h_ => h_.1))) hb); have n2_ := Aside0.mk (blk_below (g := gb728) (o := .cells #[.slice Ao7 t720.length co7, .slice Ao9 t723.length co9] 47 (0, 0)) (kp BK728) hb); have n3_ := Aside0.mk (below_step (bs HB) hb); clear HO722; clear HO725; clear BK728; clear HB; have HO722 := n0_; have HO725 := n1_; have BK728 := n2_; have HB := n3_; clear n0_ n1_ n2_ n3_; (try clear hb); (try clear hb2); (try clear hk); (try clear hi)
      by_cases c13 : t729 = true
      · subst c13
        have H1 : (if t727 < 1 then (laws_FnMoves.j0 k t726 t727 true t720 t723) else (laws_FnMoves.j0 k t726 t727 (decide (t727 > 1000000000)) t720 t723)) = some r := by rw [if_pos rfl] at H; exact H
        clear H; have H := H1; clear H1
        by_cases c14 : t727 < 1
        · rw [if_pos c14] at H; have c14b0 : decide (t727 < 1) = true := decide_eq_true c14; clear c14
          (first | rw [c14b0] | (simp only [i64_w, i32_w]; rw [c14b0]) | skip)
          have H' := Aside0.mk H; clear H
          go_wp2
          go_meet
          case rel => exact ⟨_, (true), fg, H', ⟨fl⟩, ⟨by (with_reducible repeat (first | apply Kd.R_alloc | apply Kd.R_drewN | apply Kd.R_drew)); exact HO722.out⟩, ⟨by (with_reducible repeat (first | apply Kd.R_alloc | apply Kd.R_drewN | apply Kd.R_drew)); exact HO725.out⟩, ⟨ks BK728⟩, ⟨bs HB⟩⟩
        · rw [if_neg c14] at H; have c14b0 : decide (t727 < 1) = false := decide_eq_false c14; clear c14
          (first | rw [c14b0] | (simp only [i64_w, i32_w]; rw [c14b0]) | skip)
          have H' := Aside0.mk H; clear H
          go_wp2
          go_meet
          case rel => exact ⟨_, (decide (t727 > 1000000000)), fg, H', ⟨fl⟩, ⟨by (with_reducible repeat (first | apply Kd.R_alloc | apply Kd.R_drewN | apply Kd.R_drew)); exact HO722.out⟩, ⟨by (with_reducible repeat (first | apply Kd.R_alloc | apply Kd.R_drewN | apply Kd.R_drew)); exact HO725.out⟩, ⟨ks BK728⟩, ⟨bs HB⟩⟩
      · replace c13 := Bool.eq_false_iff.mpr c13; subst c13
        have H1 : (laws_FnMoves.j0 k t726 t727 true t720 t723) = some r := by rw [if_neg (show ¬ (false = true) by decide)] at H; exact H
        clear H; have H := H1; clear H1; have H' := Aside0.mk H; clear H
        go_wp2
        go_meet
        case rel => exact ⟨_, (true), fg, H', ⟨fl⟩, ⟨by (with_reducible repeat (first | apply Kd.R_alloc | apply Kd.R_drewN | apply Kd.R_drew)); exact HO722.out⟩, ⟨by (with_reducible repeat (first | apply Kd.R_alloc | apply Kd.R_drewN | apply Kd.R_drew)); exact HO725.out⟩, ⟨ks BK728⟩, ⟨bs HB⟩⟩
    case rest =>
      clear HC5
      try clear c1
      try clear c2
      try clear c2b0
      try clear c2b1
      try clear p2
      try clear c13
      try clear c14
      try clear c14b0
      try clear hcz11_0
      try clear hcz11_1
      try clear hcz8_0
      try clear hcz8_1
      try clear hfz11_0
      try clear hfz11_1
      try clear hfz8_0
      try clear hfz8_1
      obtain ⟨kq, x29_4, rfl, HA, HJ4, HO_729000, HO_729001, BK728, HB⟩ := hcut
      cases kq with
      | zero => exact absurd HA.out (by simp [laws_FnMoves.j0])
      | succ kj4 =>
        have H := HA.out; clear HA; simp only [laws_FnMoves.j0] at H
        by_cases c15 : x29_4 = true
        · subst c15
          have H1 : (some true) = some r := by rw [if_pos rfl] at H; exact H
          clear H; have H := H1; clear H1; obtain rfl := Option.some.inj H
          go_wp2
          go_ret
          exact ⟨ff, bs HB⟩
        · replace c15 := Bool.eq_false_iff.mpr c15; subst c15
          have H1 : ((impl_BookMove.f kj4 t720 t723 t726 t727).bind fun bt730 => ((spec_BookMove.f kj4 t720 t723 t726 t727).bind fun bt737 => ((laws_lwBook.f kj4 bt730.1 bt730.2 bt737.1 bt737.2).bind fun t744 => (if t744 = true then ((impl_BookRight.f kj4 bt730.1 bt730.2).bind fun t745 => (laws_FnMoves.j1 kj4 t726 t727 (!t745) t720 t723 bt730.1 bt730.2 bt737.1 bt737.2)) else (laws_FnMoves.j1 kj4 t726 t727 true t720 t723 bt730.1 bt730.2 bt737.1 bt737.2))))) = some r := by rw [if_neg (show ¬ (false = true) by decide)] at H; exact H
          clear H; have H := H1; clear H1; replace H := Option.bind_eq_some_iff.mp H; obtain ⟨⟨t730, t733⟩, A160, H⟩ := H; replace H : ((spec_BookMove.f kj4 t720 t723 t726 t727).bind fun bt737 => ((laws_lwBook.f kj4 t730 t733 bt737.1 bt737.2).bind fun t744 => (if t744 = true then ((impl_BookRight.f kj4 t730 t733).bind fun t745 => (laws_FnMoves.j1 kj4 t726 t727 (!t745) t720 t723 t730 t733 bt737.1 bt737.2)) else (laws_FnMoves.j1 kj4 t726 t727 true t720 t723 t730 t733 bt737.1 bt737.2)))) = some r := H; have A16 := Aside0.mk A160; clear A160; obtain ⟨hcz17_0, hcz17_1, hfz17_0, hfz17_1⟩ := cf2 BK728
          try go_wp2_with (fail)
          go_at_call 61; (with_reducible refine (impl_BookMove.calls kj4 _ _ t720 _ _ t723 t726 t727 t730 t733 _ ?side1 ?side2 ?side3 ?side4 A16.out).mono ?_); (case side1 => repeat (first | exact (Kd.R_reads' HO_729000.out).2.2 | (with_reducible refine Kd.C_alloc ?_ _) | (with_reducible refine Kd.C_drewN ?_ _) | (with_reducible refine Kd.C_drew ?_))); (case side2 => exact (Kd.R_reads' HO_729000.out).2.1); (case side3 => repeat (first | exact (Kd.R_reads' HO_729001.out).2.2 | (with_reducible refine Kd.C_alloc ?_ _) | (with_reducible refine Kd.C_drewN ?_ _) | (with_reducible refine Kd.C_drew ?_))); (case side4 => exact (Kd.R_reads' HO_729001.out).2.1); rintro e w18 ⟨v731, v734, rfl, ho0, ho1, hb⟩; have HO732 := Aside0.mk (Kd.R_lower (Kd.R_new' ho0 (Kd.R_lt (rs HO_729000))) (below_size (bs HB))); replace HO_729000 := Aside0.mk (Kd.R_elder' (rs HO_729000) (Kd.R_base ho0) hb); have HO735 := Aside0.mk (Kd.R_lower (Kd.R_new' ho1 (Kd.R_lt (rs HO_729001))) (below_size (bs HB))); replace HO_729001 := Aside0.mk (Kd.R_elder' (rs HO_729001) (Kd.R_base ho1) hb); replace BK728 := Aside0.mk (blk_below (ks BK728) hb); replace HB := Aside0.mk (below_step (bs HB) hb); (try clear hb); (try clear hb2); (try clear hk); (try clear hi); (try clear ho0); (try clear ho1); replace H := Option.bind_eq_some_iff.mp H; obtain ⟨⟨t737, t740⟩, A190, H⟩ := H; replace H : ((laws_lwBook.f kj4 t730 t733 t737 t740).bind fun t744 => (if t744 = true then ((impl_BookRight.f kj4 t730 t733).bind fun t745 => (laws_FnMoves.j1 kj4 t726 t727 (!t745) t720 t723 t730 t733 t737 t740)) else (laws_FnMoves.j1 kj4 t726 t727 true t720 t723 t730 t733 t737 t740))) = some r := H; have A19 := Aside0.mk A190; clear A190
          try go_wp2_with (first | ((with_reducible refine gate_dst (N := 6) rfl ?_); refine bx 6 (cs := #[.slice none 0 0, .slice none 0 0]) (t := 47) ?_; intro gb736 hg w20 hbox hb; replace HO_729000 := Aside0.mk (Kd.R_below (rs HO_729000) hb); replace HO_729001 := Aside0.mk (Kd.R_below (rs HO_729001) hb); replace HO732 := Aside0.mk (Kd.R_below (rs HO732) hb); replace HO735 := Aside0.mk (Kd.R_below (rs HO735) hb); have BK736 := Aside0.mk (hbox); have GW736 := Aside0.mk ((gs hg (bs HB))); have GE736 := Aside0.mk ((gs hg (bs HB))); replace HB := Aside0.mk (below_step (bs HB) hb); have NB728_736 := Aside0.mk ((gn hg (ks BK728))); have NB736_728 := Aside0.mk ((gm hg (ks BK728))); replace BK728 := Aside0.mk (blk_below (ks BK728) hb); clear hb hbox hg; obtain ⟨Ao21, co21, eo21⟩ := Kd.R_slice HO732.out; subst eo21; have hnb22 := NB736_728.out; have hnc22 := NB728_736.out; obtain ⟨hcz23_0, hcz23_1, hfz23_0, hfz23_1⟩ := cf2 BK736; obtain ⟨Ao24, co24, eo24⟩ := Kd.R_slice HO735.out; subst eo24; obtain ⟨hcz25_0, hcz25_1, hfz25_0, hfz25_1⟩ := cf2 BK728))
          go_at_call 62; (with_reducible refine (spec_BookMove.calls kj4 _ _ t720 _ _ t723 t726 t727 t737 t740 _ ?side1 ?side2 ?side3 ?side4 A19.out).mono ?_); (case side1 => refine (Kd.R_reads' (e := 117) (base := w.heap.size) (ok := fun k_ => (True ∧ some k_ ≠ (.slice Ao21 t730.length co21 : Value).ownBlock)) (n := t720.length) (c := co7) ?_).2.2; exact (by (with_reducible repeat (first | apply Kd.R_alloc | apply Kd.R_drewN | apply Kd.R_drew)); exact (Kd.R_mono (rf (Kd.R_types HO_729000.out BK736.out (by decide))) (fun _ h_ => h_.1)))); (case side2 => exact (Kd.R_reads' HO_729000.out).2.1); (case side3 => refine (Kd.R_reads' (e := 54) (base := w.heap.size) (ok := fun k_ => (True ∧ some k_ ≠ (.slice Ao24 t733.length co24 : Value).ownBlock)) (n := t723.length) (c := co9) ?_).2.2; exact (by (with_reducible repeat (first | apply Kd.R_alloc | apply Kd.R_drewN | apply Kd.R_drew)); exact (Kd.R_mono (rf (Kd.R_types HO_729001.out BK736.out (by decide))) (fun _ h_ => h_.1)))); (case side4 => exact (Kd.R_reads' HO_729001.out).2.1); rintro e w26 ⟨v738, v741, rfl, ho0, ho1, hb⟩; have n0_ := Aside0.mk (Kd.R_elder' (by (with_reducible repeat (first | apply Kd.R_alloc | apply Kd.R_drewN | apply Kd.R_drew)); exact (Kd.R_mono (rf (Kd.R_types HO_729000.out BK736.out (by decide))) (fun _ h_ => h_.1))) (Kd.R_base ho0) hb); have n1_ := Aside0.mk (Kd.R_elder' (by (with_reducible repeat (first | apply Kd.R_alloc | apply Kd.R_drewN | apply Kd.R_drew)); exact (Kd.R_mono (rf (Kd.R_types HO_729001.out BK736.out (by decide))) (fun _ h_ => h_.1))) (Kd.R_base ho1) hb); have n2_ := Aside0.mk (Kd.R_elder' (by (with_reducible repeat (first | apply Kd.R_alloc | apply Kd.R_drewN | apply Kd.R_drew)); exact (Kd.R_mono (rf (Kd.R_types HO732.out BK736.out (by decide))) (fun _ h_ => h_.1))) (Kd.R_base ho0) hb); have n3_ := Aside0.mk (Kd.R_elder' (by (with_reducible repeat (first | apply Kd.R_alloc | apply Kd.R_drewN | apply Kd.R_drew)); exact (Kd.R_mono (rf (Kd.R_types HO735.out BK736.out (by decide))) (fun _ h_ => h_.1))) (Kd.R_base ho1) hb); have n4_ := Aside0.mk (Kd.R_lower (Kd.R_new' (Kd.R_new' ho0 (Kd.R_lt (by (with_reducible repeat (first | apply Kd.R_alloc | apply Kd.R_drewN | apply Kd.R_drew)); exact (Kd.R_mono (rf (Kd.R_types HO_729000.out BK736.out (by decide))) (fun _ h_ => h_.1))))) (Kd.R_lt (by (with_reducible repeat (first | apply Kd.R_alloc | apply Kd.R_drewN | apply Kd.R_drew)); exact (Kd.R_mono (rf (Kd.R_types HO732.out BK736.out (by decide))) (fun _ h_ => h_.1))))) (below_size (bs HB))); have n5_ := Aside0.mk (Kd.R_lower (Kd.R_new' (Kd.R_new' ho1 (Kd.R_lt (by (with_reducible repeat (first | apply Kd.R_alloc | apply Kd.R_drewN | apply Kd.R_drew)); exact (Kd.R_mono (rf (Kd.R_types HO_729001.out BK736.out (by decide))) (fun _ h_ => h_.1))))) (Kd.R_lt (by (with_reducible repeat (first | apply Kd.R_alloc | apply Kd.R_drewN | apply Kd.R_drew)); exact (Kd.R_mono (rf (Kd.R_types HO735.out BK736.out (by decide))) (fun _ h_ => h_.1))))) (below_size (bs HB))); have n6_ := Aside0.mk (blk_below (ks BK728) hb); have n7_ := Aside0.mk (blk_below (g := gb736) (o := .cells #[.slice Ao21 t730.length co21, .slice Ao24 t733.length co24] 47 (0, 0)) (kp BK736) hb); have n8_ := Aside0.mk (below_step (bs HB) hb); clear HO_729000; clear HO_729001; clear HO732; clear HO735; clear BK728; clear BK736; clear HB; have HO_729000 := n0_; have HO_729001 := n1_; have HO732 := n2_; have HO735 := n3_; have HO739 := n4_; have HO742 := n5_; have BK728 := n6_; have BK736 := n7_; have HB := n8_; clear n0_ n1_ n2_ n3_ n4_ n5_ n6_ n7_ n8_; (try clear hb); (try clear hb2); (try clear hk); (try clear hi); (try clear ho0); (try clear ho1); have HC27 := Aside0.mk H; clear H
          go_upto_region 8 with (first | ((with_reducible refine gate_dst (N := 7) rfl ?_); refine bx 7 (cs := #[.slice none 0 0, .slice none 0 0]) (t := 47) ?_; intro gb743 hg w28 hbox hb; replace HO_729000 := Aside0.mk (Kd.R_below (rs HO_729000) hb); replace HO_729001 := Aside0.mk (Kd.R_below (rs HO_729001) hb); replace HO732 := Aside0.mk (Kd.R_below (rs HO732) hb); replace HO735 := Aside0.mk (Kd.R_below (rs HO735) hb); replace HO739 := Aside0.mk (Kd.R_below (rs HO739) hb); replace HO742 := Aside0.mk (Kd.R_below (rs HO742) hb); have BK743 := Aside0.mk (hbox); have GW743 := Aside0.mk ((gs hg (bs HB))); have GE743 := Aside0.mk ((gs hg (bs HB))); replace HB := Aside0.mk (below_step (bs HB) hb); have NB728_743 := Aside0.mk ((gn hg (ks BK728))); have NB743_728 := Aside0.mk ((gm hg (ks BK728))); replace BK728 := Aside0.mk (blk_below (ks BK728) hb); have NB736_743 := Aside0.mk ((gn hg (ks BK736))); have NB743_736 := Aside0.mk ((gm hg (ks BK736))); replace BK736 := Aside0.mk (blk_below (ks BK736) hb); clear hb hbox hg; obtain ⟨Ao29, co29, eo29⟩ := Kd.R_slice HO739.out; subst eo29; have hnb30 := NB743_728.out; have hnc30 := NB728_743.out; have hnb31 := NB743_736.out; have hnc31 := NB736_743.out; obtain ⟨hcz32_0, hcz32_1, hfz32_0, hfz32_1⟩ := cf2 BK743; obtain ⟨Ao33, co33, eo33⟩ := Kd.R_slice HO742.out; subst eo33))
          (try simp only [Act.put, List.setIfInBounds_toArray, List.set_cons_zero, List.set_cons_succ])
          go_cut [46] (fun v46 wc => ∃ (kq : Nat) (x46_26 : Bool), v46 = .bool x46_26 ∧ Aside0 (laws_FnMoves.j1 kq t726 t727 x46_26 t720 t723 t730 t733 t737 t740 = some r) ∧ Aside0 (kq ≤ kj4) ∧ Aside0 (Kd.R k117 117 wc w.heap.size (fun k_ => some k_ ≠ ((.slice Ao21 t730.length co21) : Value).ownBlock ∧ some k_ ≠ ((.slice Ao29 t737.length co29) : Value).ownBlock) (.slice Ao7 t720.length co7) t720) ∧ Aside0 (Kd.R k54 54 wc w.heap.size (fun k_ => some k_ ≠ ((.slice Ao24 t733.length co24) : Value).ownBlock ∧ some k_ ≠ ((.slice Ao33 t740.length co33) : Value).ownBlock) (.slice Ao9 t723.length co9) t723) ∧ Aside0 (Kd.R k117 117 wc w.heap.size (fun k_ => some k_ ≠ ((.slice Ao7 t720.length co7) : Value).ownBlock ∧ some k_ ≠ ((.slice Ao29 t737.length co29) : Value).ownBlock) (.slice Ao21 t730.length co21) t730) ∧ Aside0 (Kd.R k54 54 wc w.heap.size (fun k_ => some k_ ≠ ((.slice Ao9 t723.length co9) : Value).ownBlock ∧ some k_ ≠ ((.slice Ao33 t740.length co33) : Value).ownBlock) (.slice Ao24 t733.length co24) t733) ∧ Aside0 (Kd.R k117 117 wc w.heap.size (fun k_ => some k_ ≠ ((.slice Ao7 t720.length co7) : Value).ownBlock ∧ some k_ ≠ ((.slice Ao21 t730.length co21) : Value).ownBlock) (.slice Ao29 t737.length co29) t737) ∧ Aside0 (Kd.R k54 54 wc w.heap.size (fun k_ => some k_ ≠ ((.slice Ao9 t723.length co9) : Value).ownBlock ∧ some k_ ≠ ((.slice Ao24 t733.length co24) : Value).ownBlock) (.slice Ao33 t740.length co33) t740) ∧ Aside0 (wc.heap[gb728]? = some (.cells #[(.slice Ao7 t720.length co7), (.slice Ao9 t723.length co9)] 47 (0, 0))) ∧ Aside0 (wc.heap[gb736]? = some (.cells #[(.slice Ao21 t730.length co21), (.slice Ao24 t733.length co24)] 47 (0, 0))) ∧ Aside0 (wc.heap[gb743]? = some (.cells #[(.slice Ao29 t737.length co29), (.slice Ao33 t740.length co33)] 47 (0, 0))) ∧ Aside0 (Below w.heap.size w wc))
          case first =>
            have H := HC27.out; clear HC27; replace H := Option.bind_eq_some_iff.mp H; obtain ⟨t744, A340, H⟩ := H; replace H : (if t744 = true then ((impl_BookRight.f kj4 t730 t733).bind fun t745 => (laws_FnMoves.j1 kj4 t726 t727 (!t745) t720 t723 t730 t733 t737 t740)) else (laws_FnMoves.j1 kj4 t726 t727 true t720 t723 t730 t733 t737 t740)) = some r := H; have A34 := Aside0.mk A340; clear A340; have hnb35 := NB736_728.out; have hnc35 := NB728_736.out; have hnb36 := NB736_743.out; have hnc36 := NB743_736.out; obtain ⟨hcz37_0, hcz37_1, hfz37_0, hfz37_1⟩ := cf2 BK736; have hnb38 := NB743_728.out; have hnc38 := NB728_743.out; obtain ⟨hcz39_0, hcz39_1, hfz39_0, hfz39_1⟩ := cf2 BK743
            try go_wp2_with (fail)
            go_at_call 63; (with_reducible refine (laws_lwBook.calls kj4 _ _ t730 _ _ t733 _ _ t737 _ _ t740 t744 _ ?side1 ?side2 ?side3 ?side4 ?side5 ?side6 ?side7 ?side8 A34.out).mono ?_); (case side1 => refine (Kd.R_reads' (e := 117) (base := w.heap.size) (ok := fun k_ => ((True ∧ some k_ ≠ (.slice Ao7 t720.length co7 : Value).ownBlock) ∧ some k_ ≠ (.slice Ao29 t737.length co29 : Value).ownBlock)) (n := t730.length) (c := co21) ?_).2.2; exact (by (with_reducible repeat (first | apply Kd.R_alloc | apply Kd.R_drewN | apply Kd.R_drew)); exact (Kd.R_mono (rf (Kd.R_types HO732.out BK743.out (by decide))) (fun _ h_ => h_.1)))); (case side2 => exact (Kd.R_reads' HO732.out).2.1); (case side3 => refine (Kd.R_reads' (e := 54) (base := w.heap.size) (ok := fun k_ => ((True ∧ some k_ ≠ (.slice Ao9 t723.length co9 : Value).ownBlock) ∧ some k_ ≠ (.slice Ao33 t740.length co33 : Value).ownBlock)) (n := t733.length) (c := co24) ?_).2.2; exact (by (with_reducible repeat (first | apply Kd.R_alloc | apply Kd.R_drewN | apply Kd.R_drew)); exact (Kd.R_mono (rf (Kd.R_types HO735.out BK743.out (by decide))) (fun _ h_ => h_.1)))); (case side4 => exact (Kd.R_reads' HO735.out).2.1); (case side5 => refine (Kd.R_reads' (e := 117) (base := w.heap.size) (ok := fun k_ => ((True ∧ some k_ ≠ (.slice Ao7 t720.length co7 : Value).ownBlock) ∧ some k_ ≠ (.slice Ao21 t730.length co21 : Value).ownBlock)) (n := t737.length) (c := co29) ?_).2.2; exact (by (with_reducible repeat (first | apply Kd.R_alloc | apply Kd.R_drewN | apply Kd.R_drew)); exact (Kd.R_mono (rf (Kd.R_types HO739.out BK743.out (by decide))) (fun _ h_ => h_.1)))); (case side6 => exact (Kd.R_reads' HO739.out).2.1); (case side7 => refine (Kd.R_reads' (e := 54) (base := w.heap.size) (ok := fun k_ => ((True ∧ some k_ ≠ (.slice Ao9 t723.length co9 : Value).ownBlock) ∧ some k_ ≠ (.slice Ao24 t733.length co24 : Value).ownBlock)) (n := t740.length) (c := co33) ?_).2.2; exact (by (with_reducible repeat (first | apply Kd.R_alloc | apply Kd.R_drewN | apply Kd.R_drew)); exact (Kd.R_mono (rf (Kd.R_types HO742.out BK743.out (by decide))) (fun _ h_ => h_.1)))); (case side8 => exact (Kd.R_reads' HO742.out).2.1); rintro e w40 ⟨rfl, hb⟩; have n0_ := Aside0.mk (Kd.R_below (by (with_reducible repeat (first | apply Kd.R_alloc | apply Kd.R_drewN | apply Kd.R_drew)); exact (Kd.R_mono (rf (Kd.R_types HO_729000.out BK743.out (by decide))) (fun _ h_ => h_.1))) hb); have n1_ := Aside0.mk (Kd.R_below (by (with_reducible repeat (first | apply Kd.R_alloc | apply Kd.R_drewN | apply Kd.R_drew)); exact (Kd.R_mono (rf (Kd.R_types HO_729001.out BK743.out (by decide))) (fun _ h_ => h_.1))) hb); have n2_ := Aside0.mk (Kd.R_below (by (with_reducible repeat (first | apply Kd.R_alloc | apply Kd.R_drewN | apply Kd.R_drew)); exact (Kd.R_mono (rf (Kd.R_types HO732.out BK743.out (by decide))) (fun _ h_ => h_.1))) hb); have n3_ := Aside0.mk (Kd.R_below (by (with_reducible repeat (first | apply Kd.R_alloc | apply Kd.R_drewN | apply Kd.R_drew)); exact (Kd.R_mono (rf (Kd.R_types HO735.out BK743.out (by decide))) (fun _ h_ => h_.1))) hb); have n4_ := Aside0.mk (Kd.R_below (by (with_reducible repeat (first | apply Kd.R_alloc | apply Kd.R_drewN | apply Kd.R_drew)); exact (Kd.R_mono (rf (Kd.R_types HO739.out BK743.out (by decide))) (fun _ h_ => h_.1))) hb); have n5_ := Aside0.mk (Kd.R_below (by (with_reducible repeat (first | apply Kd.R_alloc | apply Kd.R_drewN | apply Kd.R_drew)); exact (Kd.R_mono (rf (Kd.R_types HO742.out BK743.out (by decide))) (fun _ h_ => h_.1))) hb); have n6_ := Aside0.mk (blk_below (ks BK728) hb); have n7_ := Aside0.mk (blk_below (ks BK736) hb); have n8_ := Aside0.mk (blk_below (g := gb743) (o := .cells #[.slice Ao29 t737.length co29, .slice Ao33 t740.length co33] 47 (0, 0)) (kp BK743) hb); have n9_ := Aside0.mk (below_step (bs HB) hb); clear HO_729000; clear HO_729001; clear HO732; clear HO735; clear HO739; clear HO742; clear BK728; clear BK736; clear BK743; clear HB; have HO_729000 := n0_; have HO_729001 := n1_; have HO732 := n2_; have HO735 := n3_; have HO739 := n4_; have HO742 := n5_; have BK728 := n6_; have BK736 := n7_; have BK743 := n8_; have HB := n9_; clear n0_ n1_ n2_ n3_ n4_ n5_ n6_ n7_ n8_ n9_; (try clear hb); (try clear hb2); (try clear hk); (try clear hi)
            by_cases c41 : t744 = true
            · subst c41
              have H1 : ((impl_BookRight.f kj4 t730 t733).bind fun t745 => (laws_FnMoves.j1 kj4 t726 t727 (!t745) t720 t723 t730 t733 t737 t740)) = some r := by rw [if_pos rfl] at H; exact H
              clear H; have H := H1; clear H1; replace H := Option.bind_eq_some_iff.mp H; obtain ⟨t745, A420, H⟩ := H; replace H : (laws_FnMoves.j1 kj4 t726 t727 (!t745) t720 t723 t730 t733 t737 t740) = some r := H; have A42 := Aside0.mk A420; clear A420; have H' := Aside0.mk H; clear H; have hnb43 := NB736_728.out; have hnc43 := NB728_736.out; have hnb44 := NB736_743.out; have hnc44 := NB743_736.out; obtain ⟨hcz45_0, hcz45_1, hfz45_0, hfz45_1⟩ := cf2 BK736
              go_wp2_with (first | (go_at_call 64; (with_reducible refine (impl_BookRight.calls kj4 _ _ t730 _ _ t733 t745 _ ?side1 ?side2 ?side3 ?side4 A42.out).mono ?_); (case side1 => repeat (first | exact (Kd.R_reads' HO732.out).2.2 | (with_reducible refine Kd.C_alloc ?_ _) | (with_reducible refine Kd.C_drewN ?_ _) | (with_reducible refine Kd.C_drew ?_))); (case side2 => exact (Kd.R_reads' HO732.out).2.1); (case side3 => repeat (first | exact (Kd.R_reads' HO735.out).2.2 | (with_reducible refine Kd.C_alloc ?_ _) | (with_reducible refine Kd.C_drewN ?_ _) | (with_reducible refine Kd.C_drew ?_))); (case side4 => exact (Kd.R_reads' HO735.out).2.1); rintro e w46 ⟨rfl, hb⟩; replace HO_729000 := Aside0.mk (Kd.R_below (rs HO_729000) hb); replace HO_729001 := Aside0.mk (Kd.R_below (rs HO_729001) hb); replace HO732 := Aside0.mk (Kd.R_below (rs HO732) hb); replace HO735 := Aside0.mk (Kd.R_below (rs HO735) hb); replace HO739 := Aside0.mk (Kd.R_below (rs HO739) hb); replace HO742 := Aside0.mk (Kd.R_below (rs HO742) hb); replace BK728 := Aside0.mk (blk_below (ks BK728) hb); replace BK736 := Aside0.mk (blk_below (ks BK736) hb); replace BK743 := Aside0.mk (blk_below (ks BK743) hb); replace HB := Aside0.mk (below_step (bs HB) hb); (try clear hb); (try clear hb2); (try clear hk); (try clear hi)))
              go_meet
              case rel => exact ⟨_, (!t745), fg, H', ⟨by have := HJ4.out; first | omega | exact Nat.le_refl _⟩, ⟨by (with_reducible repeat (first | apply Kd.R_alloc | apply Kd.R_drewN | apply Kd.R_drew)); exact Kd.R_mono HO_729000.out (fun _ hk => ⟨hk.1.2, hk.2⟩)⟩, ⟨by (with_reducible repeat (first | apply Kd.R_alloc | apply Kd.R_drewN | apply Kd.R_drew)); exact Kd.R_mono HO_729001.out (fun _ hk => ⟨hk.1.2, hk.2⟩)⟩, ⟨by (with_reducible repeat (first | apply Kd.R_alloc | apply Kd.R_drewN | apply Kd.R_drew)); exact Kd.R_mono HO732.out (fun _ hk => ⟨hk.1.2, hk.2⟩)⟩, ⟨by (with_reducible repeat (first | apply Kd.R_alloc | apply Kd.R_drewN | apply Kd.R_drew)); exact Kd.R_mono HO735.out (fun _ hk => ⟨hk.1.2, hk.2⟩)⟩, ⟨by (with_reducible repeat (first | apply Kd.R_alloc | apply Kd.R_drewN | apply Kd.R_drew)); exact Kd.R_mono HO739.out (fun _ hk => ⟨hk.1.2, hk.2⟩)⟩, ⟨by (with_reducible repeat (first | apply Kd.R_alloc | apply Kd.R_drewN | apply Kd.R_drew)); exact Kd.R_mono HO742.out (fun _ hk => ⟨hk.1.2, hk.2⟩)⟩, ⟨ks BK728⟩, ⟨ks BK736⟩, ⟨ks BK743⟩, ⟨bs HB⟩⟩
            · replace c41 := Bool.eq_false_iff.mpr c41; subst c41
              have H1 : (laws_FnMoves.j1 kj4 t726 t727 true t720 t723 t730 t733 t737 t740) = some r := by rw [if_neg (show ¬ (false = true) by decide)] at H; exact H
              clear H; have H := H1; clear H1; have H' := Aside0.mk H; clear H
              go_wp2
              go_meet
              case rel => exact ⟨_, (true), fg, H', ⟨by have := HJ4.out; first | omega | exact Nat.le_refl _⟩, ⟨by (with_reducible repeat (first | apply Kd.R_alloc | apply Kd.R_drewN | apply Kd.R_drew)); exact Kd.R_mono HO_729000.out (fun _ hk => ⟨hk.1.2, hk.2⟩)⟩, ⟨by (with_reducible repeat (first | apply Kd.R_alloc | apply Kd.R_drewN | apply Kd.R_drew)); exact Kd.R_mono HO_729001.out (fun _ hk => ⟨hk.1.2, hk.2⟩)⟩, ⟨by (with_reducible repeat (first | apply Kd.R_alloc | apply Kd.R_drewN | apply Kd.R_drew)); exact Kd.R_mono HO732.out (fun _ hk => ⟨hk.1.2, hk.2⟩)⟩, ⟨by (with_reducible repeat (first | apply Kd.R_alloc | apply Kd.R_drewN | apply Kd.R_drew)); exact Kd.R_mono HO735.out (fun _ hk => ⟨hk.1.2, hk.2⟩)⟩, ⟨by (with_reducible repeat (first | apply Kd.R_alloc | apply Kd.R_drewN | apply Kd.R_drew)); exact Kd.R_mono HO739.out (fun _ hk => ⟨hk.1.2, hk.2⟩)⟩, ⟨by (with_reducible repeat (first | apply Kd.R_alloc | apply Kd.R_drewN | apply Kd.R_drew)); exact Kd.R_mono HO742.out (fun _ hk => ⟨hk.1.2, hk.2⟩)⟩, ⟨ks BK728⟩, ⟨ks BK736⟩, ⟨ks BK743⟩, ⟨bs HB⟩⟩
          case rest =>
            clear HC27
            try clear c1
            try clear c2
            try clear c2b0
            try clear c2b1
            try clear p2
            try clear c3
            try clear c4
            try clear c13
            try clear c14
            try clear c14b0
            try clear c15
            try clear c22
            try clear c30
            try clear c31
            try clear c35
            try clear c36
            try clear c38
            try clear c41
            try clear c43
            try clear c44
            try clear hcz11_0
            try clear hcz11_1
            try clear hcz17_0
            try clear hcz17_1
            try clear hcz23_0
            try clear hcz23_1
            try clear hcz25_0
            try clear hcz25_1
            try clear hcz32_0
            try clear hcz32_1
            try clear hcz37_0
            try clear hcz37_1
            try clear hcz39_0
            try clear hcz39_1
            try clear hcz45_0
            try clear hcz45_1
            try clear hcz8_0
            try clear hcz8_1
            try clear hfz11_0
            try clear hfz11_1
            try clear hfz17_0
            try clear hfz17_1
            try clear hfz23_0
            try clear hfz23_1
            try clear hfz25_0
            try clear hfz25_1
            try clear hfz32_0
            try clear hfz32_1
            try clear hfz37_0
            try clear hfz37_1
            try clear hfz39_0
            try clear hfz39_1
            try clear hfz45_0
            try clear hfz45_1
            try clear hfz8_0
            try clear hfz8_1
            try clear p2
            obtain ⟨kq, x46_26, rfl, HA, HJ26, HO_729000, HO_729001, HO_737000, HO_737001, HO_744000, HO_744001, BK728, BK736, BK743, HB⟩ := hcut
            cases kq with
            | zero => exact absurd HA.out (by simp [laws_FnMoves.j1])
            | succ kj26 =>
              have H := HA.out; clear HA; simp only [laws_FnMoves.j1] at H
              by_cases c47 : x46_26 = true
              · subst c47
                have H1 : (some false) = some r := by rw [if_pos rfl] at H; exact H
                clear H; have H := H1; clear H1; obtain rfl := Option.some.inj H
                go_wp2
                go_ret
                exact ⟨ff, bs HB⟩
              · replace c47 := Bool.eq_false_iff.mpr c47; subst c47
                have H1 : ((impl_BookHand.f kj26 t720 t723 t726).bind fun t746 => ((laws_lwBook.f kj26 t737 t740 t720 t723).bind fun t747 => (if t747 = true then ((impl_BookHand.f kj26 t730 t733 t726).bind fun t748 => (some (t748 == t746))) else ((impl_BookMove.f kj26 t730 t733 t726 (wrap64 (-t727))).bind fun bt749 => ((impl_BookHand.f kj26 t730 t733 t726).bind fun t756 => (if t756 = (wrap64 (t746 + t727)) then ((impl_BookHand.f kj26 bt749.1 bt749.2 t726).bind fun t757 => (some (t757 == t746))) else (some false))))))) = some r := by rw [if_neg (show ¬ (false = true) by decide)] at H; exact H
                clear H; have H := H1; clear H1; replace H := Option.bind_eq_some_iff.mp H; obtain ⟨t746, A480, H⟩ := H; replace H : ((laws_lwBook.f kj26 t737 t740 t720 t723).bind fun t747 => (if t747 = true then ((impl_BookHand.f kj26 t730 t733 t726).bind fun t748 => (some (t748 == t746))) else ((impl_BookMove.f kj26 t730 t733 t726 (wrap64 (-t727))).bind fun bt749 => ((impl_BookHand.f kj26 t730 t733 t726).bind fun t756 => (if t756 = (wrap64 (t746 + t727)) then ((impl_BookHand.f kj26 bt749.1 bt749.2 t726).bind fun t757 => (some (t757 == t746))) else (some false)))))) = some r := H; have A48 := Aside0.mk A480; clear A480; have hnb49 := NB728_736.out; have hnc49 := NB736_728.out; have hnb50 := NB728_743.out; have hnc50 := NB743_728.out; obtain ⟨hcz51_0, hcz51_1, hfz51_0, hfz51_1⟩ := cf2 BK728
                try go_wp2_with (fail)
                go_at_call 30; (with_reducible refine (impl_BookHand.calls kj26 _ _ t720 _ _ t723 t726 t746 _ ?side1 ?side2 ?side3 ?side4 A48.out).mono ?_); (case side1 => repeat (first | exact (Kd.R_reads' HO_729000.out).2.2 | (with_reducible refine Kd.C_alloc ?_ _) | (with_reducible refine Kd.C_drewN ?_ _) | (with_reducible refine Kd.C_drew ?_))); (case side2 => exact (Kd.R_reads' HO_729000.out).2.1); (case side3 => repeat (first | exact (Kd.R_reads' HO_729001.out).2.2 | (with_reducible refine Kd.C_alloc ?_ _) | (with_reducible refine Kd.C_drewN ?_ _) | (with_reducible refine Kd.C_drew ?_))); (case side4 => exact (Kd.R_reads' HO_729001.out).2.1); rintro e w52 ⟨rfl, hb⟩; replace HO_729000 := Aside0.mk (Kd.R_below (rs HO_729000) hb); replace HO_729001 := Aside0.mk (Kd.R_below (rs HO_729001) hb); replace HO_737000 := Aside0.mk (Kd.R_below (rs HO_737000) hb); replace HO_737001 := Aside0.mk (Kd.R_below (rs HO_737001) hb); replace HO_744000 := Aside0.mk (Kd.R_below (rs HO_744000) hb); replace HO_744001 := Aside0.mk (Kd.R_below (rs HO_744001) hb); replace BK728 := Aside0.mk (blk_below (ks BK728) hb); replace BK736 := Aside0.mk (blk_below (ks BK736) hb); replace BK743 := Aside0.mk (blk_below (ks BK743) hb); replace HB := Aside0.mk (below_step (bs HB) hb); (try clear hb); (try clear hb2); (try clear hk); (try clear hi); replace H := Option.bind_eq_some_iff.mp H; obtain ⟨t747, A530, H⟩ := H; replace H : (if t747 = true then ((impl_BookHand.f kj26 t730 t733 t726).bind fun t748 => (some (t748 == t746))) else ((impl_BookMove.f kj26 t730 t733 t726 (wrap64 (-t727))).bind fun bt749 => ((impl_BookHand.f kj26 t730 t733 t726).bind fun t756 => (if t756 = (wrap64 (t746 + t727)) then ((impl_BookHand.f kj26 bt749.1 bt749.2 t726).bind fun t757 => (some (t757 == t746))) else (some false))))) = some r := H; have A53 := Aside0.mk A530; clear A530; have hnb54 := NB743_728.out; have hnc54 := NB728_743.out; have hnb55 := NB743_736.out; have hnc55 := NB736_743.out; obtain ⟨hcz56_0, hcz56_1, hfz56_0, hfz56_1⟩ := cf2 BK743; have hnb57 := NB728_736.out; have hnc57 := NB736_728.out; obtain ⟨hcz58_0, hcz58_1, hfz58_0, hfz58_1⟩ := cf2 BK728
                try go_wp2_with (fail)
                go_at_call 63; (with_reducible refine (laws_lwBook.calls kj26 _ _ t737 _ _ t740 _ _ t720 _ _ t723 t747 _ ?side1 ?side2 ?side3 ?side4 ?side5 ?side6 ?side7 ?side8 A53.out).mono ?_); (case side1 => repeat (first | exact (Kd.R_reads' HO_744000.out).2.2 | (with_reducible refine Kd.C_alloc ?_ _) | (with_reducible refine Kd.C_drewN ?_ _) | (with_reducible refine Kd.C_drew ?_))); (case side2 => exact (Kd.R_reads' HO_744000.out).2.1); (case side3 => repeat (first | exact (Kd.R_reads' HO_744001.out).2.2 | (with_reducible refine Kd.C_alloc ?_ _) | (with_reducible refine Kd.C_drewN ?_ _) | (with_reducible refine Kd.C_drew ?_))); (case side4 => exact (Kd.R_reads' HO_744001.out).2.1); (case side5 => repeat (first | exact (Kd.R_reads' HO_729000.out).2.2 | (with_reducible refine Kd.C_alloc ?_ _) | (with_reducible refine Kd.C_drewN ?_ _) | (with_reducible refine Kd.C_drew ?_))); (case side6 => exact (Kd.R_reads' HO_729000.out).2.1); (case side7 => repeat (first | exact (Kd.R_reads' HO_729001.out).2.2 | (with_reducible refine Kd.C_alloc ?_ _) | (with_reducible refine Kd.C_drewN ?_ _) | (with_reducible refine Kd.C_drew ?_))); (case side8 => exact (Kd.R_reads' HO_729001.out).2.1); rintro e w59 ⟨rfl, hb⟩; replace HO_729000 := Aside0.mk (Kd.R_below (rs HO_729000) hb); replace HO_729001 := Aside0.mk (Kd.R_below (rs HO_729001) hb); replace HO_737000 := Aside0.mk (Kd.R_below (rs HO_737000) hb); replace HO_737001 := Aside0.mk (Kd.R_below (rs HO_737001) hb); replace HO_744000 := Aside0.mk (Kd.R_below (rs HO_744000) hb); replace HO_744001 := Aside0.mk (Kd.R_below (rs HO_744001) hb); replace BK728 := Aside0.mk (blk_below (ks BK728) hb); replace BK736 := Aside0.mk (blk_below (ks BK736) hb); replace BK743 := Aside0.mk (blk_below (ks BK743) hb); replace HB := Aside0.mk (below_step (bs HB) hb); (try clear hb); (try clear hb2); (try clear hk); (try clear hi)
                by_cases c60 : t747 = true
                · subst c60
                  have H1 : ((impl_BookHand.f kj26 t730 t733 t726).bind fun t748 => (some (t748 == t746))) = some r := by rw [if_pos rfl] at H; exact H
                  clear H; have H := H1; clear H1; replace H := Option.bind_eq_some_iff.mp H; obtain ⟨t748, A610, H⟩ := H; replace H : (some (t748 == t746)) = some r := H; have A61 := Aside0.mk A610; clear A610; obtain rfl := Option.some.inj H; have hnb62 := NB736_728.out; have hnc62 := NB728_736.out; have hnb63 := NB736_743.out; have hnc63 := NB743_736.out; obtain ⟨hcz64_0, hcz64_1, hfz64_0, hfz64_1⟩ := cf2 BK736
                  go_wp2_with (first | ((first | ((with_reducible refine gate_callee (f := 30) rfl ?_); refine goesL_ (some 55) rfl rfl Try.func30 (by kernel_rfl) rfl #[.agg #[.slice Ao21 t730.length co21, .slice Ao24 t733.length co24], .string t726] rfl (by (try simp only [List.map_toArray, List.map_cons, List.map_nil]); first | done | rfl | (simp only [List.length_drop, List.length_take]; rfl)) ?_; (with_reducible refine (impl_BookHand.calls kj26 _ _ t730 _ _ t733 t726 t748 _ ?side1 ?side2 ?side3 ?side4 A61.out).mono ?_); (case side1 => repeat (first | exact (Kd.R_reads' HO_737000.out).2.2 | (with_reducible refine Kd.C_alloc ?_ _) | (with_reducible refine Kd.C_drewN ?_ _) | (with_reducible refine Kd.C_drew ?_))); (case side2 => exact (Kd.R_reads' HO_737000.out).2.1); (case side3 => repeat (first | exact (Kd.R_reads' HO_737001.out).2.2 | (with_reducible refine Kd.C_alloc ?_ _) | (with_reducible refine Kd.C_drewN ?_ _) | (with_reducible refine Kd.C_drew ?_))); (case side4 => exact (Kd.R_reads' HO_737001.out).2.1); rintro e w65 ⟨rfl, hb⟩; refine ⟨_, rfl, ?_⟩) | (go_at_call 30; (with_reducible refine (impl_BookHand.calls kj26 _ _ t730 _ _ t733 t726 t748 _ ?side1 ?side2 ?side3 ?side4 A61.out).mono ?_); (case side1 => repeat (first | exact (Kd.R_reads' HO_737000.out).2.2 | (with_reducible refine Kd.C_alloc ?_ _) | (with_reducible refine Kd.C_drewN ?_ _) | (with_reducible refine Kd.C_drew ?_))); (case side2 => exact (Kd.R_reads' HO_737000.out).2.1); (case side3 => repeat (first | exact (Kd.R_reads' HO_737001.out).2.2 | (with_reducible refine Kd.C_alloc ?_ _) | (with_reducible refine Kd.C_drewN ?_ _) | (with_reducible refine Kd.C_drew ?_))); (case side4 => exact (Kd.R_reads' HO_737001.out).2.1); rintro e w65 ⟨rfl, hb⟩)); replace HO_729000 := Aside0.mk (Kd.R_below (rs HO_729000) hb); replace HO_729001 := Aside0.mk (Kd.R_below (rs HO_729001) hb); replace HO_737000 := Aside0.mk (Kd.R_below (rs HO_737000) hb); replace HO_737001 := Aside0.mk (Kd.R_below (rs HO_737001) hb); replace HO_744000 := Aside0.mk (Kd.R_below (rs HO_744000) hb); replace HO_744001 := Aside0.mk (Kd.R_below (rs HO_744001) hb); replace BK728 := Aside0.mk (blk_below (ks BK728) hb); replace BK736 := Aside0.mk (blk_below (ks BK736) hb); replace BK743 := Aside0.mk (blk_below (ks BK743) hb); replace HB := Aside0.mk (below_step (bs HB) hb); (try clear hb); (try clear hb2); (try clear hk); (try clear hi)))
                  go_ret
                  exact ⟨ff, bs HB⟩
                · replace c60 := Bool.eq_false_iff.mpr c60; subst c60
                  have H1 : ((impl_BookMove.f kj26 t730 t733 t726 (wrap64 (-t727))).bind fun bt749 => ((impl_BookHand.f kj26 t730 t733 t726).bind fun t756 => (if t756 = (wrap64 (t746 + t727)) then ((impl_BookHand.f kj26 bt749.1 bt749.2 t726).bind fun t757 => (some (t757 == t746))) else (some false)))) = some r := by rw [if_neg (show ¬ (false = true) by decide)] at H; exact H
                  clear H; have H := H1; clear H1; replace H := Option.bind_eq_some_iff.mp H; obtain ⟨⟨t749, t752⟩, A660, H⟩ := H; replace H : ((impl_BookHand.f kj26 t730 t733 t726).bind fun t756 => (if t756 = (wrap64 (t746 + t727)) then ((impl_BookHand.f kj26 t749 t752 t726).bind fun t757 => (some (t757 == t746))) else (some false))) = some r := H; have A66 := Aside0.mk A660; clear A660; have hnb67 := NB736_728.out; have hnc67 := NB728_736.out; have hnb68 := NB736_743.out; have hnc68 := NB743_736.out; obtain ⟨hcz69_0, hcz69_1, hfz69_0, hfz69_1⟩ := cf2 BK736
                  try go_wp2_with (fail)
                  go_at_call 61; (with_reducible refine (impl_BookMove.calls kj26 _ _ t730 _ _ t733 t726 (wrap64 (-t727)) t749 t752 _ ?side1 ?side2 ?side3 ?side4 A66.out).mono ?_); (case side1 => repeat (first | exact (Kd.R_reads' HO_737000.out).2.2 | (with_reducible refine Kd.C_alloc ?_ _) | (with_reducible refine Kd.C_drewN ?_ _) | (with_reducible refine Kd.C_drew ?_))); (case side2 => exact (Kd.R_reads' HO_737000.out).2.1); (case side3 => repeat (first | exact (Kd.R_reads' HO_737001.out).2.2 | (with_reducible refine Kd.C_alloc ?_ _) | (with_reducible refine Kd.C_drewN ?_ _) | (with_reducible refine Kd.C_drew ?_))); (case side4 => exact (Kd.R_reads' HO_737001.out).2.1); rintro e w70 ⟨v750, v753, rfl, ho0, ho1, hb⟩; have HO751 := Aside0.mk (Kd.R_lower (Kd.R_new' (Kd.R_new' (Kd.R_new' ho0 (Kd.R_lt (rs HO_729000))) (Kd.R_lt (rs HO_737000))) (Kd.R_lt (rs HO_744000))) (below_size (bs HB))); replace HO_729000 := Aside0.mk (Kd.R_elder' (rs HO_729000) (Kd.R_base ho0) hb); replace HO_737000 := Aside0.mk (Kd.R_elder' (rs HO_737000) (Kd.R_base ho0) hb); replace HO_744000 := Aside0.mk (Kd.R_elder' (rs HO_744000) (Kd.R_base ho0) hb); have HO754 := Aside0.mk (Kd.R_lower (Kd.R_new' (Kd.R_new' (Kd.R_new' ho1 (Kd.R_lt (rs HO_729001))) (Kd.R_lt (rs HO_737001))) (Kd.R_lt (rs HO_744001))) (below_size (bs HB))); replace HO_729001 := Aside0.mk (Kd.R_elder' (rs HO_729001) (Kd.R_base ho1) hb); replace HO_737001 := Aside0.mk (Kd.R_elder' (rs HO_737001) (Kd.R_base ho1) hb); replace HO_744001 := Aside0.mk (Kd.R_elder' (rs HO_744001) (Kd.R_base ho1) hb); replace BK728 := Aside0.mk (blk_below (ks BK728) hb); replace BK736 := Aside0.mk (blk_below (ks BK736) hb); replace BK743 := Aside0.mk (blk_below (ks BK743) hb); replace HB := Aside0.mk (below_step (bs HB) hb); (try clear hb); (try clear hb2); (try clear hk); (try clear hi); (try clear ho0); (try clear ho1); replace H := Option.bind_eq_some_iff.mp H; obtain ⟨t756, A710, H⟩ := H; replace H : (if t756 = (wrap64 (t746 + t727)) then ((impl_BookHand.f kj26 t749 t752 t726).bind fun t757 => (some (t757 == t746))) else (some false)) = some r := H; have A71 := Aside0.mk A710; clear A710
                  try go_wp2_with (first | ((with_reducible refine gate_dst (N := 9) rfl ?_); refine bx 9 (cs := #[.slice none 0 0, .slice none 0 0]) (t := 47) ?_; intro gb755 hg w72 hbox hb; replace HO_729000 := Aside0.mk (Kd.R_below (rs HO_729000) hb); replace HO_729001 := Aside0.mk (Kd.R_below (rs HO_729001) hb); replace HO_737000 := Aside0.mk (Kd.R_below (rs HO_737000) hb); replace HO_737001 := Aside0.mk (Kd.R_below (rs HO_737001) hb); replace HO_744000 := Aside0.mk (Kd.R_below (rs HO_744000) hb); replace HO_744001 := Aside0.mk (Kd.R_below (rs HO_744001) hb); replace HO751 := Aside0.mk (Kd.R_below (rs HO751) hb); replace HO754 := Aside0.mk (Kd.R_below (rs HO754) hb); have BK755 := Aside0.mk (hbox); have GW755 := Aside0.mk ((gs hg (bs HB))); have GE755 := Aside0.mk ((gs hg (bs HB))); replace HB := Aside0.mk (below_step (bs HB) hb); have NB728_755 := Aside0.mk ((gn hg (ks BK728))); have NB755_728 := Aside0.mk ((gm hg (ks BK728))); replace BK728 := Aside0.mk (blk_below (ks BK728) hb); have NB736_755 := Aside0.mk ((gn hg (ks BK736))); have NB755_736 := Aside0.mk ((gm hg (ks BK736))); replace BK736 := Aside0.mk (blk_below (ks BK736) hb); have NB743_755 := Aside0.mk ((gn hg (ks BK743))); have NB755_743 := Aside0.mk ((gm hg (ks BK743))); replace BK743 := Aside0.mk (blk_below (ks BK743) hb); clear hb hbox hg; obtain ⟨Ao73, co73, eo73⟩ := Kd.R_slice HO751.out; subst eo73; have hnb74 := NB755_728.out; have hnc74 := NB728_755.out; have hnb75 := NB755_736.out; have hnc75 := NB736_755.out; have hnb76 := NB755_743.out; have hnc76 := NB743_755.out; obtain ⟨hcz77_0, hcz77_1, hfz77_0, hfz77_1⟩ := cf2 BK755; obtain ⟨Ao78, co78, eo78⟩ := Kd.R_slice HO754.out; subst eo78; have hnb79 := NB736_728.out; have hnc79 := NB728_736.out; have hnb80 := NB736_743.out; have hnc80 := NB743_736.out; obtain ⟨hcz81_0, hcz81_1, hfz81_0, hfz81_1⟩ := cf2 BK736))
                  go_at_call 30; (with_reducible refine (impl_BookHand.calls kj26 _ _ t730 _ _ t733 t726 t756 _ ?side1 ?side2 ?side3 ?side4 A71.out).mono ?_); (case side1 => refine (Kd.R_reads' (e := 117) (base := w.heap.size) (ok := fun k_ => ((some k_ ≠ (.slice Ao7 t720.length co7 : Value).ownBlock ∧ some k_ ≠ (.slice Ao29 t737.length co29 : Value).ownBlock) ∧ some k_ ≠ (.slice Ao73 t749.length co73 : Value).ownBlock)) (n := t730.length) (c := co21) ?_).2.2; exact (by (with_reducible repeat (first | apply Kd.R_alloc | apply Kd.R_drewN | apply Kd.R_drew)); exact (Kd.R_mono (rf (Kd.R_types HO_737000.out BK755.out (by decide))) (fun _ h_ => h_.1)))); (case side2 => exact (Kd.R_reads' HO_737000.out).2.1); (case side3 => refine (Kd.R_reads' (e := 54) (base := w.heap.size) (ok := fun k_ => ((some k_ ≠ (.slice Ao9 t723.length co9 : Value).ownBlock ∧ some k_ ≠ (.slice Ao33 t740.length co33 : Value).ownBlock) ∧ some k_ ≠ (.slice Ao78 t752.length co78 : Value).ownBlock)) (n := t733.length) (c := co24) ?_).2.2; exact (by (with_reducible repeat (first | apply Kd.R_alloc | apply Kd.R_drewN | apply Kd.R_drew)); exact (Kd.R_mono (rf (Kd.R_types HO_737001.out BK755.out (by decide))) (fun _ h_ => h_.1)))); (case side4 => exact (Kd.R_reads' HO_737001.out).2.1); rintro e w82 ⟨rfl, hb⟩; have n0_ := Aside0.mk (Kd.R_below (by (with_reducible repeat (first | apply Kd.R_alloc | apply Kd.R_drewN | apply Kd.R_drew)); exact (Kd.R_mono (rf (Kd.R_types HO_729000.out BK755.out (by decide))) (fun _ h_ => h_.1))) hb); have n1_ := Aside0.mk (Kd.R_below (by (with_reducible repeat (first | apply Kd.R_alloc | apply Kd.R_drewN | apply Kd.R_drew)); exact (Kd.R_mono (rf (Kd.R_types HO_729001.out BK755.out (by decide))) (fun _ h_ => h_.1))) hb); have n2_ := Aside0.mk (Kd.R_below (by (with_reducible repeat (first | apply Kd.R_alloc | apply Kd.R_drewN | apply Kd.R_drew)); exact (Kd.R_mono (rf (Kd.R_types HO_737000.out BK755.out (by decide))) (fun _ h_ => h_.1))) hb); have n3_ := Aside0.mk (Kd.R_below (by (with_reducible repeat (first | apply Kd.R_alloc | apply Kd.R_drewN | apply Kd.R_drew)); exact (Kd.R_mono (rf (Kd.R_types HO_737001.out BK755.out (by decide))) (fun _ h_ => h_.1))) hb); have n4_ := Aside0.mk (Kd.R_below (by (with_reducible repeat (first | apply Kd.R_alloc | apply Kd.R_drewN | apply Kd.R_drew)); exact (Kd.R_mono (rf (Kd.R_types HO_744000.out BK755.out (by decide))) (fun _ h_ => h_.1))) hb); have n5_ := Aside0.mk (Kd.R_below (by (with_reducible repeat (first | apply Kd.R_alloc | apply Kd.R_drewN | apply Kd.R_drew)); exact (Kd.R_mono (rf (Kd.R_types HO_744001.out BK755.out (by decide))) (fun _ h_ => h_.1))) hb); have n6_ := Aside0.mk (Kd.R_below (by (with_reducible repeat (first | apply Kd.R_alloc | apply Kd.R_drewN | apply Kd.R_drew)); exact (Kd.R_mono (rf (Kd.R_types HO751.out BK755.out (by decide))) (fun _ h_ => h_.1))) hb); have n7_ := Aside0.mk (Kd.R_below (by (with_reducible repeat (first | apply Kd.R_alloc | apply Kd.R_drewN | apply Kd.R_drew)); exact (Kd.R_mono (rf (Kd.R_types HO754.out BK755.out (by decide))) (fun _ h_ => h_.1))) hb); have n8_ := Aside0.mk (blk_below (ks BK728) hb); have n9_ := Aside0.mk (blk_below (ks BK736) hb); have n10_ := Aside0.mk (blk_below (ks BK743) hb); have n11_ := Aside0.mk (blk_below (g := gb755) (o := .cells #[.slice Ao73 t749.length co73, .slice Ao78 t752.length co78] 47 (0, 0)) (kp BK755) hb); have n12_ := Aside0.mk (below_step (bs HB) hb); clear HO_729000; clear HO_729001; clear HO_737000; clear HO_737001; clear HO_744000; clear HO_744001; clear HO751; clear HO754; clear BK728; clear BK736; clear BK743; clear BK755; clear HB; have HO_729000 := n0_; have HO_729001 := n1_; have HO_737000 := n2_; have HO_737001 := n3_; have HO_744000 := n4_; have HO_744001 := n5_; have HO751 := n6_; have HO754 := n7_; have BK728 := n8_; have BK736 := n9_; have BK743 := n10_; have BK755 := n11_; have HB := n12_; clear n0_ n1_ n2_ n3_ n4_ n5_ n6_ n7_ n8_ n9_ n10_ n11_ n12_; (try clear hb); (try clear hb2); (try clear hk); (try clear hi)
                  by_cases c83 : t756 = (wrap64 (t746 + t727))
                  · rw [if_pos c83] at H; have c83b0 : (t756 == (wrap64 (t746 + t727))) = true := beq_iff_eq.mpr c83; have c83b1 : (t756 != (wrap64 (t746 + t727))) = false := bne_eq_false_iff_eq.mpr c83; clear c83; replace H := Option.bind_eq_some_iff.mp H; obtain ⟨t757, A840, H⟩ := H; replace H : (some (t757 == t746)) = some r := H; have A84 := Aside0.mk A840; clear A840; obtain rfl := Option.some.inj H; have hnb85 := NB755_728.out; have hnc85 := NB728_755.out; have hnb86 := NB755_736.out; have hnc86 := NB736_755.out; have hnb87 := NB755_743.out; have hnc87 := NB743_755.out; obtain ⟨hcz88_0, hcz88_1, hfz88_0, hfz88_1⟩ := cf2 BK755
                    go_wp2_with (first | (go_at_call 30; (with_reducible refine (impl_BookHand.calls kj26 _ _ t749 _ _ t752 t726 t757 _ ?side1 ?side2 ?side3 ?side4 A84.out).mono ?_); (case side1 => repeat (first | exact (Kd.R_reads' HO751.out).2.2 | (with_reducible refine Kd.C_alloc ?_ _) | (with_reducible refine Kd.C_drewN ?_ _) | (with_reducible refine Kd.C_drew ?_))); (case side2 => exact (Kd.R_reads' HO751.out).2.1); (case side3 => repeat (first | exact (Kd.R_reads' HO754.out).2.2 | (with_reducible refine Kd.C_alloc ?_ _) | (with_reducible refine Kd.C_drewN ?_ _) | (with_reducible refine Kd.C_drew ?_))); (case side4 => exact (Kd.R_reads' HO754.out).2.1); rintro e w89 ⟨rfl, hb⟩; replace HO_729000 := Aside0.mk (Kd.R_below (rs HO_729000) hb); replace HO_729001 := Aside0.mk (Kd.R_below (rs HO_729001) hb); replace HO_737000 := Aside0.mk (Kd.R_below (rs HO_737000) hb); replace HO_737001 := Aside0.mk (Kd.R_below (rs HO_737001) hb); replace HO_744000 := Aside0.mk (Kd.R_below (rs HO_744000) hb); replace HO_744001 := Aside0.mk (Kd.R_below (rs HO_744001) hb); replace HO751 := Aside0.mk (Kd.R_below (rs HO751) hb); replace HO754 := Aside0.mk (Kd.R_below (rs HO754) hb); replace BK728 := Aside0.mk (blk_below (ks BK728) hb); replace BK736 := Aside0.mk (blk_below (ks BK736) hb); replace BK743 := Aside0.mk (blk_below (ks BK743) hb); replace BK755 := Aside0.mk (blk_below (ks BK755) hb); replace HB := Aside0.mk (below_step (bs HB) hb); (try clear hb); (try clear hb2); (try clear hk); (try clear hi)))
                    go_ret
                    exact ⟨ff, bs HB⟩
                  · rw [if_neg c83] at H; have c83b0 : (t756 == (wrap64 (t746 + t727))) = false := beq_eq_false_iff_ne.mpr c83; have c83b1 : (t756 != (wrap64 (t746 + t727))) = true := bne_iff_ne.mpr c83; obtain rfl := Option.some.inj H
                    go_wp2
                    go_ret
                    exact ⟨ff, bs HB⟩
end Go.Proofs.Ytefmkmhjbfpelaa.QM
namespace Go.Proofs.Ytefmkmhjbfpelaa.Rd
open Go.RowKit Go.ChangeShapes Go.WideShapes Go.Proofs.YtefmkmhjbfpelaaW.PrintWords
def Rd (P : Program) (t : TypeId) {α : Type} (d : Kd α) (wf : α → Prop) : Prop :=
  ∀ (H : Type) (enc : TypeId × Value → H) (w : World) (base : Nat) (sp : Nat → Bool) (held : Bool) (fuel : Nat) (cs : List Value) (x : DataW H × List MemPlace),
    DataW.trod enc P w base sp held fuel t cs = some x → ∃ a : α, d.K w a cs ∧ wf a
def WfInt (k : IntKind) (n : Int) : Prop := (Lit.int k n).wf = true
def WfRow {α : Type} (wf : α → Prop) (l : List α) : Prop := l.length ≤ maxLen ∧ ∀ x ∈ l, wf x
theorem rd_int {P : Program} {t : TypeId} {k : IntKind} (hu : P.underlying t = some (.int k)) : Rd P t (Kd.int k) (WfInt k) := by
  intro H enc w base sp held fuel cs x h
  cases fuel with
  | zero => simp [DataW.trod] at h
  | succ n =>
    match cs with
    | [.int k' m] =>
      simp only [DataW.trod, hu] at h
      split at h
      · rename_i hk
        obtain ⟨rfl, hw⟩ := hk
        exact ⟨m, rfl, hw⟩
      · cases h
    | [] => simp [DataW.trod, hu] at h
    | [.bool _] => simp [DataW.trod, hu] at h
    | [.float _ _] => simp [DataW.trod, hu] at h
    | [.complex _ _ _] => simp [DataW.trod, hu] at h
    | [.string _] => simp [DataW.trod, hu] at h
    | [.pointer _] => simp [DataW.trod, hu] at h
    | [.slice _ _ _] => simp [DataW.trod, hu] at h
    | [.map _] => simp [DataW.trod, hu] at h
    | [.chan _] => simp [DataW.trod, hu] at h
    | [.func _ _ _] => simp [DataW.trod, hu] at h
    | [.nilFunc] => simp [DataW.trod, hu] at h
    | [.iface _ _] => simp [DataW.trod, hu] at h
    | [.nilIface] => simp [DataW.trod, hu] at h
    | [.agg _] => simp [DataW.trod, hu] at h
    | [.tuple _] => simp [DataW.trod, hu] at h
    | _ :: _ :: _ => simp [DataW.trod, hu] at h
theorem rd_slice {P : Program} {t e : TypeId} {α : Type} {d : Kd α} {wf : α → Prop} (hu : P.underlying t = some (.slice e)) (hc : P.cellsOf e = d.sz) (hd : Rd P e d wf) : Rd P t (Kd.slice e d) (WfRow wf) := by
  intro H enc w base sp held fuel cs x h
  rcases Go.Deep.open_slice hu h with ⟨rfl, _⟩ | ⟨a, len, cap, m, n, D, Pl, rfl, hb, hl, hm, hmm, _, hx⟩
  · exact ⟨[], ⟨none, 0, rfl, Nat.le_refl _, rfl, by simp, fun h => absurd h (by simp)⟩, by simp [maxLen], by simp⟩
  · have hlm : len ≤ m := by rw [hmm]; split <;> omega
    have hall : ∀ i, i < len → ∃ cs', w.cells? base (a.add (i * P.cellsOf e)) (P.cellsOf e) = some cs' ∧ DataW.trod enc P w base sp held n e cs' = some (D i, Pl i) := fun i hi => hx i (by omega)
    have key : ∀ (k : Nat), k ≤ len → ∃ l : List α, l.length = k ∧ (∀ x ∈ l, wf x) ∧ ∀ j p, l[j]? = some p → ∃ c, c.length = d.sz ∧ d.K w p c ∧ ∀ i u, c[i]? = some u → w.cell? (a.add (j * d.sz + i)) = some u := by
      intro k
      induction k with
      | zero => intro _; exact ⟨[], rfl, by simp, by simp⟩
      | succ k ih =>
        intro hk
        obtain ⟨l, hl1, hl2, hl3⟩ := ih (by omega)
        obtain ⟨cs', h1, h2⟩ := hall k (by omega)
        obtain ⟨b, hb1, hb2⟩ := hd H enc w base sp held n cs' _ h2
        refine ⟨l ++ [b], by simp [hl1], ?_, ?_⟩
        · intro z hz
          rcases List.mem_append.1 hz with hz | hz
          · exact hl2 z hz
          · rw [List.mem_singleton.1 hz]; exact hb2
        · intro j p hj
          by_cases hjl : j < l.length
          · rw [List.getElem?_append_left hjl] at hj
            exact hl3 j p hj
          · rw [List.getElem?_append_right (by omega)] at hj
            have hj0 : j - l.length = 0 := by
              cases hz : j - l.length with
              | zero => rfl
              | succ q => rw [hz] at hj; simp at hj
            rw [hj0] at hj
            obtain rfl : b = p := by simpa using hj
            have hjk : j = k := by omega
            subst hjk
            refine ⟨cs', d.K_len hb1, hb1, fun i u hu' => ?_⟩
            obtain ⟨_, hlen', hcell⟩ := World.cells?_some h1
            have hi : i < cs'.length := by
              rcases Nat.lt_or_ge i cs'.length with h | h
              · exact h
              · rw [List.getElem?_eq_none h] at hu'; cases hu'
            have z := hcell i (by omega)
            rw [hu', Go.Deep.add_add, hc] at z
            exact z
    obtain ⟨l, hl1, hl2, hl3⟩ := key len (Nat.le_refl _)
    refine ⟨l, ⟨some a, cap, by rw [hl1], by omega, ?_⟩, by rw [hl1]; exact Nat.le_trans hl hm, hl2⟩
    exact ⟨rfl, by rw [hl1]; have : cap ≤ 2 ^ 63 - 1 := hm; omega, fun _ => ⟨a, rfl, hl3⟩⟩
end Go.Proofs.Ytefmkmhjbfpelaa.Rd
namespace Go.Proofs.Ytefmkmhjbfpelaa.QM
open Go.Proofs.Ytefmkmhjbfpelaa Go.Proofs.YtefmkmhjbfpelaaW.PrintWords
def laws_FnMoves.Pure : Prop := ∀ (l0 : List Int), (Rd.WfRow (Rd.WfInt .u8)) l0 → ∃ k, laws_FnMoves.f k l0 = some true
end Go.Proofs.Ytefmkmhjbfpelaa.QM
namespace Go.Proofs.Ytefmkmhjbfpelaa.Ev0
open Go.RowKit Go.Proofs.YtefmkmhjbfpelaaW.PrintWords
def Evt {α : Type} (f : Nat → Option α) (r : α) : Prop := ∃ K, ∀ k, K ≤ k → f k = some r
namespace Evt
variable {α β : Type}
theorem const {o : Option α} {r : α} (h : o = some r) : Evt (fun _ => o) r := ⟨0, fun _ _ => h⟩
theorem pure (r : α) : Evt (fun _ => some r) r := ⟨0, fun _ _ => rfl⟩
theorem bind {f : Nat → Option α} {g : Nat → α → Option β} {a : α} {r : β} (h : Evt f a) (h2 : Evt (fun k => g k a) r) : Evt (fun k => (f k).bind (g k)) r := by
  obtain ⟨K, hK⟩ := h
  obtain ⟨L, hL⟩ := h2
  refine ⟨K + L, fun k hk => ?_⟩
  show (f k).bind (g k) = some r
  rw [hK k (by omega)]
  exact hL k (by omega)
theorem succ {f : Nat → Option α} {r : α} (h : Evt (fun k => f (k + 1)) r) : Evt f r := by
  obtain ⟨K, hK⟩ := h
  refine ⟨K + 1, fun k hk => ?_⟩
  obtain ⟨m, rfl⟩ : ∃ m, k = m + 1 := ⟨k - 1, by omega⟩
  exact hK m (by omega)
theorem pos {c : Prop} [Decidable c] {f g : Nat → Option α} {r : α} (hc : c) (h : Evt f r) : Evt (fun k => if c then f k else g k) r := by
  simpa only [if_pos hc] using h
theorem neg {c : Prop} [Decidable c] {f g : Nat → Option α} {r : α} (hc : ¬ c) (h : Evt g r) : Evt (fun k => if c then f k else g k) r := by
  simpa only [if_neg hc] using h
theorem ite {c : Prop} [Decidable c] {f g : Nat → Option α} {r : α} (h1 : c → Evt f r) (h2 : ¬ c → Evt g r) : Evt (fun k => if c then f k else g k) r := by
  by_cases hc : c
  · exact pos hc (h1 hc)
  · exact neg hc (h2 hc)
theorem ex {f : Nat → Option α} {r : α} (h : Evt f r) : ∃ k, f k = some r := by
  obtain ⟨K, hK⟩ := h
  exact ⟨K, hK K (Nat.le_refl _)⟩
theorem same {f : Nat → Option α} {r r' : α} (h : Evt f r) (e : r = r') : Evt f r' := e ▸ h
end Evt
theorem w64 {x : Int} (h0 : -9223372036854775808 ≤ x) (h1 : x ≤ 9223372036854775807) : wrap64 x = x := by
  unfold wrap64
  omega
noncomputable def B (p : Prop) : Bool := @decide p (Classical.propDecidable p)
theorem B_true {p : Prop} (h : p) : B p = true := by unfold B; exact @decide_eq_true p (Classical.propDecidable p) h
theorem B_false {p : Prop} (h : ¬ p) : B p = false := by unfold B; exact @decide_eq_false p (Classical.propDecidable p) h
theorem B_iff {p : Prop} : B p = true ↔ p := by unfold B; exact @decide_eq_true_iff p (Classical.propDecidable p)
theorem B_iff_false {p : Prop} : B p = false ↔ ¬ p := by unfold B; exact @decide_eq_false_iff_not p (Classical.propDecidable p)
theorem B_congr {p q : Prop} (h : p ↔ q) : B p = B q := by rw [propext h]
theorem decide_B (p : Prop) [Decidable p] : decide p = B p := by
  by_cases h : p
  · rw [decide_eq_true h, B_true h]
  · rw [decide_eq_false h, B_false h]
theorem bool_B {b : Bool} {p : Prop} (h : b = true ↔ p) : b = B p := by
  cases b with
  | true => exact (B_true (h.1 rfl)).symm
  | false => exact (B_false (fun hp => by simpa using h.2 hp)).symm
theorem and_ {c p q : Prop} [Decidable c] {f : Nat → Option Bool} (hc : c ↔ p) (h : p → Evt f (B q)) : Evt (fun k => if c then f k else some false) (B (p ∧ q)) := by
  by_cases e : c
  · exact Evt.pos e ((h (hc.1 e)).same (B_congr ⟨fun x => ⟨hc.1 e, x⟩, fun x => x.2⟩))
  · exact Evt.neg e ((Evt.pure false).same (B_false (fun x => e (hc.2 x.1))).symm)
theorem last_ {p q : Prop} [Decidable p] (h : p ↔ q) : Evt (fun _ => some (decide p)) (B q) := (Evt.pure _).same ((decide_B p).trans (B_congr h))
theorem lastB_ {p q : Prop} (h : p ↔ q) : Evt (fun _ => some (B p)) (B q) := (Evt.pure _).same (B_congr h)
end Go.Proofs.Ytefmkmhjbfpelaa.Ev0
namespace Go.Proofs.Ytefmkmhjbfpelaa.Ev0
open Go.RowKit Go.Proofs.YtefmkmhjbfpelaaW.PrintWords
theorem up_loop {σ ρ : Type} (n : Int) (F : Nat → σ → Int → Option ρ) (st : Int → σ) (r : Int → ρ)
    (step : ∀ i, 0 ≤ i → i < n → Evt (fun k => F k (st (i + 1)) (i + 1)) (r (i + 1)) → Evt (fun k => F (k + 1) (st i) i) (r i))
    (stop : Evt (fun k => F (k + 1) (st n) n) (r n)) (i : Int) (h0 : 0 ≤ i) (hn : i ≤ n) : Evt (fun k => F k (st i) i) (r i) := by
  have key : ∀ (d : Nat) (i : Int), 0 ≤ i → i ≤ n → n - i ≤ d → Evt (fun k => F k (st i) i) (r i) := by
    intro d
    induction d with
    | zero =>
      intro i h0 h1 hd
      obtain rfl : i = n := by omega
      exact stop.succ
    | succ d ih =>
      intro i h0 h1 hd
      by_cases hlt : i < n
      · exact (step i h0 hlt (ih (i + 1) (by omega) (by omega) (by omega))).succ
      · obtain rfl : i = n := by omega
        exact stop.succ
  exact key (n - i).toNat i h0 hn (by omega)
theorem getD_at {α : Type} (l : List α) (z : α) (i : Nat) (h : i < l.length) : l.getD i z = l[i] := by
  rw [List.getD_eq_getElem?_getD, List.getElem?_eq_getElem h]
  rfl
theorem all_loop (n : Int) (h0 : 0 ≤ n) (F : Nat → Int → Option Bool) (step : ∀ i, 0 ≤ i → i < n → Evt (fun k => F k (i + 1)) true → Evt (fun k => F (k + 1) i) true)
    (stop : Evt (fun k => F (k + 1) n) true) : Evt (fun k => F k 0) true :=
  up_loop n (fun k (_ : Unit) i => F k i) (fun _ => ()) (fun _ => true) step stop 0 (Int.le_refl _) h0
theorem right_loop (n : Int) (hn : 0 ≤ n) (ok : Int → Prop) (q : Prop) (F : Nat → Int → Option Bool)
    (step : ∀ i, 0 ≤ i → i < n → (ok i → ∀ r, Evt (fun k => F k (i + 1)) r → Evt (fun k => F (k + 1) i) r) ∧ (¬ ok i → Evt (fun k => F (k + 1) i) false))
    (stop : Evt (fun k => F (k + 1) n) (B q)) : Evt (fun k => F k 0) (B ((∀ i, 0 ≤ i → i < n → ok i) ∧ q)) := by
  have h := up_loop n (fun k (_ : Unit) i => F k i) (fun _ => ()) (fun i => B ((∀ j, i ≤ j → j < n → ok j) ∧ q)) ?_ ?_ 0 (Int.le_refl _) hn
  · exact h
  · intro i h0 hlt ih
    by_cases hk : ok i
    · refine ((step i h0 hlt).1 hk _ ih).same (B_congr ⟨fun h => ⟨fun j h1 h2 => ?_, h.2⟩, fun h => ⟨fun j h1 h2 => h.1 j (by omega) h2, h.2⟩⟩)
      by_cases e : j = i
      · rw [e]; exact hk
      · exact h.1 j (by omega) h2
    · exact ((step i h0 hlt).2 hk).same (B_false (fun h => hk (h.1 i (Int.le_refl _) hlt))).symm
  · exact stop.same (B_congr ⟨fun h => ⟨fun j h1 h2 => absurd h2 (by omega), h⟩, fun h => h.2⟩)
theorem find_loop (n : Int) (hn : 0 ≤ n) (p : Int → Prop) (F : Nat → Int → Option Int)
    (step : ∀ i, 0 ≤ i → i < n → (p i → Evt (fun k => F (k + 1) i) i) ∧ (¬ p i → ∀ r, Evt (fun k => F k (i + 1)) r → Evt (fun k => F (k + 1) i) r))
    (stop : Evt (fun k => F (k + 1) n) (-1)) :
    ∃ r, Evt (fun k => F k 0) r ∧ ((r = -1 ∧ ∀ j, 0 ≤ j → j < n → ¬ p j) ∨ (0 ≤ r ∧ r < n ∧ p r ∧ ∀ j, 0 ≤ j → j < r → ¬ p j)) := by
  have key : ∀ (d : Nat) (i : Int), 0 ≤ i → i ≤ n → n - i ≤ d → ∃ r, Evt (fun k => F k i) r ∧ ((r = -1 ∧ ∀ j, i ≤ j → j < n → ¬ p j) ∨ (i ≤ r ∧ r < n ∧ p r ∧ ∀ j, i ≤ j → j < r → ¬ p j)) := by
    intro d
    induction d with
    | zero =>
      intro i h0 h1 hd
      obtain rfl : i = n := by omega
      exact ⟨-1, stop.succ, .inl ⟨rfl, fun j h1 h2 => absurd h2 (by omega)⟩⟩
    | succ d ih =>
      intro i h0 h1 hd
      by_cases hlt : i < n
      · by_cases hp : p i
        · exact ⟨i, ((step i h0 hlt).1 hp).succ, .inr ⟨Int.le_refl _, hlt, hp, fun j h1 h2 => absurd h2 (by omega)⟩⟩
        · obtain ⟨r, hr, h⟩ := ih (i + 1) (by omega) (by omega) (by omega)
          refine ⟨r, ((step i h0 hlt).2 hp r hr).succ, ?_⟩
          rcases h with ⟨h1, h2⟩ | ⟨h1, h2, h3, h4⟩
          · refine .inl ⟨h1, fun j g1 g2 => ?_⟩
            by_cases e : j = i
            · rw [e]; exact hp
            · exact h2 j (by omega) g2
          · refine .inr ⟨by omega, h2, h3, fun j g1 g2 => ?_⟩
            by_cases e : j = i
            · rw [e]; exact hp
            · exact h4 j (by omega) g2
      · obtain rfl : i = n := by omega
        exact ⟨-1, stop.succ, .inl ⟨rfl, fun j h1 h2 => absurd h2 (by omega)⟩⟩
  exact key n.toNat 0 (Int.le_refl _) hn (by omega)
end Go.Proofs.Ytefmkmhjbfpelaa.Ev0
