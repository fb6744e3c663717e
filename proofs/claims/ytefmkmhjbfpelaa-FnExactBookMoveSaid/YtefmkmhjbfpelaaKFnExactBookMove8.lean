-- Merged by a program of this session (wip/tool/pack.py) out of its own texts for this claim.
import Derived.Test.YtefmkmhjbfpelaaKFnExactBookMove0
import Derived.Test.YtefmkmhjbfpelaaKFnExactBookMove1
import Derived.Test.YtefmkmhjbfpelaaKFnExactBookMove2
import Derived.Test.YtefmkmhjbfpelaaKFnExactBookMove3
import Derived.Test.YtefmkmhjbfpelaaKFnExactBookMove4
import Derived.Test.YtefmkmhjbfpelaaKFnExactBookMove5
import Derived.Test.YtefmkmhjbfpelaaKFnExactBookMove7
namespace Go.Proofs.Ytefmkmhjbfpelaa.QM
open Go.RowKit Go.Proofs.YtefmkmhjbfpelaaW.PrintWords Go.Proofs.YtefmkmhjbfpelaaW.PrintLast Go.Proofs.YtefmkmhjbfpelaaW.PrintMore
attribute [local go_sem] max2_int min2_int max_two min_two max_three min_three max_four min_four   -- for this text's walks alone
set_option linter.unusedVariables false
set_option linter.unusedSimpArgs false
def spec_l10Move.T16 : Bool × List (List Nat × List Nat) := (true, [([], []), ([0], [0]), ([], []), ([2], [2]), ([], []), ([3, 4], [3, 4]), ([5], [5]), ([6], [6]), ([1, 7], [1, 7]), ([0, 1, 2, 3, 4, 5, 6, 7, 8], []), ([9, 8, 8, 0, 1, 2, 3, 4, 5, 6, 7, 8], [8, 9])])
def spec_l10Move.B16 : List Nat := [0, 1, 0, 4, 0, 28, 60, 124, 255, 511, 1023]
theorem spec_l10Move.tab16 : rtab .any (opsOf Try.f122 16) = spec_l10Move.T16 := by kernel_rfl
theorem spec_l10Move.bits16 : waitsOk spec_l10Move.T16.2 spec_l10Move.B16 = true := by kernel_rfl
set_option maxHeartbeats 8000000 in
set_option maxRecDepth 100000 in
theorem spec_l10Move.calls (k : Nat) (A0_0 : Option Addr) (c0_0 : Nat) (l0_0 : List (S117)) (A0_1 : Option Addr) (c0_1 : Nat) (l0_1 : List (S54)) (a1 : ByteArray) (a2 : Int) (r1 : List (S117)) (r2 : List (S54)) (r3 : Bool) (w : World) (hr0_0 : Kd.C k117 w A0_0 l0_0.length l0_0) (hc0_0 : l0_0.length ≤ c0_0) (hr0_1 : Kd.C k54 w A0_1 l0_1.length l0_1) (hc0_1 : l0_1.length ≤ c0_1) (h : spec_l10Move.f k l0_0 l0_1 a1 a2 = some (r1, r2, r3)) :
    Calls Try.prog 122 #[.agg #[.slice A0_0 l0_0.length c0_0, .slice A0_1 l0_1.length c0_1], .string a1, .int .i64 a2] w fun e w' => ∃ v0_ v1_ : Value, e = .returned (.tuple #[.agg #[v0_, v1_], .bool r3]) ∧ Kd.R k117 117 w' w.heap.size (fun _ => True) v0_ r1 ∧ Kd.R k54 54 w' w.heap.size (fun _ => True) v1_ r2 ∧ Below w.heap.size w w' := by
  have hu47 := Try.underlying47; have hu117 := Try.underlying117; have HR0_0 := Aside0.mk hr0_0; have HC0_0 := Aside0.mk hc0_0; clear hr0_0 hc0_0; have HR0_1 := Aside0.mk hr0_1; have HC0_1 := Aside0.mk hc0_1; clear hr0_1 hc0_1; have HB := Aside0.mk (Below.refl w.heap.size w); have H : ((spec_l10Copy.f l0_0 l0_1).bind fun bt186 => ((spec_BookRight.f k l0_0 l0_1).bind fun t193 => (if t193 = true then ((spec_l01Name.f k a1).bind fun t194 => (if t194 = true then (if a2 < (-1000000000) then (spec_l10Move.j0 k a1 a2 true l0_0 l0_1 bt186.1 bt186.2) else (spec_l10Move.j0 k a1 a2 (decide (a2 > 1000000000)) l0_0 l0_1 bt186.1 bt186.2)) else (spec_l10Move.j0 k a1 a2 true l0_0 l0_1 bt186.1 bt186.2))) else (spec_l10Move.j0 k a1 a2 true l0_0 l0_1 bt186.1 bt186.2)))) = some (r1, r2, r3) := h; clear h; replace H := Option.bind_eq_some_iff.mp H; obtain ⟨⟨t186, t189⟩, A40, H⟩ := H; replace H : ((spec_BookRight.f k l0_0 l0_1).bind fun t193 => (if t193 = true then ((spec_l01Name.f k a1).bind fun t194 => (if t194 = true then (if a2 < (-1000000000) then (spec_l10Move.j0 k a1 a2 true l0_0 l0_1 t186 t189) else (spec_l10Move.j0 k a1 a2 (decide (a2 > 1000000000)) l0_0 l0_1 t186 t189)) else (spec_l10Move.j0 k a1 a2 true l0_0 l0_1 t186 t189))) else (spec_l10Move.j0 k a1 a2 true l0_0 l0_1 t186 t189))) = some (r1, r2, r3) := H; have A4 := Aside0.mk A40; clear A40
  go_enter Try.func122, Try.ntmps122
  try go_wp2_with (first | ((with_reducible refine gate_dst (N := 3) rfl ?_); (try (refine gate_guard (by rfl) ?_; dsimp only)); refine bx 3 (cs := #[.slice A0_0 l0_0.length c0_0, .slice A0_1 l0_1.length c0_1]) (t := 47) ?_; intro gb184 hg w5 hbox hb; have BK184 := Aside0.mk (hbox); have GW184 := Aside0.mk ((gs hg (bs HB))); have GE184 := Aside0.mk ((gs hg (bs HB))); replace HB := Aside0.mk (below_step (bs HB) hb); clear hb hbox hg) | ((with_reducible refine gate_dst (N := 6) rfl ?_); (try (refine gate_guard (by rfl) ?_; dsimp only)); refine bx 6 (cs := #[.slice none 0 0, .slice none 0 0]) (t := 47) ?_; intro gb185 hg w6 hbox hb; have BK185 := Aside0.mk (hbox); have GW185 := Aside0.mk ((gs hg (bs HB))); have GE185 := Aside0.mk ((gs hg (bs HB))); replace HB := Aside0.mk (below_step (bs HB) hb); have NB184_185 := Aside0.mk ((gn hg (ks BK184))); have NB185_184 := Aside0.mk ((gm hg (ks BK184))); replace BK184 := Aside0.mk (blk_below (ks BK184) hb); clear hb hbox hg; have hnb7 := NB184_185.out; have hnc7 := NB185_184.out; obtain ⟨hcz8_0, hcz8_1, hfz8_0, hfz8_1⟩ := cf2 BK184))
  go_at_call 157; (with_reducible refine (spec_l10Copy.calls _ _ l0_0 _ _ l0_1 t186 t189 _ (Kd.C_below HR0_0.out (bs HB)) HC0_0.out (Kd.C_below HR0_1.out (bs HB)) HC0_1.out A4.out).mono ?_); rintro e w9 ⟨v187, v190, rfl, ho0, ho1, hb⟩; have HO188 := Aside0.mk (Kd.R_lower ho0 (below_size (bs HB))); have HO191 := Aside0.mk (Kd.R_lower ho1 (below_size (bs HB))); replace BK184 := Aside0.mk (blk_below (ks BK184) hb); replace BK185 := Aside0.mk (blk_below (ks BK185) hb); replace HB := Aside0.mk (below_step (bs HB) hb); (try clear hb); (try clear hb2); (try clear hk); (try clear hi); (try clear ho0); (try clear ho1); have HC10 := Aside0.mk H; clear H
  go_upto_region 2 with (first | ((with_reducible refine gate_dst (N := 8) rfl ?_); (try (refine gate_guard (by rfl) ?_; dsimp only)); refine bx 8 (cs := #[.slice none 0 0, .slice none 0 0]) (t := 47) ?_; intro gb192 hg w11 hbox hb; replace HO188 := Aside0.mk (Kd.R_below (rs HO188) hb); replace HO191 := Aside0.mk (Kd.R_below (rs HO191) hb); have BK192 := Aside0.mk (hbox); have GW192 := Aside0.mk ((gs hg (bs HB))); have GE192 := Aside0.mk ((gs hg (bs HB))); replace HB := Aside0.mk (below_step (bs HB) hb); have NB184_192 := Aside0.mk ((gn hg (ks BK184))); have NB192_184 := Aside0.mk ((gm hg (ks BK184))); replace BK184 := Aside0.mk (blk_below (ks BK184) hb); have NB185_192 := Aside0.mk ((gn hg (ks BK185))); have NB192_185 := Aside0.mk ((gm hg (ks BK185))); replace BK185 := Aside0.mk (blk_below (ks BK185) hb); clear hb hbox hg; obtain ⟨Ao12, co12, eo12⟩ := Kd.R_slice HO188.out; subst eo12; have hnb13 := NB192_184.out; have hnc13 := NB184_192.out; have hnb14 := NB192_185.out; have hnc14 := NB185_192.out; obtain ⟨hcz15_0, hcz15_1, hfz15_0, hfz15_1⟩ := cf2 BK192; obtain ⟨Ao16, co16, eo16⟩ := Kd.R_slice HO191.out; subst eo16))
  (try simp only [Act.put, List.setIfInBounds_toArray, List.set_cons_zero, List.set_cons_succ])
  go_cut [30] (fun v30 wc => ∃ (kq : Nat) (x30_9 : Bool), v30 = .bool x30_9 ∧ Aside0 (spec_l10Move.j0 kq a1 a2 x30_9 l0_0 l0_1 t186 t189 = some (r1, r2, r3)) ∧ Aside0 (kq ≤ k) ∧ Aside0 (Kd.R k117 117 wc w.heap.size (fun _ => True) (.slice Ao12 t186.length co12) t186) ∧ Aside0 (Kd.R k54 54 wc w.heap.size (fun _ => True) (.slice Ao16 t189.length co16) t189) ∧ Aside0 (wc.heap[gb184]? = some (.cells #[(.slice A0_0 l0_0.length c0_0), (.slice A0_1 l0_1.length c0_1)] 47 (0, 0))) ∧ Aside0 (wc.heap[gb185]? = some (.cells #[(.slice none 0 0), (.slice none 0 0)] 47 (0, 0))) ∧ Aside0 (wc.heap[gb192]? = some (.cells #[(.slice Ao12 t186.length co12), (.slice Ao16 t189.length co16)] 47 (0, 0))) ∧ Aside0 (Below w.heap.size w wc))
  case first =>
    have H := HC10.out; clear HC10; replace H := Option.bind_eq_some_iff.mp H; obtain ⟨t193, A170, H⟩ := H; replace H : (if t193 = true then ((spec_l01Name.f k a1).bind fun t194 => (if t194 = true then (if a2 < (-1000000000) then (spec_l10Move.j0 k a1 a2 true l0_0 l0_1 t186 t189) else (spec_l10Move.j0 k a1 a2 (decide (a2 > 1000000000)) l0_0 l0_1 t186 t189)) else (spec_l10Move.j0 k a1 a2 true l0_0 l0_1 t186 t189))) else (spec_l10Move.j0 k a1 a2 true l0_0 l0_1 t186 t189)) = some (r1, r2, r3) := H; have A17 := Aside0.mk A170; clear A170; have hnb18 := NB184_185.out; have hnc18 := NB185_184.out; have hnb19 := NB184_192.out; have hnc19 := NB192_184.out; obtain ⟨hcz20_0, hcz20_1, hfz20_0, hfz20_1⟩ := cf2 BK184
    try go_wp2_with (fail)
    go_at_call 60; (with_reducible refine (spec_BookRight.calls k _ _ l0_0 _ _ l0_1 t193 _ ?side1 HC0_0.out ?side3 HC0_1.out A17.out).mono ?_); (case side1 => exact Kd.C_below HR0_0.out (bs HB)); (case side3 => exact Kd.C_below HR0_1.out (bs HB)); rintro e w21 ⟨rfl, hb⟩; have n0_ := Aside0.mk (Kd.R_below (by (with_reducible repeat (first | apply Kd.R_alloc | apply Kd.R_drewN | apply Kd.R_drew)); exact (Kd.R_mono (rf (Kd.R_types HO188.out BK192.out (by decide))) (fun _ h_ => h_.1))) hb); have n1_ := Aside0.mk (Kd.R_below (by (with_reducible repeat (first | apply Kd.R_alloc | apply Kd.R_drewN | apply Kd.R_drew)); exact (Kd.R_mono (rf (Kd.R_types HO191.out BK192.out (by decide))) (fun _ h_ => h_.1))) hb); have n2_ := Aside0.mk (blk_below (ks BK184) hb); have n3_ := Aside0.mk (blk_below (ks BK185) hb); have n4_ := Aside0.mk (blk_below (g := gb192) (o := .cells #[.slice Ao12 t186.length co12, .slice Ao16 t189.length co16] 47 (0, 0)) (kp BK192) hb); have n5_ := Aside0.mk (below_step (bs HB) hb); clear HO188; clear HO191; clear BK184; clear BK185; clear BK192; clear HB; have HO188 := n0_; have HO191 := n1_; have BK184 := n2_; have BK185 := n3_; have BK192 := n4_; have HB := n5_; clear n0_ n1_ n2_ n3_ n4_ n5_; (try clear hb); (try clear hb2); (try clear hk); (try clear hi)
    by_cases c22 : t193 = true
    · subst c22
      have H1 : ((spec_l01Name.f k a1).bind fun t194 => (if t194 = true then (if a2 < (-1000000000) then (spec_l10Move.j0 k a1 a2 true l0_0 l0_1 t186 t189) else (spec_l10Move.j0 k a1 a2 (decide (a2 > 1000000000)) l0_0 l0_1 t186 t189)) else (spec_l10Move.j0 k a1 a2 true l0_0 l0_1 t186 t189))) = some (r1, r2, r3) := by rw [if_pos rfl] at H; exact H
      clear H; have H := H1; clear H1; replace H := Option.bind_eq_some_iff.mp H; obtain ⟨t194, A230, H⟩ := H; replace H : (if t194 = true then (if a2 < (-1000000000) then (spec_l10Move.j0 k a1 a2 true l0_0 l0_1 t186 t189) else (spec_l10Move.j0 k a1 a2 (decide (a2 > 1000000000)) l0_0 l0_1 t186 t189)) else (spec_l10Move.j0 k a1 a2 true l0_0 l0_1 t186 t189)) = some (r1, r2, r3) := H; have A23 := Aside0.mk A230; clear A230
      try go_wp2_with (fail)
      go_at_call 118; (with_reducible refine (spec_l01Name.calls k a1 t194 _ A23.out).mono ?_); rintro e w' ⟨rfl, ⟨nd, rfl⟩⟩
      by_cases c24 : t194 = true
      · subst c24
        have H1 : (if a2 < (-1000000000) then (spec_l10Move.j0 k a1 a2 true l0_0 l0_1 t186 t189) else (spec_l10Move.j0 k a1 a2 (decide (a2 > 1000000000)) l0_0 l0_1 t186 t189)) = some (r1, r2, r3) := by rw [if_pos rfl] at H; exact H
        clear H; have H := H1; clear H1
        by_cases c25 : a2 < (-1000000000)
        · rw [if_pos c25] at H; have c25b0 : decide (a2 < (-1000000000)) = true := decide_eq_true c25; clear c25
          (first | rw [c25b0] | (simp only [i64_w, i32_w]; rw [c25b0]) | skip)
          have H' := Aside0.mk H; clear H
          go_wp2
          go_meet
          case rel => exact ⟨_, (true), fg, H', ⟨fl⟩, ⟨by (with_reducible repeat (first | apply Kd.R_alloc | apply Kd.R_drewN | apply Kd.R_drew)); exact HO188.out⟩, ⟨by (with_reducible repeat (first | apply Kd.R_alloc | apply Kd.R_drewN | apply Kd.R_drew)); exact HO191.out⟩, ⟨ks BK184⟩, ⟨ks BK185⟩, ⟨ks BK192⟩, ⟨bs HB⟩⟩
        · rw [if_neg c25] at H; have c25b0 : decide (a2 < (-1000000000)) = false := decide_eq_false c25; clear c25
          (first | rw [c25b0] | (simp only [i64_w, i32_w]; rw [c25b0]) | skip)
          have H' := Aside0.mk H; clear H
          go_wp2
          go_meet
          case rel => exact ⟨_, (decide (a2 > 1000000000)), fg, H', ⟨fl⟩, ⟨by (with_reducible repeat (first | apply Kd.R_alloc | apply Kd.R_drewN | apply Kd.R_drew)); exact HO188.out⟩, ⟨by (with_reducible repeat (first | apply Kd.R_alloc | apply Kd.R_drewN | apply Kd.R_drew)); exact HO191.out⟩, ⟨ks BK184⟩, ⟨ks BK185⟩, ⟨ks BK192⟩, ⟨bs HB⟩⟩
      · replace c24 := Bool.eq_false_iff.mpr c24; subst c24
        have H1 : (spec_l10Move.j0 k a1 a2 true l0_0 l0_1 t186 t189) = some (r1, r2, r3) := by rw [if_neg (show ¬ (false = true) by decide)] at H; exact H
        clear H; have H := H1; clear H1; have H' := Aside0.mk H; clear H
        go_wp2
        go_meet
        case rel => exact ⟨_, (true), fg, H', ⟨fl⟩, ⟨by (with_reducible repeat (first | apply Kd.R_alloc | apply Kd.R_drewN | apply Kd.R_drew)); exact HO188.out⟩, ⟨by (with_reducible repeat (first | apply Kd.R_alloc | apply Kd.R_drewN | apply Kd.R_drew)); exact HO191.out⟩, ⟨ks BK184⟩, ⟨ks BK185⟩, ⟨ks BK192⟩, ⟨bs HB⟩⟩
    · replace c22 := Bool.eq_false_iff.mpr c22; subst c22
      have H1 : (spec_l10Move.j0 k a1 a2 true l0_0 l0_1 t186 t189) = some (r1, r2, r3) := by rw [if_neg (show ¬ (false = true) by decide)] at H; exact H
      clear H; have H := H1; clear H1; have H' := Aside0.mk H; clear H
      go_wp2
      go_meet
      case rel => exact ⟨_, (true), fg, H', ⟨fl⟩, ⟨by (with_reducible repeat (first | apply Kd.R_alloc | apply Kd.R_drewN | apply Kd.R_drew)); exact HO188.out⟩, ⟨by (with_reducible repeat (first | apply Kd.R_alloc | apply Kd.R_drewN | apply Kd.R_drew)); exact HO191.out⟩, ⟨ks BK184⟩, ⟨ks BK185⟩, ⟨ks BK192⟩, ⟨bs HB⟩⟩
  case rest =>
    clear HC10
    try clear c1
    try clear c2
    try clear p2
    try clear c7
    try clear c12
    try clear c13
    try clear c14
    try clear c18
    try clear c19
    try clear c22
    try clear c24
    try clear c25
    try clear c25b0
    try clear hcz15_0
    try clear hcz15_1
    try clear hcz20_0
    try clear hcz20_1
    try clear hcz8_0
    try clear hcz8_1
    try clear hfz15_0
    try clear hfz15_1
    try clear hfz20_0
    try clear hfz20_1
    try clear hfz8_0
    try clear hfz8_1
    obtain ⟨kq, x30_9, rfl, HA, HJ9, HO_193000, HO_193001, BK184, BK185, BK192, HB⟩ := hcut
    cases kq with
    | zero => exact absurd HA.out (by simp [spec_l10Move.j0])
    | succ kj9 =>
      have H := HA.out; clear HA; simp only [spec_l10Move.j0] at H
      by_cases c26 : x30_9 = true
      · subst c26
        have H1 : (some (t186, t189, false)) = some (r1, r2, r3) := by rw [if_pos rfl] at H; exact H
        clear H; have H := H1; clear H1; simp only [Option.some.injEq, Prod.mk.injEq] at H; obtain ⟨rfl, rfl, rfl⟩ := H; have hnb27 := NB192_184.out; have hnc27 := NB184_192.out; have hnb28 := NB192_185.out; have hnc28 := NB185_192.out; obtain ⟨hcz29_0, hcz29_1, hfz29_0, hfz29_1⟩ := cf2 BK192; have hnb30 := NB185_184.out; have hnc30 := NB184_185.out; obtain ⟨hcz31_0, hcz31_1, hfz31_0, hfz31_1⟩ := cf2 BK185
        go_wp2
        refine bodyPost_ret (results_ct rfl _ _ gb185 47 #[.slice Ao12 t186.length co12, .slice Ao16 t189.length co16] (0, 0) _ rfl (kp BK185) Try.underlying47 rfl (by kernel_rfl)) rfl ?_
        exact ⟨_, _, ff, Kd.R_mono (rf (Kd.R_types HO_193000.out BK185.out (by decide))) (fun _ hk => trivial), Kd.R_mono (rf (Kd.R_types HO_193001.out BK185.out (by decide))) (fun _ hk => trivial), bs HB⟩
      · replace c26 := Bool.eq_false_iff.mpr c26; subst c26
        have H1 : ((spec_BookHand.f kj9 l0_0 l0_1 a1).bind fun t196 => (if (wrap64 (t196 + a2)) < 0 then (spec_l10Move.j1 kj9 a1 (wrap64 (t196 + a2)) true l0_0 l0_1 t186 t189 t189) else (if (wrap64 (t196 + a2)) > 1000000000 then (spec_l10Move.j1 kj9 a1 (wrap64 (t196 + a2)) true l0_0 l0_1 t186 t189 t189) else ((spec_l10Stock.f kj9 l0_0 l0_1 a1).bind fun t197 => (if t197 < 0 then (spec_l10Move.j1 kj9 a1 (wrap64 (t196 + a2)) (decide ((l0_0.length : Int) ≥ 100)) l0_0 l0_1 t186 t189 t189) else (spec_l10Move.j1 kj9 a1 (wrap64 (t196 + a2)) false l0_0 l0_1 t186 t189 t189)))))) = some (r1, r2, r3) := by rw [if_neg (show ¬ (false = true) by decide)] at H; exact H
        clear H; have H := H1; clear H1; replace H := Option.bind_eq_some_iff.mp H; obtain ⟨t196, A320, H⟩ := H; replace H : (if (wrap64 (t196 + a2)) < 0 then (spec_l10Move.j1 kj9 a1 (wrap64 (t196 + a2)) true l0_0 l0_1 t186 t189 t189) else (if (wrap64 (t196 + a2)) > 1000000000 then (spec_l10Move.j1 kj9 a1 (wrap64 (t196 + a2)) true l0_0 l0_1 t186 t189 t189) else ((spec_l10Stock.f kj9 l0_0 l0_1 a1).bind fun t197 => (if t197 < 0 then (spec_l10Move.j1 kj9 a1 (wrap64 (t196 + a2)) (decide ((l0_0.length : Int) ≥ 100)) l0_0 l0_1 t186 t189 t189) else (spec_l10Move.j1 kj9 a1 (wrap64 (t196 + a2)) false l0_0 l0_1 t186 t189 t189))))) = some (r1, r2, r3) := H; have A32 := Aside0.mk A320; clear A320; have hnb33 := NB192_184.out; have hnc33 := NB184_192.out; have hnb34 := NB192_185.out; have hnc34 := NB185_192.out; obtain ⟨hcz35_0, hcz35_1, hfz35_0, hfz35_1⟩ := cf2 BK192
        try go_wp2_with (first | ((with_reducible refine gate_dst (N := 9) rfl ?_); (try (refine gate_guard (by rfl) ?_; dsimp only)); refine bx 9 (cs := #[.slice none 0 0, .slice none 0 0]) (t := 47) ?_; intro gb195 hg w36 hbox hb; replace HO_193000 := Aside0.mk (Kd.R_below (rs HO_193000) hb); replace HO_193001 := Aside0.mk (Kd.R_below (rs HO_193001) hb); have BK195 := Aside0.mk (hbox); have GW195 := Aside0.mk ((gs hg (bs HB))); have GE195 := Aside0.mk ((gs hg (bs HB))); replace HB := Aside0.mk (below_step (bs HB) hb); have NB184_195 := Aside0.mk ((gn hg (ks BK184))); have NB195_184 := Aside0.mk ((gm hg (ks BK184))); replace BK184 := Aside0.mk (blk_below (ks BK184) hb); have NB185_195 := Aside0.mk ((gn hg (ks BK185))); have NB195_185 := Aside0.mk ((gm hg (ks BK185))); replace BK185 := Aside0.mk (blk_below (ks BK185) hb); have NB192_195 := Aside0.mk ((gn hg (ks BK192))); have NB195_192 := Aside0.mk ((gm hg (ks BK192))); replace BK192 := Aside0.mk (blk_below (ks BK192) hb); clear hb hbox hg; have hnb37 := NB195_184.out; have hnc37 := NB184_195.out; have hnb38 := NB195_185.out; have hnc38 := NB185_195.out; have hnb39 := NB195_192.out; have hnc39 := NB192_195.out; obtain ⟨hcz40_0, hcz40_1, hfz40_0, hfz40_1⟩ := cf2 BK195; have hnb41 := NB184_185.out; have hnc41 := NB185_184.out; obtain ⟨hcz42_0, hcz42_1, hfz42_0, hfz42_1⟩ := cf2 BK184))
        go_at_call 29; (with_reducible refine (spec_BookHand.calls kj9 _ _ l0_0 _ _ l0_1 a1 t196 _ ?side1 HC0_0.out ?side3 HC0_1.out A32.out).mono ?_); (case side1 => exact Kd.C_below HR0_0.out (bs HB)); (case side3 => exact Kd.C_below HR0_1.out (bs HB)); rintro e w43 ⟨rfl, hb⟩; have n0_ := Aside0.mk (Kd.R_below (by (with_reducible repeat (first | apply Kd.R_alloc | apply Kd.R_drewN | apply Kd.R_drew)); exact (Kd.R_mono (rf (Kd.R_types HO_193000.out BK195.out (by decide))) (fun _ h_ => h_.1))) hb); have n1_ := Aside0.mk (Kd.R_below (by (with_reducible repeat (first | apply Kd.R_alloc | apply Kd.R_drewN | apply Kd.R_drew)); exact (Kd.R_mono (rf (Kd.R_types HO_193001.out BK195.out (by decide))) (fun _ h_ => h_.1))) hb); have n2_ := Aside0.mk (blk_below (ks BK184) hb); have n3_ := Aside0.mk (blk_below (ks BK185) hb); have n4_ := Aside0.mk (blk_below (ks BK192) hb); have n5_ := Aside0.mk (blk_below (g := gb195) (o := .cells #[.slice none 0 0, .slice Ao16 t189.length co16] 47 (0, 0)) (kp BK195) hb); have n6_ := Aside0.mk (below_step (bs HB) hb); clear HO_193000; clear HO_193001; clear BK184; clear BK185; clear BK192; clear BK195; clear HB; have HO_193000 := n0_; have HO_193001 := n1_; have BK184 := n2_; have BK185 := n3_; have BK192 := n4_; have BK195 := n5_; have HB := n6_; clear n0_ n1_ n2_ n3_ n4_ n5_ n6_; (try clear hb); (try clear hb2); (try clear hk); (try clear hi); have HC44 := Aside0.mk H; clear H
        go_upto_region 6 with (fail)
        go_cut [57] (fun v57 wc => ∃ (kq : Nat) (x57_43 : Bool), v57 = .bool x57_43 ∧ Aside0 (spec_l10Move.j1 kq a1 (wrap64 (t196 + a2)) x57_43 l0_0 l0_1 t186 t189 t189 = some (r1, r2, r3)) ∧ Aside0 (kq ≤ kj9) ∧ Aside0 (Kd.R k117 117 wc w.heap.size (fun _ => True) (.slice Ao12 t186.length co12) t186) ∧ Aside0 (Kd.R k54 54 wc w.heap.size (fun _ => True) (.slice Ao16 t189.length co16) t189) ∧ Aside0 (Kd.R k54 54 wc w.heap.size (fun _ => True) (.slice Ao16 t189.length co16) t189) ∧ Aside0 (wc.heap[gb184]? = some (.cells #[(.slice A0_0 l0_0.length c0_0), (.slice A0_1 l0_1.length c0_1)] 47 (0, 0))) ∧ Aside0 (wc.heap[gb185]? = some (.cells #[(.slice none 0 0), (.slice none 0 0)] 47 (0, 0))) ∧ Aside0 (wc.heap[gb192]? = some (.cells #[(.slice Ao12 t186.length co12), (.slice Ao16 t189.length co16)] 47 (0, 0))) ∧ Aside0 (wc.heap[gb195]? = some (.cells #[(.slice none 0 0), (.slice Ao16 t189.length co16)] 47 (0, 0))) ∧ Aside0 (Below w.heap.size w wc))
        case first =>
          have H := HC44.out; clear HC44
          by_cases c45 : (wrap64 (t196 + a2)) < 0
          · rw [if_pos c45] at H; have c45b0 : decide ((wrap64 (t196 + a2)) < 0) = true := decide_eq_true c45; clear c45
            (first | rw [c45b0] | (simp only [i64_w, i32_w]; rw [c45b0]) | skip)
            have H' := Aside0.mk H; clear H
            go_wp2
            go_meet
            case rel => exact ⟨_, (true), fg, H', ⟨by have := HJ9.out; first | omega | exact Nat.le_refl _⟩, ⟨by (with_reducible repeat (first | apply Kd.R_alloc | apply Kd.R_drewN | apply Kd.R_drew)); exact HO_193000.out⟩, ⟨by (with_reducible repeat (first | apply Kd.R_alloc | apply Kd.R_drewN | apply Kd.R_drew)); exact HO_193001.out⟩, ⟨by (with_reducible repeat (first | apply Kd.R_alloc | apply Kd.R_drewN | apply Kd.R_drew)); exact HO_193001.out⟩, ⟨ks BK184⟩, ⟨ks BK185⟩, ⟨ks BK192⟩, ⟨ks BK195⟩, ⟨bs HB⟩⟩
          · rw [if_neg c45] at H; have c45b0 : decide ((wrap64 (t196 + a2)) < 0) = false := decide_eq_false c45; clear c45
            (first | rw [c45b0] | (simp only [i64_w, i32_w]; rw [c45b0]) | skip)
            by_cases c46 : (wrap64 (t196 + a2)) > 1000000000
            · rw [if_pos c46] at H; have c46b0 : decide (1000000000 < (wrap64 (t196 + a2))) = true := decide_eq_true c46; clear c46; have H' := Aside0.mk H; clear H
              go_wp2
              go_meet
              case rel => exact ⟨_, (true), fg, H', ⟨by have := HJ9.out; first | omega | exact Nat.le_refl _⟩, ⟨by (with_reducible repeat (first | apply Kd.R_alloc | apply Kd.R_drewN | apply Kd.R_drew)); exact HO_193000.out⟩, ⟨by (with_reducible repeat (first | apply Kd.R_alloc | apply Kd.R_drewN | apply Kd.R_drew)); exact HO_193001.out⟩, ⟨by (with_reducible repeat (first | apply Kd.R_alloc | apply Kd.R_drewN | apply Kd.R_drew)); exact HO_193001.out⟩, ⟨ks BK184⟩, ⟨ks BK185⟩, ⟨ks BK192⟩, ⟨ks BK195⟩, ⟨bs HB⟩⟩
            · rw [if_neg c46] at H; have c46b0 : decide (1000000000 < (wrap64 (t196 + a2))) = false := decide_eq_false c46; clear c46; replace H := Option.bind_eq_some_iff.mp H; obtain ⟨t197, A470, H⟩ := H; replace H : (if t197 < 0 then (spec_l10Move.j1 kj9 a1 (wrap64 (t196 + a2)) (decide ((l0_0.length : Int) ≥ 100)) l0_0 l0_1 t186 t189 t189) else (spec_l10Move.j1 kj9 a1 (wrap64 (t196 + a2)) false l0_0 l0_1 t186 t189 t189)) = some (r1, r2, r3) := H; have A47 := Aside0.mk A470; clear A470; have hnb48 := NB184_185.out; have hnc48 := NB185_184.out; have hnb49 := NB184_192.out; have hnc49 := NB192_184.out; have hnb50 := NB184_195.out; have hnc50 := NB195_184.out; obtain ⟨hcz51_0, hcz51_1, hfz51_0, hfz51_1⟩ := cf2 BK184
              try go_wp2_with (fail)
              go_at_call 90; (with_reducible refine (spec_l10Stock.calls kj9 _ _ l0_0 _ _ l0_1 a1 t197 _ (Kd.C_below HR0_0.out (bs HB)) HC0_0.out (Kd.C_below HR0_1.out (bs HB)) HC0_1.out A47.out).mono ?_); rintro e w52 ⟨rfl, hb⟩; replace HO_193000 := Aside0.mk (Kd.R_below (rs HO_193000) hb); replace HO_193001 := Aside0.mk (Kd.R_below (rs HO_193001) hb); replace BK184 := Aside0.mk (blk_below (ks BK184) hb); replace BK185 := Aside0.mk (blk_below (ks BK185) hb); replace BK192 := Aside0.mk (blk_below (ks BK192) hb); replace BK195 := Aside0.mk (blk_below (ks BK195) hb); replace HB := Aside0.mk (below_step (bs HB) hb); (try clear hb); (try clear hb2); (try clear hk); (try clear hi)
              by_cases c53 : t197 < 0
              · rw [if_pos c53] at H; have c53b0 : decide (t197 < 0) = true := decide_eq_true c53; clear c53; have H' := Aside0.mk H; clear H; have hnb54 := NB184_185.out; have hnc54 := NB185_184.out; have hnb55 := NB184_192.out; have hnc55 := NB192_184.out; have hnb56 := NB184_195.out; have hnc56 := NB195_184.out; obtain ⟨hcz57_0, hcz57_1, hfz57_0, hfz57_1⟩ := cf2 BK184
                go_wp2
                go_meet
                case rel => exact ⟨_, (decide ((l0_0.length : Int) ≥ 100)), fg, H', ⟨by have := HJ9.out; first | omega | exact Nat.le_refl _⟩, ⟨by (with_reducible repeat (first | apply Kd.R_alloc | apply Kd.R_drewN | apply Kd.R_drew)); exact HO_193000.out⟩, ⟨by (with_reducible repeat (first | apply Kd.R_alloc | apply Kd.R_drewN | apply Kd.R_drew)); exact HO_193001.out⟩, ⟨by (with_reducible repeat (first | apply Kd.R_alloc | apply Kd.R_drewN | apply Kd.R_drew)); exact HO_193001.out⟩, ⟨ks BK184⟩, ⟨ks BK185⟩, ⟨ks BK192⟩, ⟨ks BK195⟩, ⟨bs HB⟩⟩
              · rw [if_neg c53] at H; have c53b0 : decide (t197 < 0) = false := decide_eq_false c53; clear c53; have H' := Aside0.mk H; clear H
                go_wp2
                go_meet
                case rel => exact ⟨_, (false), fg, H', ⟨by have := HJ9.out; first | omega | exact Nat.le_refl _⟩, ⟨by (with_reducible repeat (first | apply Kd.R_alloc | apply Kd.R_drewN | apply Kd.R_drew)); exact HO_193000.out⟩, ⟨by (with_reducible repeat (first | apply Kd.R_alloc | apply Kd.R_drewN | apply Kd.R_drew)); exact HO_193001.out⟩, ⟨by (with_reducible repeat (first | apply Kd.R_alloc | apply Kd.R_drewN | apply Kd.R_drew)); exact HO_193001.out⟩, ⟨ks BK184⟩, ⟨ks BK185⟩, ⟨ks BK192⟩, ⟨ks BK195⟩, ⟨bs HB⟩⟩
        case rest =>
          clear HC44
          try clear c1
          try clear c2
          try clear p2
          try clear c3
          try clear c4
          try clear c5
          try clear p6
          try clear c7
          try clear c12
          try clear c13
          try clear c14
          try clear c18
          try clear c19
          try clear c22
          try clear c24
          try clear c25
          try clear c25b0
          try clear c26
          try clear c27
          try clear c28
          try clear c30
          try clear c33
          try clear c34
          try clear c37
          try clear c38
          try clear c39
          try clear c41
          try clear c45
          try clear c45b0
          try clear c46
          try clear c46b0
          try clear c48
          try clear c49
          try clear c50
          try clear c53
          try clear c53b0
          try clear c54
          try clear c55
          try clear c56
          try clear hcz15_0
          try clear hcz15_1
          try clear hcz20_0
          try clear hcz20_1
          try clear hcz29_0
          try clear hcz29_1
          try clear hcz31_0
          try clear hcz31_1
          try clear hcz35_0
          try clear hcz35_1
          try clear hcz40_0
          try clear hcz40_1
          try clear hcz42_0
          try clear hcz42_1
          try clear hcz51_0
          try clear hcz51_1
          try clear hcz57_0
          try clear hcz57_1
          try clear hcz8_0
          try clear hcz8_1
          try clear hfz15_0
          try clear hfz15_1
          try clear hfz20_0
          try clear hfz20_1
          try clear hfz29_0
          try clear hfz29_1
          try clear hfz31_0
          try clear hfz31_1
          try clear hfz35_0
          try clear hfz35_1
          try clear hfz40_0
          try clear hfz40_1
          try clear hfz42_0
          try clear hfz42_1
          try clear hfz51_0
          try clear hfz51_1
          try clear hfz57_0
          try clear hfz57_1
          try clear hfz8_0
          try clear hfz8_1
          try clear p2
          obtain ⟨kq, x57_43, rfl, HA, HJ43, HO_193000, HO_193001, HO_196001, BK184, BK185, BK192, BK195, HB⟩ := hcut
          cases kq with
          | zero => exact absurd HA.out (by simp [spec_l10Move.j1])
          | succ kj43 =>
            have H := HA.out; clear HA; simp only [spec_l10Move.j1] at H
            by_cases c58 : x57_43 = true
            · subst c58
              have H1 : (some (t186, t189, false)) = some (r1, r2, r3) := by rw [if_pos rfl] at H; exact H
              clear H; have H := H1; clear H1; simp only [Option.some.injEq, Prod.mk.injEq] at H; obtain ⟨rfl, rfl, rfl⟩ := H; have hnb59 := NB192_184.out; have hnc59 := NB184_192.out; have hnb60 := NB192_185.out; have hnc60 := NB185_192.out; have hnb61 := NB192_195.out; have hnc61 := NB195_192.out; obtain ⟨hcz62_0, hcz62_1, hfz62_0, hfz62_1⟩ := cf2 BK192; have hnb63 := NB185_184.out; have hnc63 := NB184_185.out; have hnb64 := NB185_195.out; have hnc64 := NB195_185.out; obtain ⟨hcz65_0, hcz65_1, hfz65_0, hfz65_1⟩ := cf2 BK185
              go_wp2
              refine bodyPost_ret (results_ct rfl _ _ gb185 47 #[.slice Ao12 t186.length co12, .slice Ao16 t189.length co16] (0, 0) _ rfl (kp BK185) Try.underlying47 rfl (by kernel_rfl)) rfl ?_
              exact ⟨_, _, ff, Kd.R_mono (rf (Kd.R_types HO_193000.out BK185.out (by decide))) (fun _ hk => trivial), Kd.R_mono (rf (Kd.R_types HO_193001.out BK185.out (by decide))) (fun _ hk => trivial), bs HB⟩
            · replace c58 := Bool.eq_false_iff.mpr c58; subst c58
              have H1 : (spec_l10Move.l0 kj43 a1 (wrap64 (t196 + a2)) false 0 l0_0 l0_1 ([] : List (S117)) t189) = some (r1, r2, r3) := by rw [if_neg (show ¬ (false = true) by decide)] at H; exact H
              clear H; have H := H1; clear H1; have H' := Aside0.mk H; clear H
              go_wp2
              go_loopg [11, 12] kj43 (fun kq v11 v12 w' => ∃ (x11_3 : Bool) (x12_3 : Int) (x196000_3 : List (S117)) (u196000 : Value), v11 = .bool x11_3 ∧ v12 = .int .i64 x12_3 ∧ Aside0 (spec_l10Move.l0 kq a1 (wrap64 (t196 + a2)) x11_3 x12_3 l0_0 l0_1 x196000_3 t189 = some (r1, r2, r3)) ∧ Aside0 (kq ≤ kj43) ∧ Aside0 (Kd.R k117 117 w' w.heap.size (fun k_ => some k_ ≠ (u196000 : Value).ownBlock) (.slice Ao12 t186.length co12) t186) ∧ Aside0 (Kd.R k54 54 w' w.heap.size (fun _ => True) (.slice Ao16 t189.length co16) t189) ∧ Aside0 (Kd.R k117 117 w' w.heap.size (fun k_ => some k_ ≠ ((.slice Ao12 t186.length co12) : Value).ownBlock) u196000 x196000_3) ∧ Aside0 (Kd.R k54 54 w' w.heap.size (fun _ => True) (.slice Ao16 t189.length co16) t189) ∧ Aside0 (w'.heap[gb184]? = some (.cells #[(.slice A0_0 l0_0.length c0_0), (.slice A0_1 l0_1.length c0_1)] 47 (0, 0))) ∧ Aside0 (w'.heap[gb185]? = some (.cells #[(.slice none 0 0), (.slice none 0 0)] 47 (0, 0))) ∧ Aside0 (w'.heap[gb192]? = some (.cells #[(.slice Ao12 t186.length co12), (.slice Ao16 t189.length co16)] 47 (0, 0))) ∧ Aside0 (w'.heap[gb195]? = some (.cells #[u196000, (.slice Ao16 t189.length co16)] 47 (0, 0))) ∧ Aside0 (Below w.heap.size w w'))
              case atStart => exact ⟨(false), (0), (([] : List (S117))), (.slice none 0 0), fg, fg, H', ⟨Nat.le_refl _⟩, ⟨by (with_reducible repeat (first | apply Kd.R_alloc | apply Kd.R_drewN | apply Kd.R_drew)); exact Kd.R_mono HO_193000.out (fun _ hk => (by simp [Value.ownBlock]))⟩, ⟨by (with_reducible repeat (first | apply Kd.R_alloc | apply Kd.R_drewN | apply Kd.R_drew)); exact HO_193001.out⟩, ⟨by first | exact Kd.R_nil _ _ _ _ _ | exact Kd.N_nil _ _ _ _ _ | exact Kd.V_nil _ _ _ _ _ | exact Kd.Q_nil _ _ _ _ _ | exact Kd.S_nil _ _ _ _ _⟩, ⟨by (with_reducible repeat (first | apply Kd.R_alloc | apply Kd.R_drewN | apply Kd.R_drew)); exact HO_196001.out⟩, ⟨ks BK184⟩, ⟨ks BK185⟩, ⟨ks BK192⟩, ⟨ks BK195⟩, ⟨bs HB⟩⟩
              case round =>
                clear H'
                try clear c1
                try clear c2
                try clear p2
                try clear c3
                try clear c4
                try clear c5
                try clear c6
                try clear p6
                try clear c7
                try clear c12
                try clear c13
                try clear c14
                try clear c18
                try clear c19
                try clear c22
                try clear c24
                try clear c25
                try clear c25b0
                try clear c26
                try clear c27
                try clear c28
                try clear c30
                try clear c33
                try clear c34
                try clear c37
                try clear c38
                try clear c39
                try clear c41
                try clear c45
                try clear c45b0
                try clear c46
                try clear c46b0
                try clear c48
                try clear c49
                try clear c50
                try clear c53
                try clear c53b0
                try clear c54
                try clear c55
                try clear c56
                try clear c58
                try clear c59
                try clear c60
                try clear c61
                try clear c63
                try clear c64
                try clear p64
                try clear hcz15_0
                try clear hcz15_1
                try clear hcz20_0
                try clear hcz20_1
                try clear hcz29_0
                try clear hcz29_1
                try clear hcz31_0
                try clear hcz31_1
                try clear hcz35_0
                try clear hcz35_1
                try clear hcz40_0
                try clear hcz40_1
                try clear hcz42_0
                try clear hcz42_1
                try clear hcz51_0
                try clear hcz51_1
                try clear hcz57_0
                try clear hcz57_1
                try clear hcz62_0
                try clear hcz62_1
                try clear hcz65_0
                try clear hcz65_1
                try clear hcz8_0
                try clear hcz8_1
                try clear hfz15_0
                try clear hfz15_1
                try clear hfz20_0
                try clear hfz20_1
                try clear hfz29_0
                try clear hfz29_1
                try clear hfz31_0
                try clear hfz31_1
                try clear hfz35_0
                try clear hfz35_1
                try clear hfz40_0
                try clear hfz40_1
                try clear hfz42_0
                try clear hfz42_1
                try clear hfz51_0
                try clear hfz51_1
                try clear hfz57_0
                try clear hfz57_1
                try clear hfz62_0
                try clear hfz62_1
                try clear hfz65_0
                try clear hfz65_1
                try clear hfz8_0
                try clear hfz8_1
                try clear p2
                try clear p6
                obtain ⟨x11_3, x12_3, x196000_3, u196000, rfl, rfl, HA, HK3, HO_193000, HO_193001, HO_196000, HO_196001, BK184, BK185, BK192, BK195, HB⟩ := hrel
                cases gk with
                | zero => exact absurd HA.out (by simp [spec_l10Move.l0])
                | succ k3 =>
                  have H := HA.out; clear HA; simp only [spec_l10Move.l0] at H
                  by_cases c66 : x12_3 < (l0_0.length : Int)
                  · rw [if_pos c66] at H; have c66b0 : decide (x12_3 < (l0_0.length : Int)) = true := decide_eq_true c66; clear c66; have HC67 := Aside0.mk H; clear H; have hnb68 := NB184_185.out; have hnc68 := NB185_184.out; have hnb69 := NB184_192.out; have hnc69 := NB192_184.out; have hnb70 := NB184_195.out; have hnc70 := NB195_184.out; obtain ⟨hcz71_0, hcz71_1, hfz71_0, hfz71_1⟩ := cf2 BK184
                    go_upto_region 12 with (fail)
                    go_cut [77] (fun v77 wc => ∃ (kq : Nat) (x77_66 : Bool), v77 = .bool x77_66 ∧ Aside0 (spec_l10Move.j3 kq a1 (wrap64 (t196 + a2)) x11_3 x12_3 x77_66 l0_0 l0_1 x196000_3 t189 = some (r1, r2, r3)) ∧ Aside0 (kq ≤ k3) ∧ Aside0 (Kd.R k117 117 wc w.heap.size (fun k_ => some k_ ≠ (u196000 : Value).ownBlock) (.slice Ao12 t186.length co12) t186) ∧ Aside0 (Kd.R k54 54 wc w.heap.size (fun _ => True) (.slice Ao16 t189.length co16) t189) ∧ Aside0 (Kd.R k117 117 wc w.heap.size (fun k_ => some k_ ≠ ((.slice Ao12 t186.length co12) : Value).ownBlock) u196000 x196000_3) ∧ Aside0 (Kd.R k54 54 wc w.heap.size (fun _ => True) (.slice Ao16 t189.length co16) t189) ∧ Aside0 (wc.heap[gb184]? = some (.cells #[(.slice A0_0 l0_0.length c0_0), (.slice A0_1 l0_1.length c0_1)] 47 (0, 0))) ∧ Aside0 (wc.heap[gb185]? = some (.cells #[(.slice none 0 0), (.slice none 0 0)] 47 (0, 0))) ∧ Aside0 (wc.heap[gb192]? = some (.cells #[(.slice Ao12 t186.length co12), (.slice Ao16 t189.length co16)] 47 (0, 0))) ∧ Aside0 (wc.heap[gb195]? = some (.cells #[u196000, (.slice Ao16 t189.length co16)] 47 (0, 0))) ∧ Aside0 (Below w.heap.size w wc))
                    case first =>
                      have H := HC67.out; clear HC67
                      by_cases c72 : x11_3 = true
                      · subst c72
                        have H1 : (spec_l10Move.j3 k3 a1 (wrap64 (t196 + a2)) true x12_3 false l0_0 l0_1 x196000_3 t189) = some (r1, r2, r3) := by rw [if_pos rfl] at H; exact H
                        clear H; have H := H1; clear H1; have H' := Aside0.mk H; clear H
                        go_wp2
                        go_meet
                        case rel => exact ⟨_, (false), fg, H', ⟨by have := HJ9.out; have := HJ43.out; have := HK3.out; first | omega | exact Nat.le_refl _⟩, ⟨by (with_reducible repeat (first | apply Kd.R_alloc | apply Kd.R_drewN | apply Kd.R_drew)); exact HO_193000.out⟩, ⟨by (with_reducible repeat (first | apply Kd.R_alloc | apply Kd.R_drewN | apply Kd.R_drew)); exact HO_193001.out⟩, ⟨by (with_reducible repeat (first | apply Kd.R_alloc | apply Kd.R_drewN | apply Kd.R_drew)); exact HO_196000.out⟩, ⟨by (with_reducible repeat (first | apply Kd.R_alloc | apply Kd.R_drewN | apply Kd.R_drew)); exact HO_196001.out⟩, ⟨ks BK184⟩, ⟨ks BK185⟩, ⟨ks BK192⟩, ⟨ks BK195⟩, ⟨bs HB⟩⟩
                      · replace c72 := Bool.eq_false_iff.mpr c72; subst c72
                        have H1 : (if 0 ≤ x12_3 then (spec_l10Move.j3 k3 a1 (wrap64 (t196 + a2)) false x12_3 (!(Op.bytesLess (((rd_T117 l0_0 x12_3).f0).toList) a1.toList)) l0_0 l0_1 x196000_3 t189) else (none)) = some (r1, r2, r3) := by rw [if_neg (show ¬ (false = true) by decide)] at H; exact H
                        clear H; have H := H1; clear H1
                        by_cases c73 : 0 ≤ x12_3
                        · rw [if_pos c73] at H; have c73b0 : decide (0 ≤ x12_3) = true := decide_eq_true c73; clear c73
                          (first | rw [c73b0] | (simp only [i64_w, i32_w]; rw [c73b0]) | skip)
                          have H' := Aside0.mk H; clear H; have hnb74 := NB184_185.out; have hnc74 := NB185_184.out; have hnb75 := NB184_192.out; have hnc75 := NB192_184.out; have hnb76 := NB184_195.out; have hnc76 := NB195_184.out; obtain ⟨hcz77_0, hcz77_1, hfz77_0, hfz77_1⟩ := cf2 BK184; have p201 : 0 ≤ (x12_3 : Int) := oa; have q201 : x12_3 < (l0_0.length : Int) := oa; obtain ⟨ad201, e201, hx201_0, hx201_1⟩ := at_T117 HR0_0.out x12_3 p201 q201
                          cases e201
                          replace hx201_0 := cb HB hx201_0; replace hx201_1 := cb HB hx201_1; replace p201 := eq_true p201; replace q201 := eq_true q201
                          go_wp2
                          go_meet
                          case rel => exact ⟨_, (!(Op.bytesLess (((rd_T117 l0_0 x12_3).f0).toList) a1.toList)), fg, H', ⟨by have := HJ9.out; have := HJ43.out; have := HK3.out; first | omega | exact Nat.le_refl _⟩, ⟨by (with_reducible repeat (first | apply Kd.R_alloc | apply Kd.R_drewN | apply Kd.R_drew)); exact HO_193000.out⟩, ⟨by (with_reducible repeat (first | apply Kd.R_alloc | apply Kd.R_drewN | apply Kd.R_drew)); exact HO_193001.out⟩, ⟨by (with_reducible repeat (first | apply Kd.R_alloc | apply Kd.R_drewN | apply Kd.R_drew)); exact HO_196000.out⟩, ⟨by (with_reducible repeat (first | apply Kd.R_alloc | apply Kd.R_drewN | apply Kd.R_drew)); exact HO_196001.out⟩, ⟨ks BK184⟩, ⟨ks BK185⟩, ⟨ks BK192⟩, ⟨ks BK195⟩, ⟨bs HB⟩⟩
                        · rw [if_neg c73] at H
                          exact absurd H (by simp)
                    case rest =>
                      clear HC67
                      try clear c1
                      try clear c2
                      try clear p2
                      try clear q2
                      try clear hx2
                      try clear c3
                      try clear c4
                      try clear c5
                      try clear c6
                      try clear p6
                      try clear c7
                      try clear c12
                      try clear c13
                      try clear c14
                      try clear c18
                      try clear c19
                      try clear p20
                      try clear q20
                      try clear hx20
                      try clear c22
                      try clear c24
                      try clear c25
                      try clear c25b0
                      try clear c26
                      try clear c27
                      try clear c28
                      try clear c30
                      try clear c33
                      try clear c34
                      try clear c37
                      try clear c38
                      try clear c39
                      try clear c41
                      try clear c45
                      try clear c45b0
                      try clear c46
                      try clear c46b0
                      try clear c48
                      try clear c49
                      try clear c50
                      try clear c53
                      try clear c53b0
                      try clear c54
                      try clear c55
                      try clear c56
                      try clear c58
                      try clear c59
                      try clear c60
                      try clear c61
                      try clear c63
                      try clear c64
                      try clear p64
                      try clear c66
                      try clear c66b0
                      try clear c68
                      try clear c69
                      try clear c70
                      try clear c72
                      try clear c73
                      try clear c73b0
                      try clear c74
                      try clear c75
                      try clear c76
                      try clear hcz15_0
                      try clear hcz15_1
                      try clear hcz20_0
                      try clear hcz20_1
                      try clear hcz29_0
                      try clear hcz29_1
                      try clear hcz31_0
                      try clear hcz31_1
                      try clear hcz35_0
                      try clear hcz35_1
                      try clear hcz40_0
                      try clear hcz40_1
                      try clear hcz42_0
                      try clear hcz42_1
                      try clear hcz51_0
                      try clear hcz51_1
                      try clear hcz57_0
                      try clear hcz57_1
                      try clear hcz62_0
                      try clear hcz62_1
                      try clear hcz65_0
                      try clear hcz65_1
                      try clear hcz71_0
                      try clear hcz71_1
                      try clear hcz77_0
                      try clear hcz77_1
                      try clear hcz8_0
                      try clear hcz8_1
                      try clear hfz15_0
                      try clear hfz15_1
                      try clear hfz20_0
                      try clear hfz20_1
                      try clear hfz29_0
                      try clear hfz29_1
                      try clear hfz31_0
                      try clear hfz31_1
                      try clear hfz35_0
                      try clear hfz35_1
                      try clear hfz40_0
                      try clear hfz40_1
                      try clear hfz42_0
                      try clear hfz42_1
                      try clear hfz51_0
                      try clear hfz51_1
                      try clear hfz57_0
                      try clear hfz57_1
                      try clear hfz62_0
                      try clear hfz62_1
                      try clear hfz65_0
                      try clear hfz65_1
                      try clear hfz71_0
                      try clear hfz71_1
                      try clear hfz77_0
                      try clear hfz77_1
                      try clear hfz8_0
                      try clear hfz8_1
                      try clear hx201_0
                      try clear hx201_1
                      try clear p2
                      try clear p201
                      try clear p6
                      try clear p64
                      try clear q201
                      obtain ⟨kq, x77_66, rfl, HA, HJ66, HO_193000, HO_193001, HO_196000, HO_196001, BK184, BK185, BK192, BK195, HB⟩ := hcut
                      cases kq with
                      | zero => exact absurd HA.out (by simp [spec_l10Move.j3])
                      | succ kj66 =>
                        have H := HA.out; clear HA; simp only [spec_l10Move.j3] at H
                        by_cases c78 : x77_66 = true
                        · subst c78
                          have H1 : (if x196000_3.length < 5864062014805 then ((some (x196000_3 ++ [(⟨a1, (wrap64 (t196 + a2))⟩ : S117)] : List (S117))).bind fun y202 => (if 0 ≤ x12_3 then (if x12_3 < (l0_0.length : Int) then (if ((rd_T117 l0_0 x12_3).f0).toList = a1.toList then (spec_l10Move.l0 kj66 a1 (wrap64 (t196 + a2)) true (wrap64 (x12_3 + 1)) l0_0 l0_1 y202 t189) else (if y202.length < 5864062014805 then (spec_l10Move.l0 kj66 a1 (wrap64 (t196 + a2)) true (wrap64 (x12_3 + 1)) l0_0 l0_1 (y202 ++ [(⟨(rd_T117 l0_0 x12_3).f0, (rd_T117 l0_0 x12_3).f1⟩ : S117)]) t189) else (none))) else (none)) else (none))) else (none)) = some (r1, r2, r3) := by rw [if_pos rfl] at H; exact H
                          clear H; have H := H1; clear H1
                          by_cases c79 : x196000_3.length < 5864062014805
                          · rw [if_pos c79] at H; have LMc79 := Aside0.mk c79; clear c79; obtain ⟨y202, hy202⟩ : ∃ y_ : List (S117), y_ = (x196000_3 ++ [(⟨a1, (wrap64 (t196 + a2))⟩ : S117)]) := ⟨_, rfl⟩
                            replace H : (if 0 ≤ x12_3 then (if x12_3 < (l0_0.length : Int) then (if ((rd_T117 l0_0 x12_3).f0).toList = a1.toList then (spec_l10Move.l0 kj66 a1 (wrap64 (t196 + a2)) true (wrap64 (x12_3 + 1)) l0_0 l0_1 y202 t189) else (if y202.length < 5864062014805 then (spec_l10Move.l0 kj66 a1 (wrap64 (t196 + a2)) true (wrap64 (x12_3 + 1)) l0_0 l0_1 (y202 ++ [(⟨(rd_T117 l0_0 x12_3).f0, (rd_T117 l0_0 x12_3).f1⟩ : S117)]) t189) else (none))) else (none)) else (none)) = some (r1, r2, r3) := by first | (rw [hy202]; with_reducible exact H) | (have H2_ := (Option.bind_some _ _).symm.trans H; rw [hy202]; with_reducible exact H2_) | (have H2_ := (Option.bind_some _ _).symm.trans H; with_reducible exact H2_) | with_reducible exact H | (rw [hy202]; exact H) | exact H
                            have Ny202 := Aside0.mk hy202; clear hy202
                            by_cases c80 : 0 ≤ x12_3
                            · rw [if_pos c80] at H; have c80b0 : decide (0 ≤ x12_3) = true := decide_eq_true c80; clear c80
                              by_cases c81 : x12_3 < (l0_0.length : Int)
                              · rw [if_pos c81] at H; have c81b0 : decide (x12_3 < (l0_0.length : Int)) = true := decide_eq_true c81; clear c81
                                by_cases c82 : ((rd_T117 l0_0 x12_3).f0).toList = a1.toList
                                · rw [if_pos c82] at H; have c82b0 : (((rd_T117 l0_0 x12_3).f0).toList == a1.toList) = true := beq_iff_eq.mpr c82; have c82b1 : (((rd_T117 l0_0 x12_3).f0).toList != a1.toList) = false := bne_eq_false_iff_eq.mpr c82; clear c82; have H' := Aside0.mk H; clear H; have hnb83 := NB195_184.out; have hnc83 := NB184_195.out; have hnb84 := NB195_185.out; have hnc84 := NB185_195.out; have hnb85 := NB195_192.out; have hnc85 := NB192_195.out; obtain ⟨hcz86_0, hcz86_1, hfz86_0, hfz86_1⟩ := cf2 BK195
                                  go_wp2_with (first | ((with_reducible refine gate_builtin (b := .append) (xs := #[.tmp 79, .tmp 83]) rfl ?_); (try (refine gate_guard (by rfl) ?_; dsimp only)); at_builtin; refine Kd.R_append k117 (w0 := w) w.heap.size rfl (.tmp 79) (.tmp 83) 44 117 (.agg #[(.string ⟨#[]⟩), (.int .i64 0)]) 24 rfl Try.underlying44 info117 rfl (by decide) (by omega) u196000 x196000_3 (⟨a1, (wrap64 (t196 + a2))⟩ : S117) [.string a1, .int .i64 (wrap64 (t196 + a2))] (fun k_ => some k_ ≠ (.slice Ao12 t186.length co12 : Value).ownBlock) (fun _ => False) rfl rfl ?aP (fun _ hk => hk.elim) ?aF ?aO ?aB ?aS ?aL ?_; (case aP => exact k117_mkM _ _ _ (⟨a1, (wrap64 (t196 + a2))⟩ : S117)); (case aB => exact (bs HB)); (case aF => exact (fun k_ hk => Kd.fresh' (Kd.R_lt (rs HO_193000)) k_ hk)); (case aO => exact (rs HO_196000)); (case aS => exact (below_size (bs HB))); (case aL => have := LMc79.out; omega); intro v203 w87 ho hb hg hat; rw [← Ny202.out] at ho; have n0_ := Aside0.mk (Kd.R_after (ok := (fun _ => True)) (by (with_reducible repeat (first | apply Kd.R_alloc | apply Kd.R_drewN | apply Kd.R_drew)); exact Kd.R_mono HO_193000.out (fun _ hk => ⟨trivial, hk⟩)) hg hat); have n1_ := Aside0.mk (Kd.R_over' (rs HO_193001) (Kd.R_typed (rs HO_196000)) (by decide) hg); have n2_ := Aside0.mk (Kd.R_over' (rs HO_196001) (Kd.R_typed (rs HO_196000)) (by decide) hg); have n3_ := Aside0.mk (blk_grown (ks BK184) hg (Kd.R_ne HO_196000.out BK184.out (by decide))); have n4_ := Aside0.mk (blk_grown (ks BK185) hg (Kd.R_ne HO_196000.out BK185.out (by decide))); have n5_ := Aside0.mk (blk_grown (ks BK192) hg (Kd.R_ne HO_196000.out BK192.out (by decide))); have n6_ := Aside0.mk (blk_grown (ks BK195) hg (Kd.R_ne HO_196000.out BK195.out (by decide))); have n7_ := Aside0.mk (hb); have n8_ := Aside0.mk (ho); clear HO_193000; clear HO_193001; clear HO_196001; clear BK184; clear BK185; clear BK192; clear BK195; clear HB; clear HO_196000; have HO_193000 := n0_; have HO_193001 := n1_; have HO_196001 := n2_; have BK184 := n3_; have BK185 := n4_; have BK192 := n5_; have BK195 := n6_; have HB := n7_; have HO204 := n8_; clear n0_ n1_ n2_ n3_ n4_ n5_ n6_ n7_ n8_; clear ho hb hg hat; obtain ⟨Ao88, co88, eo88⟩ := Kd.R_slice HO204.out; subst eo88; obtain ⟨hcz89_0, hcz89_1, hfz89_0, hfz89_1⟩ := cf2 BK195; have hnb90 := NB184_185.out; have hnc90 := NB185_184.out; have hnb91 := NB184_192.out; have hnc91 := NB192_184.out; obtain ⟨hcz92_0, hcz92_1, hfz92_0, hfz92_1⟩ := cf2 BK184; have p205 : 0 ≤ (x12_3 : Int) := oa; have q205 : x12_3 < (l0_0.length : Int) := oa; obtain ⟨ad205, e205, hx205_0, hx205_1⟩ := at_T117 HR0_0.out x12_3 p205 q205; cases e205; have hn205_0 : ad205.block ≠ gb195 := Nat.ne_of_lt (Nat.lt_of_lt_of_le (by have := World.block_lt_of_cell? _ _ hx205_0; first | rwa [add_block] at this | exact this) GW195.out); replace hx205_0 := cb HB hx205_0; replace hx205_1 := cb HB hx205_1; replace hx205_0 := (cell_far (p := ⟨gb195, 0, none⟩) (by first | (rw [add_block]; exact hn205_0) | (show (Addr.add _ _).block ≠ _; rw [add_block]; exact hn205_0) | exact hn205_0) (.slice Ao88 y202.length co88)).trans hx205_0; replace hx205_1 := (cell_far (p := ⟨gb195, 0, none⟩) (by first | (rw [add_block]; exact hn205_0) | (show (Addr.add _ _).block ≠ _; rw [add_block]; exact hn205_0) | exact hn205_0) (.slice Ao88 y202.length co88)).trans hx205_1; clear hn205_0; replace p205 := eq_true p205; replace q205 := eq_true q205))
                                  go_roundg kj66
                                  case measure => have := HJ9.out; have := HJ43.out; have := HK3.out; have := HJ66.out; omega
                                  case rel => exact ⟨(true), (wrap64 (x12_3 + 1)), (y202), (.slice Ao88 y202.length co88), fg, fg, H', ⟨by have := HJ9.out; have := HJ43.out; have := HK3.out; have := HJ66.out; omega⟩, ⟨Kd.R_mono (rf (Kd.R_types HO_193000.out BK195.out (by decide))) (fun _ hk => hk.1.2)⟩, ⟨Kd.R_mono (rf (Kd.R_types HO_193001.out BK195.out (by decide))) (fun _ hk => trivial)⟩, ⟨Kd.R_mono (rf (Kd.R_types HO204.out BK195.out (by decide))) (fun _ hk => hk.1)⟩, ⟨Kd.R_mono (rf (Kd.R_types HO_196001.out BK195.out (by decide))) (fun _ hk => trivial)⟩, ⟨ks BK184⟩, ⟨ks BK185⟩, ⟨ks BK192⟩, ⟨kp BK195⟩, ⟨bs HB⟩⟩
                                · rw [if_neg c82] at H; have c82b0 : (((rd_T117 l0_0 x12_3).f0).toList == a1.toList) = false := beq_eq_false_iff_ne.mpr c82; have c82b1 : (((rd_T117 l0_0 x12_3).f0).toList != a1.toList) = true := bne_iff_ne.mpr c82
                                  by_cases c93 : y202.length < 5864062014805
                                  · rw [if_pos c93] at H; have LMc93 := Aside0.mk c93; clear c93; obtain ⟨y207, hy207⟩ : ∃ y_ : List (S117), y_ = (y202 ++ [(⟨(rd_T117 l0_0 x12_3).f0, (rd_T117 l0_0 x12_3).f1⟩ : S117)]) := ⟨_, rfl⟩
                                    replace H : (spec_l10Move.l0 kj66 a1 (wrap64 (t196 + a2)) true (wrap64 (x12_3 + 1)) l0_0 l0_1 y207 t189) = some (r1, r2, r3) := by first | (rw [hy207]; with_reducible exact H) | (have H2_ := (Option.bind_some _ _).symm.trans H; rw [hy207]; with_reducible exact H2_) | (have H2_ := (Option.bind_some _ _).symm.trans H; with_reducible exact H2_) | with_reducible exact H | (rw [hy207]; exact H) | exact H
                                    have Ny207 := Aside0.mk hy207; clear hy207; have H' := Aside0.mk H; clear H; have hnb94 := NB195_184.out; have hnc94 := NB184_195.out; have hnb95 := NB195_185.out; have hnc95 := NB185_195.out; have hnb96 := NB195_192.out; have hnc96 := NB192_195.out; obtain ⟨hcz97_0, hcz97_1, hfz97_0, hfz97_1⟩ := cf2 BK195
                                    try go_wp2_with (first | ((with_reducible refine gate_builtin (b := .append) (xs := #[.tmp 79, .tmp 83]) rfl ?_); (try (refine gate_guard (by rfl) ?_; dsimp only)); at_builtin; refine Kd.R_append k117 (w0 := w) w.heap.size rfl (.tmp 79) (.tmp 83) 44 117 (.agg #[(.string ⟨#[]⟩), (.int .i64 0)]) 24 rfl Try.underlying44 info117 rfl (by decide) (by omega) u196000 x196000_3 (⟨a1, (wrap64 (t196 + a2))⟩ : S117) [.string a1, .int .i64 (wrap64 (t196 + a2))] (fun k_ => some k_ ≠ (.slice Ao12 t186.length co12 : Value).ownBlock) (fun _ => False) rfl rfl ?aP (fun _ hk => hk.elim) ?aF ?aO ?aB ?aS ?aL ?_; (case aP => exact k117_mkM _ _ _ (⟨a1, (wrap64 (t196 + a2))⟩ : S117)); (case aB => exact (bs HB)); (case aF => exact (fun k_ hk => Kd.fresh' (Kd.R_lt (rs HO_193000)) k_ hk)); (case aO => exact (rs HO_196000)); (case aS => exact (below_size (bs HB))); (case aL => have := LMc79.out; omega); intro v203 w98 ho hb hg hat; rw [← Ny202.out] at ho; have n0_ := Aside0.mk (Kd.R_after (ok := (fun _ => True)) (by (with_reducible repeat (first | apply Kd.R_alloc | apply Kd.R_drewN | apply Kd.R_drew)); exact Kd.R_mono HO_193000.out (fun _ hk => ⟨trivial, hk⟩)) hg hat); have n1_ := Aside0.mk (Kd.R_over' (rs HO_193001) (Kd.R_typed (rs HO_196000)) (by decide) hg); have n2_ := Aside0.mk (Kd.R_over' (rs HO_196001) (Kd.R_typed (rs HO_196000)) (by decide) hg); have n3_ := Aside0.mk (blk_grown (ks BK184) hg (Kd.R_ne HO_196000.out BK184.out (by decide))); have n4_ := Aside0.mk (blk_grown (ks BK185) hg (Kd.R_ne HO_196000.out BK185.out (by decide))); have n5_ := Aside0.mk (blk_grown (ks BK192) hg (Kd.R_ne HO_196000.out BK192.out (by decide))); have n6_ := Aside0.mk (blk_grown (ks BK195) hg (Kd.R_ne HO_196000.out BK195.out (by decide))); have n7_ := Aside0.mk (hb); have n8_ := Aside0.mk (ho); clear HO_193000; clear HO_193001; clear HO_196001; clear BK184; clear BK185; clear BK192; clear BK195; clear HB; clear HO_196000; have HO_193000 := n0_; have HO_193001 := n1_; have HO_196001 := n2_; have BK184 := n3_; have BK185 := n4_; have BK192 := n5_; have BK195 := n6_; have HB := n7_; have HO204 := n8_; clear n0_ n1_ n2_ n3_ n4_ n5_ n6_ n7_ n8_; clear ho hb hg hat; obtain ⟨Ao99, co99, eo99⟩ := Kd.R_slice HO204.out; subst eo99; obtain ⟨hcz100_0, hcz100_1, hfz100_0, hfz100_1⟩ := cf2 BK195; have hnb101 := NB184_185.out; have hnc101 := NB185_184.out; have hnb102 := NB184_192.out; have hnc102 := NB192_184.out; obtain ⟨hcz103_0, hcz103_1, hfz103_0, hfz103_1⟩ := cf2 BK184; have p205 : 0 ≤ (x12_3 : Int) := oa; have q205 : x12_3 < (l0_0.length : Int) := oa; obtain ⟨ad205, e205, hx205_0, hx205_1⟩ := at_T117 HR0_0.out x12_3 p205 q205; cases e205; have hn205_0 : ad205.block ≠ gb195 := Nat.ne_of_lt (Nat.lt_of_lt_of_le (by have := World.block_lt_of_cell? _ _ hx205_0; first | rwa [add_block] at this | exact this) GW195.out); replace hx205_0 := cb HB hx205_0; replace hx205_1 := cb HB hx205_1; replace hx205_0 := (cell_far (p := ⟨gb195, 0, none⟩) (by first | (rw [add_block]; exact hn205_0) | (show (Addr.add _ _).block ≠ _; rw [add_block]; exact hn205_0) | exact hn205_0) (.slice Ao99 y202.length co99)).trans hx205_0; replace hx205_1 := (cell_far (p := ⟨gb195, 0, none⟩) (by first | (rw [add_block]; exact hn205_0) | (show (Addr.add _ _).block ≠ _; rw [add_block]; exact hn205_0) | exact hn205_0) (.slice Ao99 y202.length co99)).trans hx205_1; clear hn205_0; replace p205 := eq_true p205; replace q205 := eq_true q205))
                                    have n0_ : Aside0 (Kd.R k117 117 (w98.setCell ⟨gb195, 0, none⟩ (.slice Ao99 y202.length co99)) w.heap.size (fun k_ => some k_ ≠ (.slice Ao99 y202.length co99 : Value).ownBlock) (.slice Ao12 t186.length co12) t186) := ⟨Kd.R_mono (rf (Kd.R_types HO_193000.out BK195.out (by decide))) (fun _ hk => hk.1.2)⟩; have n1_ : Aside0 (Kd.R k54 54 (w98.setCell ⟨gb195, 0, none⟩ (.slice Ao99 y202.length co99)) w.heap.size (fun _ => True) (.slice Ao16 t189.length co16) t189) := ⟨Kd.R_mono (rf (Kd.R_types HO_193001.out BK195.out (by decide))) (fun _ hk => trivial)⟩; have n2_ : Aside0 (Kd.R k54 54 (w98.setCell ⟨gb195, 0, none⟩ (.slice Ao99 y202.length co99)) w.heap.size (fun _ => True) (.slice Ao16 t189.length co16) t189) := ⟨Kd.R_mono (rf (Kd.R_types HO_196001.out BK195.out (by decide))) (fun _ hk => trivial)⟩; have n3_ : Aside0 (Kd.R k117 117 (w98.setCell ⟨gb195, 0, none⟩ (.slice Ao99 y202.length co99)) w.heap.size (fun k_ => some k_ ≠ (.slice Ao12 t186.length co12 : Value).ownBlock) (.slice Ao99 y202.length co99) y202) := ⟨Kd.R_mono (rf (Kd.R_types HO204.out BK195.out (by decide))) (fun _ hk => hk.1)⟩; have n4_ : Aside0 ((w98.setCell ⟨gb195, 0, none⟩ (.slice Ao99 y202.length co99)).heap[gb184]? = some (.cells #[.slice (some ad205) l0_0.length c0_0, .slice A0_1 l0_1.length c0_1] 47 (0, 0))) := ⟨ks BK184⟩; have n5_ : Aside0 ((w98.setCell ⟨gb195, 0, none⟩ (.slice Ao99 y202.length co99)).heap[gb185]? = some (.cells #[.slice none 0 0, .slice none 0 0] 47 (0, 0))) := ⟨ks BK185⟩; have n6_ : Aside0 ((w98.setCell ⟨gb195, 0, none⟩ (.slice Ao99 y202.length co99)).heap[gb192]? = some (.cells #[.slice Ao12 t186.length co12, .slice Ao16 t189.length co16] 47 (0, 0))) := ⟨ks BK192⟩; have n7_ : Aside0 ((w98.setCell ⟨gb195, 0, none⟩ (.slice Ao99 y202.length co99)).heap[gb195]? = some (.cells #[.slice Ao99 y202.length co99, .slice Ao16 t189.length co16] 47 (0, 0))) := ⟨kp BK195⟩; have n8_ : Aside0 (Below w.heap.size w (w98.setCell ⟨gb195, 0, none⟩ (.slice Ao99 y202.length co99))) := ⟨bs HB⟩; (try clear HO_193000); (try clear HO_193001); (try clear HO_196001); (try clear HO204); (try clear BK184); (try clear BK185); (try clear BK192); (try clear BK195); (try clear HB)
                                    generalize (w98.setCell ⟨gb195, 0, none⟩ (.slice Ao99 y202.length co99)) = w104 at n0_ n1_ n2_ n3_ n4_ n5_ n6_ n7_ n8_ ⊢
                                    have HO_193000 := n0_; have HO_193001 := n1_; have HO_196001 := n2_; have HO204 := n3_; have BK184 := n4_; have BK185 := n5_; have BK192 := n6_; have BK195 := n7_; have HB := n8_; clear n0_ n1_ n2_ n3_ n4_ n5_ n6_ n7_ n8_; replace HO_193000 := Aside0.mk (Kd.R_drew HO_193000.out); replace HO_193001 := Aside0.mk (Kd.R_drew HO_193001.out); replace HO_196001 := Aside0.mk (Kd.R_drew HO_196001.out); replace HO204 := Aside0.mk (Kd.R_drew HO204.out); replace BK184 := Aside0.mk (blk_drew BK184.out); replace BK185 := Aside0.mk (blk_drew BK185.out); replace BK192 := Aside0.mk (blk_drew BK192.out); replace BK195 := Aside0.mk (blk_drew BK195.out); replace HB := Aside0.mk (below_drew1 HB.out); have p206 : 0 ≤ (x12_3 : Int) := oa; have q206 : x12_3 < (l0_0.length : Int) := oa; obtain ⟨ad206, e206, hx206_0, hx206_1⟩ := at_T117 HR0_0.out x12_3 p206 q206; have hw206_1 := hx206_1; have hw206_0 := hx206_0; obtain rfl : ad205 = ad206 := (by injection e206); replace hx206_0 := cb HB hx206_0; replace hx206_1 := cb HB hx206_1; replace p206 := eq_true p206; replace q206 := eq_true q206; refine start_ (n := 11) (S := fun w' => w'.cell? ⟨gb195, 0, none⟩ = some (.slice Ao99 y202.length co99) ∧ w'.cell? ⟨gb195, 1, none⟩ = some (.slice Ao16 t189.length co16) ∧ w'.cell? ⟨gb184, 0, none⟩ = some (.slice (some ad205) l0_0.length c0_0) ∧ w'.cell? ⟨gb184, 1, none⟩ = some (.slice A0_1 l0_1.length c0_1) ∧ w'.cell? (ad205.add ((x12_3).toNat * 2)) = some (.string ((rd_T117 l0_0 x12_3).f0)) ∧ w'.cell? ⟨(ad205.add ((x12_3).toNat * 2)).block, (ad205.add ((x12_3).toNat * 2)).off + 1, none⟩ = some (.int .i64 ((rd_T117 l0_0 x12_3).f1))) (ds := [10]) #[false, false, false, false, false, false, false, false, false, false, false] (by kernel_rfl) rfl rfl ⟨(blk_cell BK195.out 0).trans rfl, (blk_cell BK195.out 1).trans rfl, (blk_cell BK184.out 0).trans rfl, (blk_cell BK184.out 1).trans rfl, ((cb HB hw206_0).trans rfl), ((cb HB hw206_1).trans rfl)⟩ (fun hHeld => ?_); refine with_tabW spec_l10Move.tab16 spec_l10Move.bits16 (fun HT_ HW_ => ?_)
                                    generalize w104.drew = w105 at HO_193000 HO_193001 HO_196001 HO204 BK184 BK185 BK192 BK195 HB hx206_0 hx206_1 hHeld ⊢
                                    refine pA 0 94 HT_ ?_; refine pA 2 96 HT_ ?_; refine pA 4 98 HT_ ?_; refine tA 1 95 HT_ HW_ hHeld ?_; refine tA 3 97 HT_ HW_ hHeld ?_; refine pA 5 99 HT_ ?_; refine tA 6 100 HT_ HW_ hHeld ?_; refine oA 7 101 HT_ (fun K hK => ?_); refine value_ (w1 := ?_) (v := ?_) (by rfl) rfl ?_ ?_
                                    rotate_left 2
                                    · go_simp
                                      constructor
                                      · rfl
                                      · rfl
                                    refine hK.out _ _ ⟨(blk_cell (blk_alloc BK195.out _) 0).trans rfl, (blk_cell (blk_alloc BK195.out _) 1).trans rfl, (blk_cell (blk_alloc BK184.out _) 0).trans rfl, (blk_cell (blk_alloc BK184.out _) 1).trans rfl, (World.cell?_alloc_lt _ _ _ (World.block_lt_of_cell? _ _ (((cb HB hw206_0).trans rfl)))).trans (((cb HB hw206_0).trans rfl)), (World.cell?_alloc_lt _ _ _ (World.block_lt_of_cell? _ _ (((cb HB hw206_1).trans rfl)))).trans (((cb HB hw206_1).trans rfl))⟩ (fun hHeld => ?_); clear hK K; refine nA 101 ?_; refine oA 8 102 HT_ (fun K hK => ?_); refine Kd.R_append_step k117 (w0 := w) w.heap.size (by rfl) (.tmp 95) (.tmp 101) 44 117 (.agg #[(.string ⟨#[]⟩), (.int .i64 0)]) 24 rfl Try.underlying44 info117 rfl (by decide) (by omega) (.slice Ao99 y202.length co99) y202 (⟨(rd_T117 l0_0 x12_3).f0, (rd_T117 l0_0 x12_3).f1⟩ : S117) [.string ((rd_T117 l0_0 x12_3).f0), .int .i64 ((rd_T117 l0_0 x12_3).f1)] (fun k_ => some k_ ≠ (.slice Ao12 t186.length co12 : Value).ownBlock) (fun _ => False) rfl rfl ?aP (fun _ hk => hk.elim) ?aF ?aO ?aB ?aS ?aL ?_
                                    (case aP => exact k117_mkM _ _ _ (⟨(rd_T117 l0_0 x12_3).f0, (rd_T117 l0_0 x12_3).f1⟩ : S117))
                                    (case aB => exact (bs HB))
                                    (case aF => exact (fun k_ hk => Kd.fresh' (Kd.R_lt (rs HO_193000)) k_ hk))
                                    (case aO => exact (rs HO204))
                                    (case aS => exact (below_size (bs HB)))
                                    (case aL => have := LMc93.out; omega)
                                    intro v208 w106 ho hb hg hat
                                    rw [← Ny207.out] at ho
                                    have n0_ := Aside0.mk (Kd.R_after (ok := (fun _ => True)) (by (with_reducible repeat (first | apply Kd.R_alloc | apply Kd.R_drewN | apply Kd.R_drew)); exact Kd.R_mono HO_193000.out (fun _ hk => ⟨trivial, hk⟩)) hg hat); have n1_ := Aside0.mk (Kd.R_over' (rs HO_193001) (Kd.R_typed (rs HO204)) (by decide) hg); have n2_ := Aside0.mk (Kd.R_over' (rs HO_196001) (Kd.R_typed (rs HO204)) (by decide) hg); have n3_ := Aside0.mk (blk_grown (ks BK184) hg (Kd.R_ne HO204.out BK184.out (by decide))); have n4_ := Aside0.mk (blk_grown (ks BK185) hg (Kd.R_ne HO204.out BK185.out (by decide))); have n5_ := Aside0.mk (blk_grown (ks BK192) hg (Kd.R_ne HO204.out BK192.out (by decide))); have n6_ := Aside0.mk (blk_grown (ks BK195) hg (Kd.R_ne HO204.out BK195.out (by decide))); have n7_ := Aside0.mk (hb); have n8_ := Aside0.mk (ho); clear HO_193000; clear HO_193001; clear HO_196001; clear BK184; clear BK185; clear BK192; clear BK195; clear HB; clear HO204; have HO_193000 := n0_; have HO_193001 := n1_; have HO_196001 := n2_; have BK184 := n3_; have BK185 := n4_; have BK192 := n5_; have BK195 := n6_; have HB := n7_; have HO209 := n8_; clear n0_ n1_ n2_ n3_ n4_ n5_ n6_ n7_ n8_; clear ho hb hg hat; obtain ⟨Ao107, co107, eo107⟩ := Kd.R_slice HO209.out
                                    (first | subst eo107 | (injection eo107 with f1_ f2_ f3_; have f4_ := f1_.symm; have f5_ := f3_.symm; clear f1_ f2_ f3_; subst f4_; subst f5_))
                                    refine hK.out _ _ ⟨(blk_cell BK195.out 0).trans rfl, (blk_cell BK195.out 1).trans rfl, (blk_cell BK184.out 0).trans rfl, (blk_cell BK184.out 1).trans rfl, ((cb HB hw206_0).trans rfl), ((cb HB hw206_1).trans rfl)⟩ (fun hHeld => ?_); clear hK K; refine nA 102 ?_; refine pA 9 103 HT_ ?_; refine last_ (i := 10) (N := none) #[true, true, true, true, true, true, true, true, true, true, true] rfl rfl (one_of HT_.out (by kernel_rfl)) (by decide) (fun K hK => ?_); have hs108 : w106.cell? ⟨gb195, 0, none⟩ = some (.slice Ao99 y202.length co99) := (blk_cell BK195.out 0).trans rfl; have hfs108 := blk_frozen BK195.out 0; have hns108_0 := NB184_195.out; have hns108_1 := NB185_195.out; have hns108_2 := NB192_195.out; have hms108_0 := NB195_184.out; have hms108_1 := NB195_185.out; have hms108_2 := NB195_192.out; refine skip_ (w1 := ?_) (by rfl) rfl ?_ ?_
                                    rotate_left
                                    · go_simp
                                      rfl
                                    refine hK.out _ _ ?_; clear hK K; refine done_ (done_of HT_.out (by kernel_rfl)) ?_
                                    try go_wp2
                                    go_roundg kj66
                                    case measure => have := HJ9.out; have := HJ43.out; have := HK3.out; have := HJ66.out; omega
                                    case rel => exact ⟨(true), (wrap64 (x12_3 + 1)), (y207), (.slice Ao107 y207.length co107), fg, fg, H', ⟨by have := HJ9.out; have := HJ43.out; have := HK3.out; have := HJ66.out; omega⟩, ⟨Kd.R_mono (rf (Kd.R_types HO_193000.out BK195.out (by decide))) (fun _ hk => hk.1.2)⟩, ⟨Kd.R_mono (rf (Kd.R_types HO_193001.out BK195.out (by decide))) (fun _ hk => trivial)⟩, ⟨Kd.R_mono (rf (Kd.R_types HO209.out BK195.out (by decide))) (fun _ hk => hk.1)⟩, ⟨Kd.R_mono (rf (Kd.R_types HO_196001.out BK195.out (by decide))) (fun _ hk => trivial)⟩, ⟨ks BK184⟩, ⟨ks BK185⟩, ⟨ks BK192⟩, ⟨kp BK195⟩, ⟨bs HB⟩⟩
                                  · rw [if_neg c93] at H
                                    exact absurd H (by simp)
                              · rw [if_neg c81] at H
                                exact absurd H (by simp)
                            · rw [if_neg c80] at H
                              exact absurd H (by simp)
                          · rw [if_neg c79] at H
                            exact absurd H (by simp)
                        · replace c78 := Bool.eq_false_iff.mpr c78; subst c78
                          have H1 : (if 0 ≤ x12_3 then (if x12_3 < (l0_0.length : Int) then (if ((rd_T117 l0_0 x12_3).f0).toList = a1.toList then (spec_l10Move.l0 kj66 a1 (wrap64 (t196 + a2)) x11_3 (wrap64 (x12_3 + 1)) l0_0 l0_1 x196000_3 t189) else (if x196000_3.length < 5864062014805 then (spec_l10Move.l0 kj66 a1 (wrap64 (t196 + a2)) x11_3 (wrap64 (x12_3 + 1)) l0_0 l0_1 (x196000_3 ++ [(⟨(rd_T117 l0_0 x12_3).f0, (rd_T117 l0_0 x12_3).f1⟩ : S117)]) t189) else (none))) else (none)) else (none)) = some (r1, r2, r3) := by rw [if_neg (show ¬ (false = true) by decide)] at H; exact H
                          clear H; have H := H1; clear H1
                          by_cases c109 : 0 ≤ x12_3
                          · rw [if_pos c109] at H; have c109b0 : decide (0 ≤ x12_3) = true := decide_eq_true c109; clear c109
                            by_cases c110 : x12_3 < (l0_0.length : Int)
                            · rw [if_pos c110] at H; have c110b0 : decide (x12_3 < (l0_0.length : Int)) = true := decide_eq_true c110; clear c110
                              by_cases c111 : ((rd_T117 l0_0 x12_3).f0).toList = a1.toList
                              · rw [if_pos c111] at H; have c111b0 : (((rd_T117 l0_0 x12_3).f0).toList == a1.toList) = true := beq_iff_eq.mpr c111; have c111b1 : (((rd_T117 l0_0 x12_3).f0).toList != a1.toList) = false := bne_eq_false_iff_eq.mpr c111; clear c111; have H' := Aside0.mk H; clear H; have hnb112 := NB184_185.out; have hnc112 := NB185_184.out; have hnb113 := NB184_192.out; have hnc113 := NB192_184.out; have hnb114 := NB184_195.out; have hnc114 := NB195_184.out; obtain ⟨hcz115_0, hcz115_1, hfz115_0, hfz115_1⟩ := cf2 BK184; have p210 : 0 ≤ (x12_3 : Int) := oa; have q210 : x12_3 < (l0_0.length : Int) := oa; obtain ⟨ad210, e210, hx210_0, hx210_1⟩ := at_T117 HR0_0.out x12_3 p210 q210
                                cases e210
                                replace hx210_0 := cb HB hx210_0; replace hx210_1 := cb HB hx210_1; replace p210 := eq_true p210; replace q210 := eq_true q210
                                go_wp2
                                go_roundg kj66
                                case measure => have := HJ9.out; have := HJ43.out; have := HK3.out; have := HJ66.out; omega
                                case rel => exact ⟨(x11_3), (wrap64 (x12_3 + 1)), (x196000_3), (u196000), fg, fg, H', ⟨by have := HJ9.out; have := HJ43.out; have := HK3.out; have := HJ66.out; omega⟩, ⟨by (with_reducible repeat (first | apply Kd.R_alloc | apply Kd.R_drewN | apply Kd.R_drew)); exact HO_193000.out⟩, ⟨by (with_reducible repeat (first | apply Kd.R_alloc | apply Kd.R_drewN | apply Kd.R_drew)); exact HO_193001.out⟩, ⟨by (with_reducible repeat (first | apply Kd.R_alloc | apply Kd.R_drewN | apply Kd.R_drew)); exact HO_196000.out⟩, ⟨by (with_reducible repeat (first | apply Kd.R_alloc | apply Kd.R_drewN | apply Kd.R_drew)); exact HO_196001.out⟩, ⟨ks BK184⟩, ⟨ks BK185⟩, ⟨ks BK192⟩, ⟨ks BK195⟩, ⟨bs HB⟩⟩
                              · rw [if_neg c111] at H; have c111b0 : (((rd_T117 l0_0 x12_3).f0).toList == a1.toList) = false := beq_eq_false_iff_ne.mpr c111; have c111b1 : (((rd_T117 l0_0 x12_3).f0).toList != a1.toList) = true := bne_iff_ne.mpr c111
                                by_cases c116 : x196000_3.length < 5864062014805
                                · rw [if_pos c116] at H; have LMc116 := Aside0.mk c116; clear c116; obtain ⟨y212, hy212⟩ : ∃ y_ : List (S117), y_ = (x196000_3 ++ [(⟨(rd_T117 l0_0 x12_3).f0, (rd_T117 l0_0 x12_3).f1⟩ : S117)]) := ⟨_, rfl⟩
                                  replace H : (spec_l10Move.l0 kj66 a1 (wrap64 (t196 + a2)) x11_3 (wrap64 (x12_3 + 1)) l0_0 l0_1 y212 t189) = some (r1, r2, r3) := by first | (rw [hy212]; with_reducible exact H) | (have H2_ := (Option.bind_some _ _).symm.trans H; rw [hy212]; with_reducible exact H2_) | (have H2_ := (Option.bind_some _ _).symm.trans H; with_reducible exact H2_) | with_reducible exact H | (rw [hy212]; exact H) | exact H
                                  have Ny212 := Aside0.mk hy212; clear hy212; have H' := Aside0.mk H; clear H; have hnb117 := NB184_185.out; have hnc117 := NB185_184.out; have hnb118 := NB184_192.out; have hnc118 := NB192_184.out; have hnb119 := NB184_195.out; have hnc119 := NB195_184.out; obtain ⟨hcz120_0, hcz120_1, hfz120_0, hfz120_1⟩ := cf2 BK184; have p210 : 0 ≤ (x12_3 : Int) := oa; have q210 : x12_3 < (l0_0.length : Int) := oa; obtain ⟨ad210, e210, hx210_0, hx210_1⟩ := at_T117 HR0_0.out x12_3 p210 q210
                                  cases e210
                                  replace hx210_0 := cb HB hx210_0; replace hx210_1 := cb HB hx210_1; replace p210 := eq_true p210; replace q210 := eq_true q210
                                  try go_wp2
                                  replace HO_193000 := Aside0.mk (Kd.R_drew HO_193000.out); replace HO_193001 := Aside0.mk (Kd.R_drew HO_193001.out); replace HO_196000 := Aside0.mk (Kd.R_drew HO_196000.out); replace HO_196001 := Aside0.mk (Kd.R_drew HO_196001.out); replace BK184 := Aside0.mk (blk_drew BK184.out); replace BK185 := Aside0.mk (blk_drew BK185.out); replace BK192 := Aside0.mk (blk_drew BK192.out); replace BK195 := Aside0.mk (blk_drew BK195.out); replace HB := Aside0.mk (below_drew1 HB.out); have p211 : 0 ≤ (x12_3 : Int) := oa; have q211 : x12_3 < (l0_0.length : Int) := oa; obtain ⟨ad211, e211, hx211_0, hx211_1⟩ := at_T117 HR0_0.out x12_3 p211 q211; have hw211_1 := hx211_1; have hw211_0 := hx211_0; obtain rfl : ad210 = ad211 := (by injection e211); replace hx211_0 := cb HB hx211_0; replace hx211_1 := cb HB hx211_1; replace p211 := eq_true p211; replace q211 := eq_true q211; refine start_ (n := 11) (S := fun w' => w'.cell? ⟨gb195, 0, none⟩ = some (u196000) ∧ w'.cell? ⟨gb195, 1, none⟩ = some (.slice Ao16 t189.length co16) ∧ w'.cell? ⟨gb184, 0, none⟩ = some (.slice (some ad210) l0_0.length c0_0) ∧ w'.cell? ⟨gb184, 1, none⟩ = some (.slice A0_1 l0_1.length c0_1) ∧ w'.cell? (ad210.add ((x12_3).toNat * 2)) = some (.string ((rd_T117 l0_0 x12_3).f0)) ∧ w'.cell? ⟨(ad210.add ((x12_3).toNat * 2)).block, (ad210.add ((x12_3).toNat * 2)).off + 1, none⟩ = some (.int .i64 ((rd_T117 l0_0 x12_3).f1))) (ds := [10]) #[false, false, false, false, false, false, false, false, false, false, false] (by kernel_rfl) rfl rfl ⟨(blk_cell BK195.out 0).trans rfl, (blk_cell BK195.out 1).trans rfl, (blk_cell BK184.out 0).trans rfl, (blk_cell BK184.out 1).trans rfl, ((cb HB hw211_0).trans rfl), ((cb HB hw211_1).trans rfl)⟩ (fun hHeld => ?_); refine with_tabW spec_l10Move.tab16 spec_l10Move.bits16 (fun HT_ HW_ => ?_)
                                  generalize wc.drew = w121 at HO_193000 HO_193001 HO_196000 HO_196001 BK184 BK185 BK192 BK195 HB hx211_0 hx211_1 hHeld ⊢
                                  refine pA 0 94 HT_ ?_; refine pA 2 96 HT_ ?_; refine pA 4 98 HT_ ?_; refine tA 1 95 HT_ HW_ hHeld ?_; refine tA 3 97 HT_ HW_ hHeld ?_; refine pA 5 99 HT_ ?_; refine tA 6 100 HT_ HW_ hHeld ?_; refine oA 7 101 HT_ (fun K hK => ?_); refine value_ (w1 := ?_) (v := ?_) (by rfl) rfl ?_ ?_
                                  rotate_left 2
                                  · go_simp
                                    constructor
                                    · rfl
                                    · rfl
                                  refine hK.out _ _ ⟨(blk_cell (blk_alloc BK195.out _) 0).trans rfl, (blk_cell (blk_alloc BK195.out _) 1).trans rfl, (blk_cell (blk_alloc BK184.out _) 0).trans rfl, (blk_cell (blk_alloc BK184.out _) 1).trans rfl, (World.cell?_alloc_lt _ _ _ (World.block_lt_of_cell? _ _ (((cb HB hw211_0).trans rfl)))).trans (((cb HB hw211_0).trans rfl)), (World.cell?_alloc_lt _ _ _ (World.block_lt_of_cell? _ _ (((cb HB hw211_1).trans rfl)))).trans (((cb HB hw211_1).trans rfl))⟩ (fun hHeld => ?_); clear hK K; refine nA 101 ?_; refine oA 8 102 HT_ (fun K hK => ?_); refine Kd.R_append_step k117 (w0 := w) w.heap.size (by rfl) (.tmp 95) (.tmp 101) 44 117 (.agg #[(.string ⟨#[]⟩), (.int .i64 0)]) 24 rfl Try.underlying44 info117 rfl (by decide) (by omega) u196000 x196000_3 (⟨(rd_T117 l0_0 x12_3).f0, (rd_T117 l0_0 x12_3).f1⟩ : S117) [.string ((rd_T117 l0_0 x12_3).f0), .int .i64 ((rd_T117 l0_0 x12_3).f1)] (fun k_ => some k_ ≠ (.slice Ao12 t186.length co12 : Value).ownBlock) (fun _ => False) rfl rfl ?aP (fun _ hk => hk.elim) ?aF ?aO ?aB ?aS ?aL ?_
                                  (case aP => exact k117_mkM _ _ _ (⟨(rd_T117 l0_0 x12_3).f0, (rd_T117 l0_0 x12_3).f1⟩ : S117))
                                  (case aB => exact (bs HB))
                                  (case aF => exact (fun k_ hk => Kd.fresh' (Kd.R_lt (rs HO_193000)) k_ hk))
                                  (case aO => exact (rs HO_196000))
                                  (case aS => exact (below_size (bs HB)))
                                  (case aL => have := LMc116.out; omega)
                                  intro v213 w122 ho hb hg hat
                                  rw [← Ny212.out] at ho
                                  have n0_ := Aside0.mk (Kd.R_after (ok := (fun _ => True)) (by (with_reducible repeat (first | apply Kd.R_alloc | apply Kd.R_drewN | apply Kd.R_drew)); exact Kd.R_mono HO_193000.out (fun _ hk => ⟨trivial, hk⟩)) hg hat); have n1_ := Aside0.mk (Kd.R_over' (rs HO_193001) (Kd.R_typed (rs HO_196000)) (by decide) hg); have n2_ := Aside0.mk (Kd.R_over' (rs HO_196001) (Kd.R_typed (rs HO_196000)) (by decide) hg); have n3_ := Aside0.mk (blk_grown (ks BK184) hg (Kd.R_ne HO_196000.out BK184.out (by decide))); have n4_ := Aside0.mk (blk_grown (ks BK185) hg (Kd.R_ne HO_196000.out BK185.out (by decide))); have n5_ := Aside0.mk (blk_grown (ks BK192) hg (Kd.R_ne HO_196000.out BK192.out (by decide))); have n6_ := Aside0.mk (blk_grown (ks BK195) hg (Kd.R_ne HO_196000.out BK195.out (by decide))); have n7_ := Aside0.mk (hb); have n8_ := Aside0.mk (ho); clear HO_193000; clear HO_193001; clear HO_196001; clear BK184; clear BK185; clear BK192; clear BK195; clear HB; clear HO_196000; have HO_193000 := n0_; have HO_193001 := n1_; have HO_196001 := n2_; have BK184 := n3_; have BK185 := n4_; have BK192 := n5_; have BK195 := n6_; have HB := n7_; have HO214 := n8_; clear n0_ n1_ n2_ n3_ n4_ n5_ n6_ n7_ n8_; clear ho hb hg hat; obtain ⟨Ao123, co123, eo123⟩ := Kd.R_slice HO214.out
                                  (first | subst eo123 | (injection eo123 with f1_ f2_ f3_; have f4_ := f1_.symm; have f5_ := f3_.symm; clear f1_ f2_ f3_; subst f4_; subst f5_))
                                  refine hK.out _ _ ⟨(blk_cell BK195.out 0).trans rfl, (blk_cell BK195.out 1).trans rfl, (blk_cell BK184.out 0).trans rfl, (blk_cell BK184.out 1).trans rfl, ((cb HB hw211_0).trans rfl), ((cb HB hw211_1).trans rfl)⟩ (fun hHeld => ?_); clear hK K; refine nA 102 ?_; refine pA 9 103 HT_ ?_; refine last_ (i := 10) (N := none) #[true, true, true, true, true, true, true, true, true, true, true] rfl rfl (one_of HT_.out (by kernel_rfl)) (by decide) (fun K hK => ?_); have hs124 : w122.cell? ⟨gb195, 0, none⟩ = some (u196000) := (blk_cell BK195.out 0).trans rfl; have hfs124 := blk_frozen BK195.out 0; have hns124_0 := NB184_195.out; have hns124_1 := NB185_195.out; have hns124_2 := NB192_195.out; have hms124_0 := NB195_184.out; have hms124_1 := NB195_185.out; have hms124_2 := NB195_192.out; refine skip_ (w1 := ?_) (by rfl) rfl ?_ ?_
                                  rotate_left
                                  · go_simp
                                    rfl
                                  refine hK.out _ _ ?_; clear hK K; refine done_ (done_of HT_.out (by kernel_rfl)) ?_
                                  try go_wp2
                                  go_roundg kj66
                                  case measure => have := HJ9.out; have := HJ43.out; have := HK3.out; have := HJ66.out; omega
                                  case rel => exact ⟨(x11_3), (wrap64 (x12_3 + 1)), (y212), (.slice Ao123 y212.length co123), fg, fg, H', ⟨by have := HJ9.out; have := HJ43.out; have := HK3.out; have := HJ66.out; omega⟩, ⟨Kd.R_mono (rf (Kd.R_types HO_193000.out BK195.out (by decide))) (fun _ hk => hk.1.2)⟩, ⟨Kd.R_mono (rf (Kd.R_types HO_193001.out BK195.out (by decide))) (fun _ hk => trivial)⟩, ⟨Kd.R_mono (rf (Kd.R_types HO214.out BK195.out (by decide))) (fun _ hk => hk.1)⟩, ⟨Kd.R_mono (rf (Kd.R_types HO_196001.out BK195.out (by decide))) (fun _ hk => trivial)⟩, ⟨ks BK184⟩, ⟨ks BK185⟩, ⟨ks BK192⟩, ⟨kp BK195⟩, ⟨bs HB⟩⟩
                                · rw [if_neg c116] at H
                                  exact absurd H (by simp)
                            · rw [if_neg c110] at H
                              exact absurd H (by simp)
                          · rw [if_neg c109] at H
                            exact absurd H (by simp)
                  · rw [if_neg c66] at H; have c66b0 : decide (x12_3 < (l0_0.length : Int)) = false := decide_eq_false c66; clear c66
                    by_cases c125 : x11_3 = true
                    · subst c125
                      have H1 : (some (x196000_3, t189, true)) = some (r1, r2, r3) := by rw [if_pos rfl] at H; exact H
                      clear H; have H := H1; clear H1; simp only [Option.some.injEq, Prod.mk.injEq] at H; obtain ⟨rfl, rfl, rfl⟩ := H; have hnb126 := NB184_185.out; have hnc126 := NB185_184.out; have hnb127 := NB184_192.out; have hnc127 := NB192_184.out; have hnb128 := NB184_195.out; have hnc128 := NB195_184.out; obtain ⟨hcz129_0, hcz129_1, hfz129_0, hfz129_1⟩ := cf2 BK184; have hnb130 := NB195_185.out; have hnc130 := NB185_195.out; have hnb131 := NB195_192.out; have hnc131 := NB192_195.out; obtain ⟨hcz132_0, hcz132_1, hfz132_0, hfz132_1⟩ := cf2 BK195; obtain ⟨Ao133, co133, eo133⟩ := Kd.R_slice HO_196000.out; subst eo133; have hnb134 := NB185_192.out; have hnc134 := NB192_185.out; obtain ⟨hcz135_0, hcz135_1, hfz135_0, hfz135_1⟩ := cf2 BK185
                      go_wp2
                      refine bodyPost_ret (results_ct rfl _ _ gb185 47 #[.slice Ao133 x196000_3.length co133, .slice Ao16 t189.length co16] (0, 0) _ rfl (kp BK185) Try.underlying47 rfl (by kernel_rfl)) rfl ?_
                      exact ⟨_, _, ff, Kd.R_mono (rf (Kd.R_types HO_196000.out BK185.out (by decide))) (fun _ hk => trivial), Kd.R_mono (rf (Kd.R_types HO_196001.out BK185.out (by decide))) (fun _ hk => trivial), bs HB⟩
                    · replace c125 := Bool.eq_false_iff.mpr c125; subst c125
                      have H1 : (if x196000_3.length < 5864062014805 then (some ((x196000_3 ++ [(⟨a1, (wrap64 (t196 + a2))⟩ : S117)]), t189, true)) else (none)) = some (r1, r2, r3) := by rw [if_neg (show ¬ (false = true) by decide)] at H; exact H
                      clear H; have H := H1; clear H1
                      by_cases c136 : x196000_3.length < 5864062014805
                      · rw [if_pos c136] at H; have LMc136 := Aside0.mk c136; clear c136; obtain ⟨y198, hy198⟩ : ∃ y_ : List (S117), y_ = (x196000_3 ++ [(⟨a1, (wrap64 (t196 + a2))⟩ : S117)]) := ⟨_, rfl⟩
                        replace H : (some (y198, t189, true)) = some (r1, r2, r3) := by first | (rw [hy198]; with_reducible exact H) | (have H2_ := (Option.bind_some _ _).symm.trans H; rw [hy198]; with_reducible exact H2_) | (have H2_ := (Option.bind_some _ _).symm.trans H; with_reducible exact H2_) | with_reducible exact H | (rw [hy198]; exact H) | exact H
                        have Ny198 := Aside0.mk hy198; clear hy198; simp only [Option.some.injEq, Prod.mk.injEq] at H; obtain ⟨rfl, rfl, rfl⟩ := H; have hnb137 := NB184_185.out; have hnc137 := NB185_184.out; have hnb138 := NB184_192.out; have hnc138 := NB192_184.out; have hnb139 := NB184_195.out; have hnc139 := NB195_184.out; obtain ⟨hcz140_0, hcz140_1, hfz140_0, hfz140_1⟩ := cf2 BK184; have hnb141 := NB195_185.out; have hnc141 := NB185_195.out; have hnb142 := NB195_192.out; have hnc142 := NB192_195.out; obtain ⟨hcz143_0, hcz143_1, hfz143_0, hfz143_1⟩ := cf2 BK195
                        go_wp2_with (first | ((with_reducible refine gate_builtin (b := .append) (xs := #[.tmp 107, .tmp 111]) rfl ?_); (try (refine gate_guard (by rfl) ?_; dsimp only)); at_builtin; refine Kd.R_append k117 (w0 := w) w.heap.size rfl (.tmp 107) (.tmp 111) 44 117 (.agg #[(.string ⟨#[]⟩), (.int .i64 0)]) 24 rfl Try.underlying44 info117 rfl (by decide) (by omega) u196000 x196000_3 (⟨a1, (wrap64 (t196 + a2))⟩ : S117) [.string a1, .int .i64 (wrap64 (t196 + a2))] (fun k_ => some k_ ≠ (.slice Ao12 t186.length co12 : Value).ownBlock) (fun _ => False) rfl rfl ?aP (fun _ hk => hk.elim) ?aF ?aO ?aB ?aS ?aL ?_; (case aP => exact k117_mkM _ _ _ (⟨a1, (wrap64 (t196 + a2))⟩ : S117)); (case aB => exact (bs HB)); (case aF => exact (fun k_ hk => Kd.fresh' (Kd.R_lt (rs HO_193000)) k_ hk)); (case aO => exact (rs HO_196000)); (case aS => exact (below_size (bs HB))); (case aL => have := LMc136.out; omega); intro v199 w144 ho hb hg hat; rw [← Ny198.out] at ho; have n0_ := Aside0.mk (Kd.R_after (ok := (fun _ => True)) (by (with_reducible repeat (first | apply Kd.R_alloc | apply Kd.R_drewN | apply Kd.R_drew)); exact Kd.R_mono HO_193000.out (fun _ hk => ⟨trivial, hk⟩)) hg hat); have n1_ := Aside0.mk (Kd.R_over' (rs HO_193001) (Kd.R_typed (rs HO_196000)) (by decide) hg); have n2_ := Aside0.mk (Kd.R_over' (rs HO_196001) (Kd.R_typed (rs HO_196000)) (by decide) hg); have n3_ := Aside0.mk (blk_grown (ks BK184) hg (Kd.R_ne HO_196000.out BK184.out (by decide))); have n4_ := Aside0.mk (blk_grown (ks BK185) hg (Kd.R_ne HO_196000.out BK185.out (by decide))); have n5_ := Aside0.mk (blk_grown (ks BK192) hg (Kd.R_ne HO_196000.out BK192.out (by decide))); have n6_ := Aside0.mk (blk_grown (ks BK195) hg (Kd.R_ne HO_196000.out BK195.out (by decide))); have n7_ := Aside0.mk (hb); have n8_ := Aside0.mk (ho); clear HO_193000; clear HO_193001; clear HO_196001; clear BK184; clear BK185; clear BK192; clear BK195; clear HB; clear HO_196000; have HO_193000 := n0_; have HO_193001 := n1_; have HO_196001 := n2_; have BK184 := n3_; have BK185 := n4_; have BK192 := n5_; have BK195 := n6_; have HB := n7_; have HO200 := n8_; clear n0_ n1_ n2_ n3_ n4_ n5_ n6_ n7_ n8_; clear ho hb hg hat; obtain ⟨Ao145, co145, eo145⟩ := Kd.R_slice HO200.out; subst eo145; obtain ⟨hcz146_0, hcz146_1, hfz146_0, hfz146_1⟩ := cf2 BK195; have hnb147 := NB185_192.out; have hnc147 := NB192_185.out; obtain ⟨hcz148_0, hcz148_1, hfz148_0, hfz148_1⟩ := cf2 BK185))
                        refine bodyPost_ret (results_ct rfl _ _ gb185 47 #[.slice Ao145 y198.length co145, .slice Ao16 t189.length co16] (0, 0) _ rfl (kp BK185) Try.underlying47 rfl (by kernel_rfl)) rfl ?_
                        exact ⟨_, _, ff, by (with_reducible repeat (first | apply Kd.R_alloc | apply Kd.R_drewN | apply Kd.R_drew)); exact Kd.R_mono (Kd.R_far (p := ⟨gb185, 1, none⟩) (Kd.R_far (p := ⟨gb185, 0, none⟩) (Kd.R_far (p := ⟨gb195, 0, none⟩) (Kd.R_types (Kd.R_types HO200.out BK195.out (by decide)) BK185.out (by decide)) (fun _ hk => hk.1.2) (.slice Ao145 y198.length co145)) (fun _ hk => hk.2) (.slice Ao145 y198.length co145)) (fun _ hk => hk.2) (.slice Ao16 t189.length co16)) (fun _ hk => trivial), by (with_reducible repeat (first | apply Kd.R_alloc | apply Kd.R_drewN | apply Kd.R_drew)); exact Kd.R_mono (Kd.R_far (p := ⟨gb185, 1, none⟩) (Kd.R_far (p := ⟨gb185, 0, none⟩) (Kd.R_far (p := ⟨gb195, 0, none⟩) (Kd.R_types (Kd.R_types HO_196001.out BK195.out (by decide)) BK185.out (by decide)) (fun _ hk => hk.1.2) (.slice Ao145 y198.length co145)) (fun _ hk => hk.2) (.slice Ao145 y198.length co145)) (fun _ hk => hk.2) (.slice Ao16 t189.length co16)) (fun _ hk => trivial), bs HB⟩
                      · rw [if_neg c136] at H
                        exact absurd H (by simp)
end Go.Proofs.Ytefmkmhjbfpelaa.QM
