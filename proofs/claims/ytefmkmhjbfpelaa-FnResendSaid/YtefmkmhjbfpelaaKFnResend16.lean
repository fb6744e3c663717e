-- Merged by a program of this session (wip/tool/pack.py) out of its own texts for this claim.
import Derived.Test.YtefmkmhjbfpelaaKFnResend0
import Derived.Test.YtefmkmhjbfpelaaKFnResend1
import Derived.Test.YtefmkmhjbfpelaaKFnResend2
import Derived.Test.YtefmkmhjbfpelaaKFnResend3
import Derived.Test.YtefmkmhjbfpelaaKFnResend5
import Derived.Test.YtefmkmhjbfpelaaKFnResend7
import Derived.Test.YtefmkmhjbfpelaaKFnResend8
import Derived.Test.YtefmkmhjbfpelaaKFnResend9
import Derived.Test.YtefmkmhjbfpelaaKFnResend11
import Derived.Test.YtefmkmhjbfpelaaKFnResend12
import Derived.Test.YtefmkmhjbfpelaaKFnResend15
namespace Go.Proofs.Ytefmkmhjbfpelaa.QO
open Go.RowKit Go.Proofs.YtefmkmhjbfpelaaW.PrintWords Go.Proofs.YtefmkmhjbfpelaaW.PrintLast Go.Proofs.YtefmkmhjbfpelaaW.PrintMore
attribute [local go_sem] max2_int min2_int max_two min_two max_three min_three max_four min_four   -- for this text's walks alone
set_option linter.unusedVariables false
set_option linter.unusedSimpArgs false
def laws_FnResend.T11 : Bool × List (List Nat × List Nat) := (true, [([], []), ([], []), ([0, 1], [0, 1]), ([2], [2]), ([], []), ([4], [4]), ([3, 5], [3, 5]), ([6], [6]), ([7], [7]), ([8, 7], [7, 8]), ([9, 7, 7], [7, 9]), ([10], [10]), ([10], [10]), ([11, 12, 10], [10, 11, 12]), ([13, 10], [10, 13]), ([10], [10]), ([10], [10]), ([16, 10], [10, 16]), ([15, 17, 10], [10, 15, 17]), ([18, 10], [10, 18]), ([14, 19, 10], [10, 14, 19]), ([10], [10]), ([21, 10], [10, 21]), ([10], [10]), ([22, 23, 10], [10, 22, 23]), ([24, 10], [10, 24]), ([20, 25, 10], [10, 20, 25]), ([10, 26, 7], [7, 10, 26]), ([7, 27], [7, 27])])
def laws_FnResend.B11 : List Nat := [0, 0, 3, 7, 0, 16, 63, 127, 255, 511, 1023, 2047, 2047, 8191, 16383, 2047, 2047, 67583, 231423, 493567, 1048575, 2047, 2099199, 2047, 14682111, 31459327, 67108863, 134217727, 268435455]
theorem laws_FnResend.tab11 : rtab .any (opsOf Try.f3 11) = laws_FnResend.T11 := by kernel_rfl
theorem laws_FnResend.bits11 : waitsOk laws_FnResend.T11.2 laws_FnResend.B11 = true := by kernel_rfl
set_option maxHeartbeats 8000000 in
set_option maxRecDepth 100000 in
theorem laws_FnResend.calls (k : Nat) (A0 : Option Addr) (c0 : Nat) (l0 : List Int) (A1 : Option Addr) (c1 : Nat) (l1 : List Int) (r : Bool) (w : World) (hr0 : Kd.C (Kd.int .u8) w A0 l0.length l0) (hc0 : l0.length ≤ c0) (hr1 : Kd.C (Kd.int .u8) w A1 l1.length l1) (hc1 : l1.length ≤ c1) (h : laws_FnResend.f k l0 l1 = some r) :
    Calls Try.prog 3 #[.slice A0 l0.length c0, .slice A1 l1.length c1] w fun e w' => e = .returned (.bool r) ∧ Below w.heap.size w w' := by
  have hu24 := Try.underlying24; have hu34 := Try.underlying34
  have hfd34_3 : ∀ (v0 v1 v2 v3 : Value) (W : World), (Instr.field 34 (.agg #[v0, v1, v2, v3]) 3).run Try.prog W = .ok v3 W := fun _ _ _ _ _ => by kernel_rfl
  have HR0 := Aside0.mk hr0; have HC0 := Aside0.mk hc0; clear hr0 hc0; have HR1 := Aside0.mk hr1; have HC1 := Aside0.mk hc1; clear hr1 hc1; have HB := Aside0.mk (Below.refl w.heap.size w); have H : (if (l0.length : Int) > 1048576 then (laws_FnResend.j0 k l0 l1 true) else (laws_FnResend.j0 k l0 l1 (decide ((l1.length : Int) > 1048576)))) = some r := h; clear h; have HC3 := Aside0.mk H; clear H
  go_enter Try.func3, Try.ntmps3
  go_upto_region 1 with (fail)
  go_cut [21] (fun v21 wc => ∃ (kq : Nat) (x21_2 : Bool), v21 = .bool x21_2 ∧ Aside0 (laws_FnResend.j0 kq l0 l1 x21_2 = some r) ∧ Aside0 (kq ≤ k) ∧ Aside0 (Below w.heap.size w wc))
  case first =>
    have H := HC3.out; clear HC3
    by_cases c4 : (l0.length : Int) > 1048576
    · rw [if_pos c4] at H; have c4b0 : decide (1048576 < (l0.length : Int)) = true := decide_eq_true c4; have c4b1 : decide (1048576 < l0.length) = true := decide_eq_true (by omega); clear c4
      (first | rw [c4b0] | (simp only [i64_w, i32_w]; rw [c4b0]) | skip)
      have H' := Aside0.mk H; clear H
      go_wp2
      go_meet
      case rel => exact ⟨_, (true), fg, H', ⟨fl⟩, ⟨bs HB⟩⟩
    · rw [if_neg c4] at H; have c4b0 : decide (1048576 < (l0.length : Int)) = false := decide_eq_false c4; have c4b1 : decide (1048576 < l0.length) = false := decide_eq_false (by omega); clear c4
      (first | rw [c4b0] | (simp only [i64_w, i32_w]; rw [c4b0]) | skip)
      have H' := Aside0.mk H; clear H
      go_wp2
      go_meet
      case rel => exact ⟨_, (decide ((l1.length : Int) > 1048576)), fg, H', ⟨fl⟩, ⟨bs HB⟩⟩
  case rest =>
    clear HC3
    try clear c1
    try clear p2
    try clear c3
    try clear c4
    try clear c4b0
    try clear c4b1
    obtain ⟨kq, x21_2, rfl, HA, HJ2, HB⟩ := hcut
    cases kq with
    | zero => exact absurd HA.out (by simp [laws_FnResend.j0])
    | succ kj2 =>
      have H := HA.out; clear HA; simp only [laws_FnResend.j0] at H
      by_cases c5 : x21_2 = true
      · subst c5
        have H1 : (some true) = some r := by rw [if_pos rfl] at H; exact H
        clear H; have H := H1; clear H1; obtain rfl := Option.some.inj H
        go_wp2
        go_ret
        exact ⟨ff, bs HB⟩
      · replace c5 := Bool.eq_false_iff.mpr c5; subst c5
        have H1 : ((spec_DrawOutboxRun.f kj2 l0).bind fun bt906 => ((some (([] : List Int) : List Int)).bind fun y915 => (if y915.length + bt906.2.2.2.2.2.length < 17592186044416 then ((impl_OutboxRun.f kj2 bt906.1 bt906.2.1 bt906.2.2.1 bt906.2.2.2.1 bt906.2.2.2.2.1 (y915 ++ bt906.2.2.2.2.2)).bind fun t921 => ((spec_OutboxRun.f kj2 bt906.1 bt906.2.1 bt906.2.2.1 bt906.2.2.2.1 bt906.2.2.2.2.1 bt906.2.2.2.2.2).bind fun t924 => (if (t921.length : Int) = (t924.length : Int) then (laws_FnResend.j1 kj2 l1 t921 (decide ((t921.length : Int) > 5)) bt906.1 bt906.2.1 bt906.2.2.1 bt906.2.2.2.1 bt906.2.2.2.2.1) else (laws_FnResend.j1 kj2 l1 t921 true bt906.1 bt906.2.1 bt906.2.2.1 bt906.2.2.2.1 bt906.2.2.2.2.1)))) else (none)))) = some r := by rw [if_neg (show ¬ (false = true) by decide)] at H; exact H
        clear H; have H := H1; clear H1; replace H := Option.bind_eq_some_iff.mp H; obtain ⟨⟨t906, t907, t908, t909, t910, t911⟩, A60, H⟩ := H; replace H : ((some (([] : List Int) : List Int)).bind fun y915 => (if y915.length + t911.length < 17592186044416 then ((impl_OutboxRun.f kj2 t906 t907 t908 t909 t910 (y915 ++ t911)).bind fun t921 => ((spec_OutboxRun.f kj2 t906 t907 t908 t909 t910 t911).bind fun t924 => (if (t921.length : Int) = (t924.length : Int) then (laws_FnResend.j1 kj2 l1 t921 (decide ((t921.length : Int) > 5)) t906 t907 t908 t909 t910) else (laws_FnResend.j1 kj2 l1 t921 true t906 t907 t908 t909 t910)))) else (none))) = some r := H; have A6 := Aside0.mk A60; clear A60
        try go_wp2_with (fail)
        go_at_call 15; (with_reducible refine (spec_DrawOutboxRun.calls kj2 _ _ l0 t906 t907 t908 t909 t910 t911 _ (Kd.C_below HR0.out (bs HB)) HC0.out A6.out).mono ?_); rintro e w7 ⟨v912, rfl, ho0, hb⟩; have HO913 := Aside0.mk (Kd.R_lower ho0 (below_size (bs HB))); replace HB := Aside0.mk (below_step (bs HB) hb); (try clear hb); (try clear hb2); (try clear hk); (try clear hi); (try clear ho0); obtain ⟨y915, hy915⟩ : ∃ y_ : List Int, y_ = (([] : List Int)) := ⟨_, rfl⟩
        replace H : (if y915.length + t911.length < 17592186044416 then ((impl_OutboxRun.f kj2 t906 t907 t908 t909 t910 (y915 ++ t911)).bind fun t921 => ((spec_OutboxRun.f kj2 t906 t907 t908 t909 t910 t911).bind fun t924 => (if (t921.length : Int) = (t924.length : Int) then (laws_FnResend.j1 kj2 l1 t921 (decide ((t921.length : Int) > 5)) t906 t907 t908 t909 t910) else (laws_FnResend.j1 kj2 l1 t921 true t906 t907 t908 t909 t910)))) else (none)) = some r := by first | (rw [hy915]; with_reducible exact H) | (have H2_ := (Option.bind_some _ _).symm.trans H; rw [hy915]; with_reducible exact H2_) | (have H2_ := (Option.bind_some _ _).symm.trans H; with_reducible exact H2_) | with_reducible exact H | (rw [hy915]; exact H) | exact H
        have Ny915 := Aside0.mk hy915; clear hy915
        by_cases c8 : y915.length + t911.length < 17592186044416
        · rw [if_pos c8] at H; have LMc8 := Aside0.mk c8; clear c8; obtain ⟨y918, hy918⟩ : ∃ y_ : List Int, y_ = (y915 ++ t911) := ⟨_, rfl⟩
          replace H : ((impl_OutboxRun.f kj2 t906 t907 t908 t909 t910 y918).bind fun t921 => ((spec_OutboxRun.f kj2 t906 t907 t908 t909 t910 t911).bind fun t924 => (if (t921.length : Int) = (t924.length : Int) then (laws_FnResend.j1 kj2 l1 t921 (decide ((t921.length : Int) > 5)) t906 t907 t908 t909 t910) else (laws_FnResend.j1 kj2 l1 t921 true t906 t907 t908 t909 t910)))) = some r := by first | (rw [hy918]; with_reducible exact H) | (have H2_ := (Option.bind_some _ _).symm.trans H; rw [hy918]; with_reducible exact H2_) | (have H2_ := (Option.bind_some _ _).symm.trans H; with_reducible exact H2_) | with_reducible exact H | (rw [hy918]; exact H) | exact H
          have Ny918 := Aside0.mk hy918; clear hy918; replace H := Option.bind_eq_some_iff.mp H; obtain ⟨t921, A90, H⟩ := H; replace H : ((spec_OutboxRun.f kj2 t906 t907 t908 t909 t910 t911).bind fun t924 => (if (t921.length : Int) = (t924.length : Int) then (laws_FnResend.j1 kj2 l1 t921 (decide ((t921.length : Int) > 5)) t906 t907 t908 t909 t910) else (laws_FnResend.j1 kj2 l1 t921 true t906 t907 t908 t909 t910))) = some r := H; have A9 := Aside0.mk A90; clear A90; replace H := Option.bind_eq_some_iff.mp H; obtain ⟨t924, A100, H⟩ := H; replace H : (if (t921.length : Int) = (t924.length : Int) then (laws_FnResend.j1 kj2 l1 t921 (decide ((t921.length : Int) > 5)) t906 t907 t908 t909 t910) else (laws_FnResend.j1 kj2 l1 t921 true t906 t907 t908 t909 t910)) = some r := H; have A10 := Aside0.mk A100; clear A100
          try go_wp2_with (first | ((with_reducible refine gate_dst (N := 5) rfl ?_); (try (refine gate_guard (by rfl) ?_; dsimp only)); refine bx 5 (cs := #[.string (⟨#[]⟩ : ByteArray), .int .i64 0, .string (⟨#[]⟩ : ByteArray), .int .i64 0, .int .i64 0]) (t := 24) ?_; intro gb914 hg w11 hbox hb; replace HO913 := Aside0.mk (Kd.R_below (rs HO913) hb); have BK914 := Aside0.mk (hbox); have GW914 := Aside0.mk ((gs hg (bs HB))); have GE914 := Aside0.mk ((gs hg (bs HB))); replace HB := Aside0.mk (below_step (bs HB) hb); clear hb hbox hg; obtain ⟨hcz12_0, hcz12_1, hcz12_2, hcz12_3, hcz12_4, hfz12_0, hfz12_1, hfz12_2, hfz12_3, hfz12_4⟩ := cf5 BK914))
          have n0_ : Aside0 (Kd.R (Kd.int .i64) 2 (((((w11.setCell ⟨gb914, 0, none⟩ (.string t906)).setCell ⟨gb914, 1, none⟩ (.int .i64 t907)).setCell ⟨gb914, 2, none⟩ (.string t908)).setCell ⟨gb914, 3, none⟩ (.int .i64 t909)).setCell ⟨gb914, 4, none⟩ (.int .i64 t910)) w.heap.size (fun _ => True) v912 t911) := ⟨Kd.R_mono (rf (Kd.R_types HO913.out BK914.out (by decide))) (fun _ hk => trivial)⟩; have n1_ : Aside0 ((((((w11.setCell ⟨gb914, 0, none⟩ (.string t906)).setCell ⟨gb914, 1, none⟩ (.int .i64 t907)).setCell ⟨gb914, 2, none⟩ (.string t908)).setCell ⟨gb914, 3, none⟩ (.int .i64 t909)).setCell ⟨gb914, 4, none⟩ (.int .i64 t910)).heap[gb914]? = some (.cells #[.string t906, .int .i64 t907, .string t908, .int .i64 t909, .int .i64 t910] 24 (0, 0))) := ⟨kp BK914⟩; have n2_ : Aside0 (Below w.heap.size w (((((w11.setCell ⟨gb914, 0, none⟩ (.string t906)).setCell ⟨gb914, 1, none⟩ (.int .i64 t907)).setCell ⟨gb914, 2, none⟩ (.string t908)).setCell ⟨gb914, 3, none⟩ (.int .i64 t909)).setCell ⟨gb914, 4, none⟩ (.int .i64 t910))) := ⟨bs HB⟩; (try clear HO913); (try clear BK914); (try clear HB)
          generalize (((((w11.setCell ⟨gb914, 0, none⟩ (.string t906)).setCell ⟨gb914, 1, none⟩ (.int .i64 t907)).setCell ⟨gb914, 2, none⟩ (.string t908)).setCell ⟨gb914, 3, none⟩ (.int .i64 t909)).setCell ⟨gb914, 4, none⟩ (.int .i64 t910)) = w13 at n0_ n1_ n2_ ⊢
          have HO913 := n0_; have BK914 := n1_; have HB := n2_; clear n0_ n1_ n2_; replace HO913 := Aside0.mk (Kd.R_drew HO913.out); replace BK914 := Aside0.mk (blk_drew BK914.out); replace HB := Aside0.mk (below_drew1 HB.out); refine start_ (n := 6) (S := fun w' => w'.cell? ⟨gb914, 0, none⟩ = some (.string t906) ∧ w'.cell? ⟨gb914, 1, none⟩ = some (.int .i64 t907) ∧ w'.cell? ⟨gb914, 2, none⟩ = some (.string t908) ∧ w'.cell? ⟨gb914, 3, none⟩ = some (.int .i64 t909) ∧ w'.cell? ⟨gb914, 4, none⟩ = some (.int .i64 t910)) (ds := []) #[false, false, false, false, false, false] (by kernel_rfl) rfl rfl ⟨(blk_cell BK914.out 0).trans rfl, (blk_cell BK914.out 1).trans rfl, (blk_cell BK914.out 2).trans rfl, (blk_cell BK914.out 3).trans rfl, (blk_cell BK914.out 4).trans rfl⟩ (fun hHeld => ?_)
          generalize w13.drew = w14 at HO913 BK914 HB hHeld ⊢
          refine pure_ (i := 2) (N := some 29) (v := ?_) (a' := ?_) #[false, false, true, false, false, false] rfl rfl (by kernel_rfl) (fun _ _ _ h => h) (Or.inl ⟨by rfl, ?_⟩) ?_ ?_
          rotate_left
          · intro w'
            go_simp
            (with_reducible rfl)
          rotate_left
          · simp only [Act.put, List.setIfInBounds_toArray, List.set_cons_zero, List.set_cons_succ, i64_w, i32_w]
            rfl
          refine take_ (i := 0) (N := some 27) (v := ?_) (a' := ?_) #[true, false, true, false, false, false] rfl rfl (by kernel_rfl) (fun _ _ _ h => h) (Or.inl ⟨by rfl, ?_⟩) hHeld ?_ ?_
          rotate_left
          · rintro w' ⟨s0, s1, s2, s3, s4⟩
            go_simp
            (with_reducible rfl)
          rotate_left
          · simp only [Act.put, List.setIfInBounds_toArray, List.set_cons_zero, List.set_cons_succ, i64_w, i32_w]
            rfl
          refine one_ (i := 1) (N := some 28) #[true, true, true, false, false, false] rfl rfl (by kernel_rfl) (by decide) (fun K hK => ?_); refine Kd.R_lit_step (Kd.int .i64) _ 2 ?hg (N := 28) ?hd (xs := ([] : List Int)) (inner := []) (ok := fun _ => True) (okp := fun _ => True) ?hr ?hp (fun _ hk => hk) trivial (Below.refl _ _) (Nat.le_refl _) (by simp) ?_; (case hd => rfl); (case hg => rfl); (case hr => first | (go_simp; done) | (go_simp; rfl)); (case hp => exact (Reps.none _ _)); intro v916 w15 ho16 hb hg_ hnew_; clear hg_ hnew_
          (first | rw [← Ny915.out] at ho16 | (simp only [Int.reduceToNat] at ho16; rw [← Ny915.out] at ho16))
          have HO917 := Aside0.mk (Kd.R_lower (Kd.R_new' ho16 (Kd.R_lt (rs HO913))) (below_size (bs HB))); replace HO913 := Aside0.mk (Kd.R_elder' (rs HO913) (Kd.R_base ho16) hb); replace BK914 := Aside0.mk (blk_below (ks BK914) hb); replace HB := Aside0.mk (below_step (bs HB) hb); clear hb ho16; obtain ⟨Ao18, co18, eo18⟩ := Kd.R_slice HO913.out
          (first | subst eo18 | (injection eo18 with f1_ f2_ f3_; have f4_ := f1_.symm; have f5_ := f3_.symm; clear f1_ f2_ f3_; subst f4_; subst f5_))
          refine hK.out _ _ ⟨(blk_cell BK914.out 0).trans rfl, (blk_cell BK914.out 1).trans rfl, (blk_cell BK914.out 2).trans rfl, (blk_cell BK914.out 3).trans rfl, (blk_cell BK914.out 4).trans rfl⟩ (fun hHeld => ?_); clear hK K; refine nA 28 ?_; refine one_ (i := 3) (N := some 30) #[true, true, true, true, false, false] rfl rfl (by kernel_rfl) (by decide) (fun K hK => ?_); refine Kd.R_append_rows_step (Kd.int .i64) (w0 := w) w.heap.size (by rfl) (.tmp 28) (.tmp 29) 25 2 (.int .i64 0) 8 rfl Try.underlying25 info2 rfl (by decide) (by omega) v916 y915 t911 _ _ _ (fun k_ => some k_ ≠ (.slice Ao18 t911.length co18 : Value).ownBlock) (fun _ => False) rfl rfl ?aO ?aR (fun _ _ h => h) (fun _ h => h.elim) ?aF ?aB ?aS ?aL ?_
          (case aR => repeat (first | exact (Kd.R_reads' HO913.out).2.2 | (with_reducible refine Kd.C_alloc ?_ _) | (with_reducible refine Kd.C_drewN ?_ _) | (with_reducible refine Kd.C_drew ?_)))
          (case aB => exact (bs HB))
          (case aF => exact (fun k_ hk => Kd.fresh' (Kd.R_lt (rs HO913)) k_ hk))
          (case aO => exact (by (with_reducible repeat (first | apply Kd.R_alloc | apply Kd.R_drewN | apply Kd.R_drew)); exact Kd.R_mono HO917.out (fun _ hk => hk.2)))
          (case aS => exact (below_size (bs HB)))
          (case aL => have := LMc8.out; omega)
          intro v919 w17 ho hb hg hat
          rw [← Ny918.out] at ho
          have n0_ := Aside0.mk (Kd.R_after (ok := (fun _ => True)) (rs HO913) hg hat); have n1_ := Aside0.mk (blk_grown (ks BK914) hg (Kd.R_ne HO917.out BK914.out (by decide))); have n2_ := Aside0.mk (hb); have n3_ := Aside0.mk (ho); clear HO913; clear BK914; clear HB; clear HO917; have HO913 := n0_; have BK914 := n1_; have HB := n2_; have HO920 := n3_; clear n0_ n1_ n2_ n3_; clear ho hb hg hat; obtain ⟨Ao19, co19, eo19⟩ := Kd.R_slice HO920.out
          (first | subst eo19 | (injection eo19 with f1_ f2_ f3_; have f4_ := f1_.symm; have f5_ := f3_.symm; clear f1_ f2_ f3_; subst f4_; subst f5_))
          refine hK.out _ _ ⟨(blk_cell BK914.out 0).trans rfl, (blk_cell BK914.out 1).trans rfl, (blk_cell BK914.out 2).trans rfl, (blk_cell BK914.out 3).trans rfl, (blk_cell BK914.out 4).trans rfl⟩ (fun hHeld => ?_); clear hK K; refine nA 30 ?_; refine one_ (i := 4) (N := some 31) #[true, true, true, true, true, false] rfl rfl (by kernel_rfl) (by decide) (fun K hK => ?_); refine gA Try.func16 #[.agg #[.string t906, .int .i64 t907, .string t908, .int .i64 t909, .int .i64 t910], .slice Ao19 y918.length co19] ?_; (with_reducible refine (impl_OutboxRun.calls kj2 t906 t907 t908 t909 t910 _ _ y918 t921 _ ?side1 ?side2 A9.out).mono ?_)
          (case side1 => repeat (first | exact (Kd.R_reads' HO920.out).2.2 | (with_reducible refine Kd.C_alloc ?_ _) | (with_reducible refine Kd.C_drewN ?_ _) | (with_reducible refine Kd.C_drew ?_)))
          (case side2 => exact (Kd.R_reads' HO920.out).2.1)
          rintro e w20 ⟨v922, rfl, ho0, hb⟩; refine ⟨_, rfl, ?_⟩; have HO923 := Aside0.mk (Kd.R_lower (Kd.R_new' (Kd.R_new' ho0 (Kd.R_lt (rs HO913))) (Kd.R_lt (rs HO920))) (below_size (bs HB))); replace HO913 := Aside0.mk (Kd.R_elder' (rs HO913) (Kd.R_base ho0) hb); replace HO920 := Aside0.mk (Kd.R_elder' (rs HO920) (Kd.R_base ho0) hb); replace BK914 := Aside0.mk (blk_below (ks BK914) hb); replace HB := Aside0.mk (below_step (bs HB) hb); (try clear hb); (try clear hb2); (try clear hk); (try clear hi); (try clear ho0); refine hK.out _ _ ⟨(blk_cell BK914.out 0).trans rfl, (blk_cell BK914.out 1).trans rfl, (blk_cell BK914.out 2).trans rfl, (blk_cell BK914.out 3).trans rfl, (blk_cell BK914.out 4).trans rfl⟩ (fun hHeld => ?_); clear hK K; refine nA 31 ?_; refine pure_ (i := 5) (N := some 7) (v := ?_) (a' := ?_) #[true, true, true, true, true, true] rfl rfl (by kernel_rfl) (fun _ _ _ h => h) (Or.inl ⟨by rfl, ?_⟩) ?_ ?_
          rotate_left
          · intro w'
            go_simp
            (with_reducible rfl)
          rotate_left
          · simp only [Act.put, List.setIfInBounds_toArray, List.set_cons_zero, List.set_cons_succ, i64_w, i32_w]
            rfl
          refine done_ (by kernel_rfl) ?_; obtain ⟨hcz21_0, hcz21_1, hcz21_2, hcz21_3, hcz21_4, hfz21_0, hfz21_1, hfz21_2, hfz21_3, hfz21_4⟩ := cf5 BK914
          try go_wp2_with (fail)
          go_at_call 17; (with_reducible refine (spec_OutboxRun.calls kj2 t906 t907 t908 t909 t910 _ _ t911 t924 _ ?side1 ?side2 A10.out).mono ?_); (case side1 => repeat (first | exact (Kd.R_reads' HO913.out).2.2 | (with_reducible refine Kd.C_alloc ?_ _) | (with_reducible refine Kd.C_drewN ?_ _) | (with_reducible refine Kd.C_drew ?_))); (case side2 => exact (Kd.R_reads' HO913.out).2.1); rintro e w22 ⟨v925, rfl, ho0, hb⟩; have HO926 := Aside0.mk (Kd.R_lower (Kd.R_new' (Kd.R_new' (Kd.R_new' ho0 (Kd.R_lt (rs HO913))) (Kd.R_lt (rs HO920))) (Kd.R_lt (rs HO923))) (below_size (bs HB))); replace HO913 := Aside0.mk (Kd.R_elder' (rs HO913) (Kd.R_base ho0) hb); replace HO920 := Aside0.mk (Kd.R_elder' (rs HO920) (Kd.R_base ho0) hb); replace HO923 := Aside0.mk (Kd.R_elder' (rs HO923) (Kd.R_base ho0) hb); replace BK914 := Aside0.mk (blk_below (ks BK914) hb); replace HB := Aside0.mk (below_step (bs HB) hb); (try clear hb); (try clear hb2); (try clear hk); (try clear hi); (try clear ho0); have HC23 := Aside0.mk H; clear H
          go_upto_region 6 with (fail)
          go_cut [44] (fun v44 wc => ∃ (kq : Nat) (x44_22 : Bool), v44 = .bool x44_22 ∧ Aside0 (laws_FnResend.j1 kq l1 t921 x44_22 t906 t907 t908 t909 t910 = some r) ∧ Aside0 (kq ≤ kj2) ∧ Aside0 (Kd.R (Kd.int .i64) 2 wc w.heap.size (fun _ => True) v922 t921) ∧ Aside0 (wc.heap[gb914]? = some (.cells #[.string t906, .int .i64 t907, .string t908, .int .i64 t909, .int .i64 t910] 24 (0, 0))) ∧ Aside0 (Below w.heap.size w wc))
          case first =>
            have H := HC23.out; clear HC23
            by_cases c24 : (t921.length : Int) = (t924.length : Int)
            · rw [if_pos c24] at H; have c24b0 : ((t921.length : Int) == (t924.length : Int)) = true := beq_iff_eq.mpr c24; have c24b1 : ((t921.length : Int) != (t924.length : Int)) = false := bne_eq_false_iff_eq.mpr c24
              have c24b2 : (t921.length == t924.length) = true := by first | simpa using c24 | (simp at c24 ⊢; omega)
              clear c24
              (first | rw [c24b0] | (simp only [i64_w, i32_w]; rw [c24b0]) | skip)
              have H' := Aside0.mk H; clear H; obtain ⟨Ao25, co25, eo25⟩ := Kd.R_slice HO923.out; subst eo25; obtain ⟨Ao26, co26, eo26⟩ := Kd.R_slice HO926.out; subst eo26
              go_wp2
              go_meet
              case rel => exact ⟨_, (decide ((t921.length : Int) > 5)), fg, H', ⟨by have := HJ2.out; first | omega | exact Nat.le_refl _⟩, ⟨by (with_reducible repeat (first | apply Kd.R_alloc | apply Kd.R_drewN | apply Kd.R_drew)); exact Kd.R_mono HO923.out (fun _ hk => trivial)⟩, ⟨ks BK914⟩, ⟨bs HB⟩⟩
            · rw [if_neg c24] at H; have c24b0 : ((t921.length : Int) == (t924.length : Int)) = false := beq_eq_false_iff_ne.mpr c24; have c24b1 : ((t921.length : Int) != (t924.length : Int)) = true := bne_iff_ne.mpr c24
              have c24b2 : (t921.length == t924.length) = false := by first | simpa using c24 | (simp at c24 ⊢; omega)
              (first | rw [c24b0] | (simp only [i64_w, i32_w]; rw [c24b0]) | skip)
              have H' := Aside0.mk H; clear H; obtain ⟨Ao27, co27, eo27⟩ := Kd.R_slice HO923.out; subst eo27; obtain ⟨Ao28, co28, eo28⟩ := Kd.R_slice HO926.out; subst eo28
              go_wp2
              go_meet
              case rel => exact ⟨_, (true), fg, H', ⟨by have := HJ2.out; first | omega | exact Nat.le_refl _⟩, ⟨by (with_reducible repeat (first | apply Kd.R_alloc | apply Kd.R_drewN | apply Kd.R_drew)); exact Kd.R_mono HO923.out (fun _ hk => trivial)⟩, ⟨ks BK914⟩, ⟨bs HB⟩⟩
          case rest =>
            clear HC23
            try clear c1
            try clear c2
            try clear p2
            try clear c3
            try clear c4
            try clear c4b0
            try clear c4b1
            try clear c5
            try clear c8
            try clear c16
            try clear c24
            try clear c24b0
            try clear c24b1
            try clear c24b2
            try clear hcz12_0
            try clear hcz12_1
            try clear hcz12_2
            try clear hcz12_3
            try clear hcz12_4
            try clear hcz21_0
            try clear hcz21_1
            try clear hcz21_2
            try clear hcz21_3
            try clear hcz21_4
            try clear hfz12_0
            try clear hfz12_1
            try clear hfz12_2
            try clear hfz12_3
            try clear hfz12_4
            try clear hfz21_0
            try clear hfz21_1
            try clear hfz21_2
            try clear hfz21_3
            try clear hfz21_4
            try clear p2
            obtain ⟨kq, x44_22, rfl, HA, HJ22, HO_7, BK914, HB⟩ := hcut
            cases kq with
            | zero => exact absurd HA.out (by simp [laws_FnResend.j1])
            | succ kj22 =>
              have H := HA.out; clear HA; simp only [laws_FnResend.j1] at H
              by_cases c29 : x44_22 = true
              · subst c29
                have H1 : (some false) = some r := by rw [if_pos rfl] at H; exact H
                clear H; have H := H1; clear H1; obtain rfl := Option.some.inj H
                go_wp2
                go_ret
                exact ⟨ff, bs HB⟩
              · replace c29 := Bool.eq_false_iff.mpr c29; subst c29
                have H1 : (laws_FnResend.l0 kj22 l1 t921 0 t906 t907 t908 t909 t910) = some r := by rw [if_neg (show ¬ (false = true) by decide)] at H; exact H
                clear H; have H := H1; clear H1; have H' := Aside0.mk H; clear H
                go_wp2
                go_loopg [9] kj22 (fun kq v9 w' => ∃ (x9_3 : Int), v9 = .int .i64 x9_3 ∧ Aside0 (laws_FnResend.l0 kq l1 t921 x9_3 t906 t907 t908 t909 t910 = some r) ∧ Aside0 (kq ≤ kj22) ∧ Aside0 (Kd.R (Kd.int .i64) 2 w' w.heap.size (fun _ => True) v922 t921) ∧ Aside0 (w'.heap[gb914]? = some (.cells #[.string t906, .int .i64 t907, .string t908, .int .i64 t909, .int .i64 t910] 24 (0, 0))) ∧ Aside0 (Below w.heap.size w w'))
                case atStart => exact ⟨(0), fg, H', ⟨Nat.le_refl _⟩, ⟨by (with_reducible repeat (first | apply Kd.R_alloc | apply Kd.R_drewN | apply Kd.R_drew)); exact HO_7.out⟩, ⟨ks BK914⟩, ⟨bs HB⟩⟩
                case round =>
                  clear H'
                  try clear c1
                  try clear c2
                  try clear p2
                  try clear c3
                  try clear c4
                  try clear c4b0
                  try clear c4b1
                  try clear c5
                  try clear c8
                  try clear c16
                  try clear c24
                  try clear c24b0
                  try clear c24b1
                  try clear c24b2
                  try clear c29
                  try clear hcz12_0
                  try clear hcz12_1
                  try clear hcz12_2
                  try clear hcz12_3
                  try clear hcz12_4
                  try clear hcz21_0
                  try clear hcz21_1
                  try clear hcz21_2
                  try clear hcz21_3
                  try clear hcz21_4
                  try clear hfz12_0
                  try clear hfz12_1
                  try clear hfz12_2
                  try clear hfz12_3
                  try clear hfz12_4
                  try clear hfz21_0
                  try clear hfz21_1
                  try clear hfz21_2
                  try clear hfz21_3
                  try clear hfz21_4
                  try clear p2
                  obtain ⟨x9_3, rfl, HA, HK3, HO_7, BK914, HB⟩ := hrel
                  cases gk with
                  | zero => exact absurd HA.out (by simp [laws_FnResend.l0])
                  | succ k3 =>
                    have H := HA.out; clear HA; simp only [laws_FnResend.l0] at H
                    by_cases c30 : x9_3 < (t921.length : Int)
                    · rw [if_pos c30] at H; have c30b0 : decide (x9_3 < (t921.length : Int)) = true := decide_eq_true c30; clear c30
                      by_cases c31 : 0 ≤ x9_3
                      · rw [if_pos c31] at H; have c31b0 : decide (0 ≤ x9_3) = true := decide_eq_true c31; clear c31
                        by_cases c32 : (rd t921 x9_3) < t910
                        · rw [if_pos c32] at H; have c32b0 : decide ((rd t921 x9_3) < t910) = true := decide_eq_true c32; clear c32; obtain rfl := Option.some.inj H; obtain ⟨Ao33, co33, eo33⟩ := Kd.R_slice HO_7.out; subst eo33
                          try go_wp2
                          replace HO_7 := Aside0.mk (Kd.R_drew HO_7.out); replace BK914 := Aside0.mk (blk_drew BK914.out); replace HB := Aside0.mk (below_drew1 HB.out); have p927 : 0 ≤ (x9_3 : Int) := oa; have q927 : x9_3 < (t921.length : Int) := oa; obtain ⟨ad927, e927, hx927_0⟩ := Kd.at_int (Kd.R_reads' HO_7.out).2.2 x9_3 p927 q927
                          cases e927
                          replace p927 := eq_true p927; replace q927 := eq_true q927; refine start_ (n := 29) (S := fun w' => w'.cell? ⟨gb914, 0, none⟩ = some (.string t906) ∧ w'.cell? ⟨gb914, 1, none⟩ = some (.int .i64 t907) ∧ w'.cell? ⟨gb914, 2, none⟩ = some (.string t908) ∧ w'.cell? ⟨gb914, 3, none⟩ = some (.int .i64 t909) ∧ w'.cell? ⟨gb914, 4, none⟩ = some (.int .i64 t910) ∧ w'.cell? (ad927.add (x9_3).toNat) = some (.int .i64 (rd t921 x9_3))) (ds := []) #[false, false, false, false, false, false, false, false, false, false, false, false, false, false, false, false, false, false, false, false, false, false, false, false, false, false, false, false, false] (by kernel_rfl) rfl rfl ⟨(blk_cell BK914.out 0).trans rfl, (blk_cell BK914.out 1).trans rfl, (blk_cell BK914.out 2).trans rfl, (blk_cell BK914.out 3).trans rfl, (blk_cell BK914.out 4).trans rfl, hx927_0⟩ (fun hHeld => ?_); refine with_tabW laws_FnResend.tab11 laws_FnResend.bits11 (fun HT_ HW_ => ?_)
                          generalize wr.drew = w34 at HO_7 BK914 HB hx927_0 hHeld ⊢
                          refine pA 0 51 HT_ ?_; refine pA 1 52 HT_ ?_; refine pA 2 53 HT_ ?_; refine pA 4 55 HT_ ?_; refine tA 3 54 HT_ HW_ hHeld ?_; refine tA 5 56 HT_ HW_ hHeld ?_; refine pA 6 57 HT_ ?_; refine pA 7 58 HT_ ?_; refine pB 8 59 HT_ ?_; refine pB 9 60 HT_ ?_; refine pB 10 61 HT_ ?_; refine pB 11 62 HT_ ?_; refine pB 12 63 HT_ ?_; refine pB 13 64 HT_ ?_; refine pB 14 65 HT_ ?_; refine pB 15 66 HT_ ?_; refine pB 16 67 HT_ ?_; refine pB 17 68 HT_ ?_; refine pB 18 69 HT_ ?_; refine pB 19 70 HT_ ?_; refine pB 20 71 HT_ ?_; refine pB 21 72 HT_ ?_; refine pB 22 73 HT_ ?_; refine pB 23 74 HT_ ?_; refine pB 24 75 HT_ ?_; refine pB 25 76 HT_ ?_; refine pB 26 77 HT_ ?_; refine pB 27 78 HT_ ?_; refine pA 28 79 HT_ ?_; refine done_ (done_of HT_.out (by kernel_rfl)) ?_
                          try go_wp2
                          go_ret
                          exact ⟨ff, bs HB⟩
                        · rw [if_neg c32] at H; have c32b0 : decide ((rd t921 x9_3) < t910) = false := decide_eq_false c32; clear c32
                          by_cases c35 : x9_3 > 0
                          · rw [if_pos c35] at H; have c35b0 : decide (0 < x9_3) = true := decide_eq_true c35; clear c35; obtain ⟨ji36, hji36⟩ : ∃ j_ : Int, (wrap64 (x9_3 - 1)) = j_ := ⟨_, rfl⟩
                            replace H : (if 0 ≤ (ji36) then (if (ji36) < (t921.length : Int) then (if (wrap64 ((rd t921 x9_3) - (rd t921 (ji36)))) < (wrap64 (3 * (wrap64 (t909 + x9_3)))) then (some false) else (laws_FnResend.l0 k3 l1 t921 (wrap64 (x9_3 + 1)) t906 t907 t908 t909 t910)) else (none)) else (none)) = some r := by first | (rw [hji36] at H; exact H) | (simp only [hji36] at H ⊢; exact H)
                            have hji36w : (IntKind.i64.wrap (x9_3 - 1)) = ji36 := (i64_w _).trans hji36
                            by_cases c37 : 0 ≤ (ji36)
                            · rw [if_pos c37] at H; have c37b0 : decide (0 ≤ (ji36)) = true := decide_eq_true c37; clear c37
                              by_cases c38 : (ji36) < (t921.length : Int)
                              · rw [if_pos c38] at H; have c38b0 : decide ((ji36) < (t921.length : Int)) = true := decide_eq_true c38; clear c38
                                by_cases c39 : (wrap64 ((rd t921 x9_3) - (rd t921 (ji36)))) < (wrap64 (3 * (wrap64 (t909 + x9_3))))
                                · rw [if_pos c39] at H; have c39b0 : decide ((wrap64 ((rd t921 x9_3) - (rd t921 (ji36)))) < (wrap64 (3 * (wrap64 (t909 + x9_3))))) = true := decide_eq_true c39; clear c39; obtain rfl := Option.some.inj H; obtain ⟨Ao40, co40, eo40⟩ := Kd.R_slice HO_7.out; subst eo40
                                  try go_wp2
                                  replace HO_7 := Aside0.mk (Kd.R_drew HO_7.out); replace BK914 := Aside0.mk (blk_drew BK914.out); replace HB := Aside0.mk (below_drew1 HB.out); have p927 : 0 ≤ (x9_3 : Int) := oa; have q927 : x9_3 < (t921.length : Int) := oa; obtain ⟨ad927, e927, hx927_0⟩ := Kd.at_int (Kd.R_reads' HO_7.out).2.2 x9_3 p927 q927
                                  cases e927
                                  replace p927 := eq_true p927; replace q927 := eq_true q927; have p928 : 0 ≤ (x9_3 : Int) := oa; have q928 : x9_3 < (t921.length : Int) := oa; obtain ⟨ad928, e928, hx928_0⟩ := Kd.at_int (Kd.R_reads' HO_7.out).2.2 x9_3 p928 q928; obtain rfl : ad927 = ad928 := (by injection e928); replace p928 := eq_true p928; replace q928 := eq_true q928; have p929 : 0 ≤ ((ji36) : Int) := oa; have q929 : (ji36) < (t921.length : Int) := oa; obtain ⟨ad929, e929, hx929_0⟩ := Kd.at_int (Kd.R_reads' HO_7.out).2.2 (ji36) p929 q929; obtain rfl : ad927 = ad929 := (by injection e929); replace p929 := eq_true p929; replace q929 := eq_true q929; refine start_ (n := 29) (S := fun w' => w'.cell? ⟨gb914, 0, none⟩ = some (.string t906) ∧ w'.cell? ⟨gb914, 1, none⟩ = some (.int .i64 t907) ∧ w'.cell? ⟨gb914, 2, none⟩ = some (.string t908) ∧ w'.cell? ⟨gb914, 3, none⟩ = some (.int .i64 t909) ∧ w'.cell? ⟨gb914, 4, none⟩ = some (.int .i64 t910) ∧ w'.cell? (ad927.add (x9_3).toNat) = some (.int .i64 (rd t921 x9_3)) ∧ w'.cell? (ad927.add (x9_3).toNat) = some (.int .i64 (rd t921 x9_3)) ∧ w'.cell? (ad927.add ((ji36)).toNat) = some (.int .i64 (rd t921 (ji36)))) (ds := []) #[false, false, false, false, false, false, false, false, false, false, false, false, false, false, false, false, false, false, false, false, false, false, false, false, false, false, false, false, false] (by kernel_rfl) rfl rfl ⟨(blk_cell BK914.out 0).trans rfl, (blk_cell BK914.out 1).trans rfl, (blk_cell BK914.out 2).trans rfl, (blk_cell BK914.out 3).trans rfl, (blk_cell BK914.out 4).trans rfl, hx927_0, hx928_0, hx929_0⟩ (fun hHeld => ?_); refine with_tabW laws_FnResend.tab11 laws_FnResend.bits11 (fun HT_ HW_ => ?_)
                                  generalize wr.drew = w41 at HO_7 BK914 HB hx927_0 hx928_0 hx929_0 hHeld ⊢
                                  refine pA 0 51 HT_ ?_; refine pA 1 52 HT_ ?_; refine pA 2 53 HT_ ?_; refine pA 4 55 HT_ ?_; refine tA 3 54 HT_ HW_ hHeld ?_; refine tA 5 56 HT_ HW_ hHeld ?_; refine pA 6 57 HT_ ?_; refine pA 7 58 HT_ ?_; refine pA 8 59 HT_ ?_; refine pA 9 60 HT_ ?_; refine pA 10 61 HT_ ?_; refine pA 11 62 HT_ ?_; refine pA 12 63 HT_ ?_; refine pA 13 64 HT_ ?_; refine pA 15 66 HT_ ?_; refine pA 16 67 HT_ ?_; refine pA 17 68 HT_ ?_; refine pA 18 69 HT_ ?_; refine pA 21 72 HT_ ?_; refine pA 23 74 HT_ ?_; refine tA 14 65 HT_ HW_ hHeld ?_; refine tA 19 70 HT_ HW_ hHeld ?_; refine pA 20 71 HT_ ?_; refine tA 22 73 HT_ HW_ hHeld ?_; refine pA 24 75 HT_ ?_; refine pA 25 76 HT_ ?_; refine pA 26 77 HT_ ?_; refine pA 27 78 HT_ ?_; refine pA 28 79 HT_ ?_; refine done_ (done_of HT_.out (by kernel_rfl)) ?_
                                  try go_wp2
                                  go_ret
                                  exact ⟨by first | rfl | (simp [errW_none, errW_some] <;> rfl) | (simp only [← hji36]; first | rfl | (simp [errW_none, errW_some] <;> rfl)) | (simp [*, errW_none, errW_some] <;> rfl), bs HB⟩
                                · rw [if_neg c39] at H; have c39b0 : decide ((wrap64 ((rd t921 x9_3) - (rd t921 (ji36)))) < (wrap64 (3 * (wrap64 (t909 + x9_3))))) = false := decide_eq_false c39; clear c39; have H' := Aside0.mk H; clear H; obtain ⟨Ao42, co42, eo42⟩ := Kd.R_slice HO_7.out; subst eo42
                                  try go_wp2
                                  replace HO_7 := Aside0.mk (Kd.R_drew HO_7.out); replace BK914 := Aside0.mk (blk_drew BK914.out); replace HB := Aside0.mk (below_drew1 HB.out); have p927 : 0 ≤ (x9_3 : Int) := oa; have q927 : x9_3 < (t921.length : Int) := oa; obtain ⟨ad927, e927, hx927_0⟩ := Kd.at_int (Kd.R_reads' HO_7.out).2.2 x9_3 p927 q927
                                  cases e927
                                  replace p927 := eq_true p927; replace q927 := eq_true q927; have p928 : 0 ≤ (x9_3 : Int) := oa; have q928 : x9_3 < (t921.length : Int) := oa; obtain ⟨ad928, e928, hx928_0⟩ := Kd.at_int (Kd.R_reads' HO_7.out).2.2 x9_3 p928 q928; obtain rfl : ad927 = ad928 := (by injection e928); replace p928 := eq_true p928; replace q928 := eq_true q928; have p929 : 0 ≤ ((ji36) : Int) := oa; have q929 : (ji36) < (t921.length : Int) := oa; obtain ⟨ad929, e929, hx929_0⟩ := Kd.at_int (Kd.R_reads' HO_7.out).2.2 (ji36) p929 q929; obtain rfl : ad927 = ad929 := (by injection e929); replace p929 := eq_true p929; replace q929 := eq_true q929; refine start_ (n := 29) (S := fun w' => w'.cell? ⟨gb914, 0, none⟩ = some (.string t906) ∧ w'.cell? ⟨gb914, 1, none⟩ = some (.int .i64 t907) ∧ w'.cell? ⟨gb914, 2, none⟩ = some (.string t908) ∧ w'.cell? ⟨gb914, 3, none⟩ = some (.int .i64 t909) ∧ w'.cell? ⟨gb914, 4, none⟩ = some (.int .i64 t910) ∧ w'.cell? (ad927.add (x9_3).toNat) = some (.int .i64 (rd t921 x9_3)) ∧ w'.cell? (ad927.add (x9_3).toNat) = some (.int .i64 (rd t921 x9_3)) ∧ w'.cell? (ad927.add ((ji36)).toNat) = some (.int .i64 (rd t921 (ji36)))) (ds := []) #[false, false, false, false, false, false, false, false, false, false, false, false, false, false, false, false, false, false, false, false, false, false, false, false, false, false, false, false, false] (by kernel_rfl) rfl rfl ⟨(blk_cell BK914.out 0).trans rfl, (blk_cell BK914.out 1).trans rfl, (blk_cell BK914.out 2).trans rfl, (blk_cell BK914.out 3).trans rfl, (blk_cell BK914.out 4).trans rfl, hx927_0, hx928_0, hx929_0⟩ (fun hHeld => ?_); refine with_tabW laws_FnResend.tab11 laws_FnResend.bits11 (fun HT_ HW_ => ?_)
                                  generalize wr.drew = w43 at HO_7 BK914 HB hx927_0 hx928_0 hx929_0 hHeld ⊢
                                  refine pA 0 51 HT_ ?_; refine pA 1 52 HT_ ?_; refine pA 2 53 HT_ ?_; refine pA 4 55 HT_ ?_; refine tA 3 54 HT_ HW_ hHeld ?_; refine tA 5 56 HT_ HW_ hHeld ?_; refine pA 6 57 HT_ ?_; refine pA 7 58 HT_ ?_; refine pA 8 59 HT_ ?_; refine pA 9 60 HT_ ?_; refine pA 10 61 HT_ ?_; refine pA 11 62 HT_ ?_; refine pA 12 63 HT_ ?_; refine pA 13 64 HT_ ?_; refine pA 15 66 HT_ ?_; refine pA 16 67 HT_ ?_; refine pA 17 68 HT_ ?_; refine pA 18 69 HT_ ?_; refine pA 21 72 HT_ ?_; refine pA 23 74 HT_ ?_; refine tA 14 65 HT_ HW_ hHeld ?_; refine tA 19 70 HT_ HW_ hHeld ?_; refine pA 20 71 HT_ ?_; refine tA 22 73 HT_ HW_ hHeld ?_; refine pA 24 75 HT_ ?_; refine pA 25 76 HT_ ?_; refine pA 26 77 HT_ ?_; refine pA 27 78 HT_ ?_; refine pA 28 79 HT_ ?_; refine done_ (done_of HT_.out (by kernel_rfl)) ?_
                                  try go_wp2
                                  go_roundg k3
                                  case measure => have := HJ2.out; have := HJ22.out; have := HK3.out; omega
                                  case rel => exact ⟨(wrap64 (x9_3 + 1)), fg, H', ⟨by have := HJ2.out; have := HJ22.out; have := HK3.out; omega⟩, ⟨by (with_reducible repeat (first | apply Kd.R_alloc | apply Kd.R_drewN | apply Kd.R_drew)); exact HO_7.out⟩, ⟨ks BK914⟩, ⟨bs HB⟩⟩
                              · rw [if_neg c38] at H
                                exact absurd H (by simp)
                            · rw [if_neg c37] at H
                              exact absurd H (by simp)
                          · rw [if_neg c35] at H; have c35b0 : decide (0 < x9_3) = false := decide_eq_false c35; clear c35; have H' := Aside0.mk H; clear H; obtain ⟨Ao44, co44, eo44⟩ := Kd.R_slice HO_7.out; subst eo44
                            try go_wp2
                            replace HO_7 := Aside0.mk (Kd.R_drew HO_7.out); replace BK914 := Aside0.mk (blk_drew BK914.out); replace HB := Aside0.mk (below_drew1 HB.out); have p927 : 0 ≤ (x9_3 : Int) := oa; have q927 : x9_3 < (t921.length : Int) := oa; obtain ⟨ad927, e927, hx927_0⟩ := Kd.at_int (Kd.R_reads' HO_7.out).2.2 x9_3 p927 q927
                            cases e927
                            replace p927 := eq_true p927; replace q927 := eq_true q927; refine start_ (n := 29) (S := fun w' => w'.cell? ⟨gb914, 0, none⟩ = some (.string t906) ∧ w'.cell? ⟨gb914, 1, none⟩ = some (.int .i64 t907) ∧ w'.cell? ⟨gb914, 2, none⟩ = some (.string t908) ∧ w'.cell? ⟨gb914, 3, none⟩ = some (.int .i64 t909) ∧ w'.cell? ⟨gb914, 4, none⟩ = some (.int .i64 t910) ∧ w'.cell? (ad927.add (x9_3).toNat) = some (.int .i64 (rd t921 x9_3))) (ds := []) #[false, false, false, false, false, false, false, false, false, false, false, false, false, false, false, false, false, false, false, false, false, false, false, false, false, false, false, false, false] (by kernel_rfl) rfl rfl ⟨(blk_cell BK914.out 0).trans rfl, (blk_cell BK914.out 1).trans rfl, (blk_cell BK914.out 2).trans rfl, (blk_cell BK914.out 3).trans rfl, (blk_cell BK914.out 4).trans rfl, hx927_0⟩ (fun hHeld => ?_); refine with_tabW laws_FnResend.tab11 laws_FnResend.bits11 (fun HT_ HW_ => ?_)
                            generalize wr.drew = w45 at HO_7 BK914 HB hx927_0 hHeld ⊢
                            refine pA 0 51 HT_ ?_; refine pA 1 52 HT_ ?_; refine pA 2 53 HT_ ?_; refine pA 4 55 HT_ ?_; refine tA 3 54 HT_ HW_ hHeld ?_; refine tA 5 56 HT_ HW_ hHeld ?_; refine pA 6 57 HT_ ?_; refine pA 7 58 HT_ ?_; refine pA 8 59 HT_ ?_; refine pA 9 60 HT_ ?_; refine pA 10 61 HT_ ?_; refine pB 11 62 HT_ ?_; refine pB 12 63 HT_ ?_; refine pB 13 64 HT_ ?_; refine pB 14 65 HT_ ?_; refine pB 15 66 HT_ ?_; refine pB 16 67 HT_ ?_; refine pB 17 68 HT_ ?_; refine pB 18 69 HT_ ?_; refine pB 19 70 HT_ ?_; refine pB 20 71 HT_ ?_; refine pB 21 72 HT_ ?_; refine pB 22 73 HT_ ?_; refine pB 23 74 HT_ ?_; refine pB 24 75 HT_ ?_; refine pB 25 76 HT_ ?_; refine pB 26 77 HT_ ?_; refine pA 27 78 HT_ ?_; refine pA 28 79 HT_ ?_; refine done_ (done_of HT_.out (by kernel_rfl)) ?_
                            try go_wp2
                            go_roundg k3
                            case measure => have := HJ2.out; have := HJ22.out; have := HK3.out; omega
                            case rel => exact ⟨(wrap64 (x9_3 + 1)), fg, H', ⟨by have := HJ2.out; have := HJ22.out; have := HK3.out; omega⟩, ⟨by (with_reducible repeat (first | apply Kd.R_alloc | apply Kd.R_drewN | apply Kd.R_drew)); exact HO_7.out⟩, ⟨ks BK914⟩, ⟨bs HB⟩⟩
                      · rw [if_neg c31] at H
                        exact absurd H (by simp)
                    · rw [if_neg c30] at H; have c30b0 : decide (x9_3 < (t921.length : Int)) = false := decide_eq_false c30; clear c30; replace H := Option.bind_eq_some_iff.mp H; obtain ⟨⟨t930, t931⟩, A460, H⟩ := H; replace H : ((spec_OutboxTick.f k3 t930 t931).bind fun bt934 => (if bt934.2.2.2 = 0 then ((some (([] : List (S24)) : List (S24))).bind fun y944 => (if y944.length + t930.length < 2513169434916 then ((impl_OutboxTick.f k3 (y944 ++ t930) t931).bind fun bt950 => (if bt950.2.2.2 = 0 then (laws_FnResend.j3 k3 t931 ((wrap64 ((bt950.1.length : Int) + (bt950.2.2.1.length : Int))) != (t930.length : Int)) bt950.1 bt950.2.1 bt950.2.2.1 bt950.2.2.2) else (laws_FnResend.j3 k3 t931 true bt950.1 bt950.2.1 bt950.2.2.1 bt950.2.2.2))) else (none))) else (some true))) = some r := H; have A46 := Aside0.mk A460; clear A460; obtain ⟨Ao47, co47, eo47⟩ := Kd.R_slice HO_7.out; subst eo47
                      try go_wp2_with (fail)
                      go_at_call 18; (with_reducible refine (spec_DrawOutboxTick.calls k3 _ _ l1 t930 t931 _ (Kd.C_below HR1.out (bs HB)) HC1.out A46.out).mono ?_); rintro e w48 ⟨v932, rfl, ho0, hb⟩; replace HO_7 := Aside0.mk (Kd.R_below (rs HO_7) hb); have HO933 := Aside0.mk (Kd.R_lower (Kd.R_newB ho0 (g := gb914) (o := .cells #[.string t906, .int .i64 t907, .string t908, .int .i64 t909, .int .i64 t910] 24 (0, 0)) (ks BK914)) (below_size (bs HB))); replace BK914 := Aside0.mk (blk_below (ks BK914) hb); replace HB := Aside0.mk (below_step (bs HB) hb); (try clear hb); (try clear hb2); (try clear hk); (try clear hi); (try clear ho0); replace H := Option.bind_eq_some_iff.mp H; obtain ⟨⟨t934, t937, t940, t943⟩, A490, H⟩ := H; replace H : (if t943 = 0 then ((some (([] : List (S24)) : List (S24))).bind fun y944 => (if y944.length + t930.length < 2513169434916 then ((impl_OutboxTick.f k3 (y944 ++ t930) t931).bind fun bt950 => (if bt950.2.2.2 = 0 then (laws_FnResend.j3 k3 t931 ((wrap64 ((bt950.1.length : Int) + (bt950.2.2.1.length : Int))) != (t930.length : Int)) bt950.1 bt950.2.1 bt950.2.2.1 bt950.2.2.2) else (laws_FnResend.j3 k3 t931 true bt950.1 bt950.2.1 bt950.2.2.1 bt950.2.2.2))) else (none))) else (some true)) = some r := H; have A49 := Aside0.mk A490; clear A490; obtain ⟨Ao50, co50, eo50⟩ := Kd.R_slice HO933.out; subst eo50
                      try go_wp2_with (fail)
                      go_at_call 19; (with_reducible refine (spec_OutboxTick.calls k3 _ _ t930 t931 t934 t937 t940 t943 _ ?side1 ?side2 A49.out).mono ?_); (case side1 => repeat (first | exact (Kd.R_reads' HO933.out).2.2 | (with_reducible refine Kd.C_alloc ?_ _) | (with_reducible refine Kd.C_drewN ?_ _) | (with_reducible refine Kd.C_drew ?_))); (case side2 => exact (Kd.R_reads' HO933.out).2.1); rintro e w51 ⟨v935, v938, v941, rfl, ho0, ho1, ho2, hb⟩; replace HO_7 := Aside0.mk (Kd.R_below (rs HO_7) hb); have HO936 := Aside0.mk (Kd.R_lower (Kd.R_newB (Kd.R_new' ho0 (Kd.R_lt (rs HO933))) (g := gb914) (o := .cells #[.string t906, .int .i64 t907, .string t908, .int .i64 t909, .int .i64 t910] 24 (0, 0)) (ks BK914)) (below_size (bs HB))); have HO939 := Aside0.mk (Kd.R_lower ho1 (below_size (bs HB))); have HO942 := Aside0.mk (Kd.R_lower (Kd.R_newB (Kd.R_new' ho2 (Kd.R_lt (rs HO933))) (g := gb914) (o := .cells #[.string t906, .int .i64 t907, .string t908, .int .i64 t909, .int .i64 t910] 24 (0, 0)) (ks BK914)) (below_size (bs HB))); replace HO933 := Aside0.mk (Kd.R_mono (Kd.R_told (Kd.R_told (Kd.R_old (rs HO933) hb) (Kd.R_base ho0)) (Kd.R_base ho2)) (fun _ h_ => h_.1)); replace BK914 := Aside0.mk (blk_below (ks BK914) hb); replace HB := Aside0.mk (below_step (bs HB) hb); (try clear hb); (try clear hb2); (try clear hk); (try clear hi); (try clear ho0); (try clear ho1); (try clear ho2)
                      by_cases c52 : t943 = 0
                      · rw [if_pos c52] at H; have c52b0 : (t943 == 0) = true := beq_iff_eq.mpr c52; have c52b1 : (t943 != 0) = false := bne_eq_false_iff_eq.mpr c52; clear c52; obtain ⟨y944, hy944⟩ : ∃ y_ : List (S24), y_ = (([] : List (S24))) := ⟨_, rfl⟩
                        replace H : (if y944.length + t930.length < 2513169434916 then ((impl_OutboxTick.f k3 (y944 ++ t930) t931).bind fun bt950 => (if bt950.2.2.2 = 0 then (laws_FnResend.j3 k3 t931 ((wrap64 ((bt950.1.length : Int) + (bt950.2.2.1.length : Int))) != (t930.length : Int)) bt950.1 bt950.2.1 bt950.2.2.1 bt950.2.2.2) else (laws_FnResend.j3 k3 t931 true bt950.1 bt950.2.1 bt950.2.2.1 bt950.2.2.2))) else (none)) = some r := by first | (rw [hy944]; with_reducible exact H) | (have H2_ := (Option.bind_some _ _).symm.trans H; rw [hy944]; with_reducible exact H2_) | (have H2_ := (Option.bind_some _ _).symm.trans H; with_reducible exact H2_) | with_reducible exact H | (rw [hy944]; exact H) | exact H
                        have Ny944 := Aside0.mk hy944; clear hy944
                        by_cases c53 : y944.length + t930.length < 2513169434916
                        · rw [if_pos c53] at H; have LMc53 := Aside0.mk c53; clear c53; obtain ⟨y947, hy947⟩ : ∃ y_ : List (S24), y_ = (y944 ++ t930) := ⟨_, rfl⟩
                          replace H : ((impl_OutboxTick.f k3 y947 t931).bind fun bt950 => (if bt950.2.2.2 = 0 then (laws_FnResend.j3 k3 t931 ((wrap64 ((bt950.1.length : Int) + (bt950.2.2.1.length : Int))) != (t930.length : Int)) bt950.1 bt950.2.1 bt950.2.2.1 bt950.2.2.2) else (laws_FnResend.j3 k3 t931 true bt950.1 bt950.2.1 bt950.2.2.1 bt950.2.2.2))) = some r := by first | (rw [hy947]; with_reducible exact H) | (have H2_ := (Option.bind_some _ _).symm.trans H; rw [hy947]; with_reducible exact H2_) | (have H2_ := (Option.bind_some _ _).symm.trans H; with_reducible exact H2_) | with_reducible exact H | (rw [hy947]; exact H) | exact H
                          have Ny947 := Aside0.mk hy947; clear hy947; replace H := Option.bind_eq_some_iff.mp H; obtain ⟨⟨t950, t953, t956, t959⟩, A540, H⟩ := H; replace H : (if t959 = 0 then (laws_FnResend.j3 k3 t931 ((wrap64 ((t950.length : Int) + (t956.length : Int))) != (t930.length : Int)) t950 t953 t956 t959) else (laws_FnResend.j3 k3 t931 true t950 t953 t956 t959)) = some r := H; have A54 := Aside0.mk A540; clear A540
                          try go_wp2_with (first | ((with_reducible refine gate_dst (N := 90) rfl ?_); (try (refine gate_guard (by rfl) ?_; dsimp only)); refine Kd.R_lit k24 _ 24 ?hg (N := 90) ?hd (xs := ([] : List (S24))) (inner := []) (ok := fun _ => True) (okp := fun _ => True) ?hr ?hp (fun _ hk => hk) trivial (Below.refl _ _) (Nat.le_refl _) (by simp) ?_; (case hd => rfl); (case hg => rfl); (case hr => first | (go_simp; done) | (go_simp; rfl)); (case hp => exact (Reps.none _ _)); intro v945 w55 ho56 hb hg_ hnew_; clear hg_ hnew_; (first | rw [← Ny944.out] at ho56 | (simp only [Int.reduceToNat] at ho56; rw [← Ny944.out] at ho56)); replace HO_7 := Aside0.mk (Kd.R_below (rs HO_7) hb); replace HO939 := Aside0.mk (Kd.R_below (rs HO939) hb); have HO946 := Aside0.mk (Kd.R_lower (Kd.R_newB (Kd.R_new' (Kd.R_new' (Kd.R_new' ho56 (Kd.R_lt (rs HO933))) (Kd.R_lt (rs HO936))) (Kd.R_lt (rs HO942))) (g := gb914) (o := .cells #[.string t906, .int .i64 t907, .string t908, .int .i64 t909, .int .i64 t910] 24 (0, 0)) (ks BK914)) (below_size (bs HB))); replace HO933 := Aside0.mk (Kd.R_elder' (rs HO933) (Kd.R_base ho56) hb); replace HO936 := Aside0.mk (Kd.R_elder' (rs HO936) (Kd.R_base ho56) hb); replace HO942 := Aside0.mk (Kd.R_elder' (rs HO942) (Kd.R_base ho56) hb); replace BK914 := Aside0.mk (blk_below (ks BK914) hb); replace HB := Aside0.mk (below_step (bs HB) hb); clear hb ho56) | ((with_reducible refine gate_builtin (b := .append) (xs := #[.tmp 90, .tmp 91]) rfl ?_); (try (refine gate_guard (by rfl) ?_; dsimp only)); at_builtin; refine Kd.R_append_rows k24 (w0 := w) w.heap.size rfl (.tmp 90) (.tmp 91) 29 24 (.agg #[(.string ⟨#[]⟩), (.int .i64 0), (.string ⟨#[]⟩), (.int .i64 0), (.int .i64 0)]) 56 rfl Try.underlying29 info24 rfl (by decide) (by omega) v945 y944 t930 _ _ _ (fun k_ => some k_ ≠ (.slice Ao50 t930.length co50 : Value).ownBlock ∧ some k_ ≠ (v935 : Value).ownBlock ∧ some k_ ≠ (v941 : Value).ownBlock ∧ k_ ≠ gb914) (fun _ => False) rfl rfl ?aO ?aR (fun _ _ h => h) (fun _ h => h.elim) ?aF ?aB ?aS ?aL ?_; (case aR => repeat (first | exact (Kd.R_reads' HO933.out).2.2 | (with_reducible refine Kd.C_alloc ?_ _) | (with_reducible refine Kd.C_drewN ?_ _) | (with_reducible refine Kd.C_drew ?_))); (case aB => exact (bs HB)); (case aF => exact (fun k_ hk => ⟨Kd.fresh' (Kd.R_lt (rs HO933)) k_ hk, Kd.fresh' (Kd.R_lt (rs HO936)) k_ hk, Kd.fresh' (Kd.R_lt (rs HO942)) k_ hk, Kd.freshB (g := gb914) (o := .cells #[.string t906, .int .i64 t907, .string t908, .int .i64 t909, .int .i64 t910] 24 (0, 0)) (ks BK914) k_ hk⟩)); (case aO => exact (by (with_reducible repeat (first | apply Kd.R_alloc | apply Kd.R_drewN | apply Kd.R_drew)); exact Kd.R_mono HO946.out (fun _ hk => ⟨hk.1.1.1.2, ⟨hk.1.1.2, ⟨hk.1.2, hk.2⟩⟩⟩))); (case aS => exact (below_size (bs HB))); (case aL => have := LMc53.out; omega); intro v948 w57 ho hb hg hat; rw [← Ny947.out] at ho; have n0_ := Aside0.mk (Kd.R_over' (rs HO_7) (Kd.R_typed (rs HO946)) (by decide) hg); have n1_ := Aside0.mk (blk_grown (ks BK914) hg (Kd.R_away HO946.out (fun _ hk => hk.2))); have n2_ := Aside0.mk (Kd.R_after (ok := (fun k_ => some k_ ≠ (v935 : Value).ownBlock ∧ some k_ ≠ (v941 : Value).ownBlock ∧ k_ ≠ gb914)) (by (with_reducible repeat (first | apply Kd.R_alloc | apply Kd.R_drewN | apply Kd.R_drew)); exact Kd.R_mono HO933.out (fun _ hk => ⟨⟨hk.1.1.2, ⟨hk.1.2, hk.1.1.1.2⟩⟩, hk.2⟩)) hg hat); have n3_ := Aside0.mk (Kd.R_after (ok := (fun k_ => some k_ ≠ (.slice Ao50 t930.length co50 : Value).ownBlock ∧ some k_ ≠ (v941 : Value).ownBlock ∧ k_ ≠ gb914)) (by (with_reducible repeat (first | apply Kd.R_alloc | apply Kd.R_drewN | apply Kd.R_drew)); exact Kd.R_mono HO936.out (fun _ hk => ⟨⟨hk.1.1.2, ⟨hk.1.1.1, hk.1.2⟩⟩, hk.2⟩)) hg hat); have n4_ := Aside0.mk (Kd.R_over' (rs HO939) (Kd.R_typed (rs HO946)) (by decide) hg); have n5_ := Aside0.mk (Kd.R_after (ok := (fun k_ => some k_ ≠ (.slice Ao50 t930.length co50 : Value).ownBlock ∧ some k_ ≠ (v935 : Value).ownBlock ∧ k_ ≠ gb914)) (by (with_reducible repeat (first | apply Kd.R_alloc | apply Kd.R_drewN | apply Kd.R_drew)); exact Kd.R_mono HO942.out (fun _ hk => ⟨⟨hk.1.1.2, ⟨hk.1.1.1, hk.1.2⟩⟩, hk.2⟩)) hg hat); have n6_ := Aside0.mk (hb); have n7_ := Aside0.mk (ho); clear HO_7; clear BK914; clear HO933; clear HO936; clear HO939; clear HO942; clear HB; clear HO946; have HO_7 := n0_; have BK914 := n1_; have HO933 := n2_; have HO936 := n3_; have HO939 := n4_; have HO942 := n5_; have HB := n6_; have HO949 := n7_; clear n0_ n1_ n2_ n3_ n4_ n5_ n6_ n7_; clear ho hb hg hat; obtain ⟨Ao58, co58, eo58⟩ := Kd.R_slice HO949.out; subst eo58))
                          go_at_call 20; (with_reducible refine (impl_OutboxTick.calls k3 _ _ y947 t931 t950 t953 t956 t959 _ ?side1 ?side2 A54.out).mono ?_); (case side1 => repeat (first | exact (Kd.R_reads' HO949.out).2.2 | (with_reducible refine Kd.C_alloc ?_ _) | (with_reducible refine Kd.C_drewN ?_ _) | (with_reducible refine Kd.C_drew ?_))); (case side2 => exact (Kd.R_reads' HO949.out).2.1); rintro e w59 ⟨v951, v954, v957, rfl, ho0, ho1, ho2, hb⟩; replace HO_7 := Aside0.mk (Kd.R_below (rs HO_7) hb); have HO952 := Aside0.mk (Kd.R_lower (Kd.R_newB (Kd.R_new' (Kd.R_new' (Kd.R_new' (Kd.R_new' ho0 (Kd.R_lt (rs HO933))) (Kd.R_lt (rs HO936))) (Kd.R_lt (rs HO942))) (Kd.R_lt (rs HO949))) (g := gb914) (o := .cells #[.string t906, .int .i64 t907, .string t908, .int .i64 t909, .int .i64 t910] 24 (0, 0)) (ks BK914)) (below_size (bs HB))); have HO955 := Aside0.mk (Kd.R_lower (Kd.R_new' ho1 (Kd.R_lt (rs HO939))) (below_size (bs HB))); replace HO939 := Aside0.mk (Kd.R_elder' (rs HO939) (Kd.R_base ho1) hb); have HO958 := Aside0.mk (Kd.R_lower (Kd.R_newB (Kd.R_new' (Kd.R_new' (Kd.R_new' (Kd.R_new' ho2 (Kd.R_lt (rs HO933))) (Kd.R_lt (rs HO936))) (Kd.R_lt (rs HO942))) (Kd.R_lt (rs HO949))) (g := gb914) (o := .cells #[.string t906, .int .i64 t907, .string t908, .int .i64 t909, .int .i64 t910] 24 (0, 0)) (ks BK914)) (below_size (bs HB))); replace HO933 := Aside0.mk (Kd.R_mono (Kd.R_told (Kd.R_told (Kd.R_old (rs HO933) hb) (Kd.R_base ho0)) (Kd.R_base ho2)) (fun _ h_ => h_.1)); replace HO936 := Aside0.mk (Kd.R_mono (Kd.R_told (Kd.R_told (Kd.R_old (rs HO936) hb) (Kd.R_base ho0)) (Kd.R_base ho2)) (fun _ h_ => h_.1)); replace HO942 := Aside0.mk (Kd.R_mono (Kd.R_told (Kd.R_told (Kd.R_old (rs HO942) hb) (Kd.R_base ho0)) (Kd.R_base ho2)) (fun _ h_ => h_.1)); replace HO949 := Aside0.mk (Kd.R_mono (Kd.R_told (Kd.R_told (Kd.R_old (rs HO949) hb) (Kd.R_base ho0)) (Kd.R_base ho2)) (fun _ h_ => h_.1)); replace BK914 := Aside0.mk (blk_below (ks BK914) hb); replace HB := Aside0.mk (below_step (bs HB) hb); (try clear hb); (try clear hb2); (try clear hk); (try clear hi); (try clear ho0); (try clear ho1); (try clear ho2); have HC60 := Aside0.mk H; clear H
                          go_upto_region 17 with (first | ((with_reducible refine gate_dst (N := 12) rfl ?_); (try (refine gate_guard (by rfl) ?_; dsimp only)); refine bx 12 (cs := #[.slice none 0 0, .slice none 0 0, .slice none 0 0, .int .i64 0]) (t := 34) ?_; intro gb960 hg w61 hbox hb; replace HO_7 := Aside0.mk (Kd.R_below (rs HO_7) hb); replace HO933 := Aside0.mk (Kd.R_below (rs HO933) hb); replace HO936 := Aside0.mk (Kd.R_below (rs HO936) hb); replace HO939 := Aside0.mk (Kd.R_below (rs HO939) hb); replace HO942 := Aside0.mk (Kd.R_below (rs HO942) hb); replace HO949 := Aside0.mk (Kd.R_below (rs HO949) hb); replace HO952 := Aside0.mk (Kd.R_below (rs HO952) hb); replace HO955 := Aside0.mk (Kd.R_below (rs HO955) hb); replace HO958 := Aside0.mk (Kd.R_below (rs HO958) hb); have BK960 := Aside0.mk (hbox); have GW960 := Aside0.mk ((gs hg (bs HB))); have GE960 := Aside0.mk ((gs hg (bs HB))); replace HB := Aside0.mk (below_step (bs HB) hb); have NB914_960 := Aside0.mk ((gn hg (ks BK914))); have NB960_914 := Aside0.mk ((gm hg (ks BK914))); replace BK914 := Aside0.mk (blk_below (ks BK914) hb); clear hb hbox hg; obtain ⟨Ao62, co62, eo62⟩ := Kd.R_slice HO952.out; subst eo62; have hnb63 := NB960_914.out; have hnc63 := NB914_960.out; obtain ⟨hcz64_0, hcz64_1, hcz64_2, hcz64_3, hfz64_0, hfz64_1, hfz64_2, hfz64_3⟩ := cf4 BK960; obtain ⟨Ao65, co65, eo65⟩ := Kd.R_slice HO955.out; subst eo65; obtain ⟨Ao66, co66, eo66⟩ := Kd.R_slice HO958.out; subst eo66))
                          (try simp only [Act.put, List.setIfInBounds_toArray, List.set_cons_zero, List.set_cons_succ])
                          go_cut [109] (fun v109 wc => ∃ (kq : Nat) (x109_59 : Bool), v109 = .bool x109_59 ∧ Aside0 (laws_FnResend.j3 kq t931 x109_59 t950 t953 t956 t959 = some r) ∧ Aside0 (kq ≤ k3) ∧ Aside0 (Kd.R k24 24 wc w.heap.size (fun k_ => some k_ ≠ ((.slice Ao66 t956.length co66) : Value).ownBlock ∧ k_ ≠ gb914) (.slice Ao62 t950.length co62) t950) ∧ Aside0 (Kd.R k105 105 wc w.heap.size (fun _ => True) (.slice Ao65 t953.length co65) t953) ∧ Aside0 (Kd.R k24 24 wc w.heap.size (fun k_ => some k_ ≠ ((.slice Ao62 t950.length co62) : Value).ownBlock ∧ k_ ≠ gb914) (.slice Ao66 t956.length co66) t956) ∧ Aside0 (wc.heap[gb914]? = some (.cells #[.string t906, .int .i64 t907, .string t908, .int .i64 t909, .int .i64 t910] 24 (0, 0))) ∧ Aside0 (wc.heap[gb960]? = some (.cells #[(.slice Ao62 t950.length co62), (.slice Ao65 t953.length co65), (.slice Ao66 t956.length co66), .int .i64 t959] 34 (0, 0))) ∧ Aside0 (Below w.heap.size w wc))
                          case first =>
                            have H := HC60.out; clear HC60
                            by_cases c67 : t959 = 0
                            · rw [if_pos c67] at H; have c67b0 : (t959 == 0) = true := beq_iff_eq.mpr c67; have c67b1 : (t959 != 0) = false := bne_eq_false_iff_eq.mpr c67; clear c67
                              (first | rw [c67b0] | (simp only [i64_w, i32_w]; rw [c67b0]) | skip)
                              have H' := Aside0.mk H; clear H; have hnb68 := NB960_914.out; have hnc68 := NB914_960.out; obtain ⟨hcz69_0, hcz69_1, hcz69_2, hcz69_3, hfz69_0, hfz69_1, hfz69_2, hfz69_3⟩ := cf4 BK960
                              go_wp2
                              go_meet
                              case rel => exact ⟨_, (((wrap64 ((t950.length : Int) + (t956.length : Int))) != (t930.length : Int))), fg, H', ⟨by have := HJ2.out; have := HJ22.out; have := HK3.out; first | omega | exact Nat.le_refl _⟩, ⟨Kd.R_mono (rf (Kd.R_types HO952.out BK960.out (by decide))) (fun _ hk => ⟨hk.1.1.1.1.1.1, hk.1.2⟩)⟩, ⟨Kd.R_mono (rf (Kd.R_types HO955.out BK960.out (by decide))) (fun _ hk => trivial)⟩, ⟨Kd.R_mono (rf (Kd.R_types HO958.out BK960.out (by decide))) (fun _ hk => ⟨hk.1.1.1.1.1.1, hk.1.2⟩)⟩, ⟨ks BK914⟩, ⟨kp BK960⟩, ⟨bs HB⟩⟩
                            · rw [if_neg c67] at H; have c67b0 : (t959 == 0) = false := beq_eq_false_iff_ne.mpr c67; have c67b1 : (t959 != 0) = true := bne_iff_ne.mpr c67
                              (first | rw [c67b0] | (simp only [i64_w, i32_w]; rw [c67b0]) | skip)
                              have H' := Aside0.mk H; clear H; have hnb70 := NB960_914.out; have hnc70 := NB914_960.out; obtain ⟨hcz71_0, hcz71_1, hcz71_2, hcz71_3, hfz71_0, hfz71_1, hfz71_2, hfz71_3⟩ := cf4 BK960
                              go_wp2
                              go_meet
                              case rel => exact ⟨_, (true), fg, H', ⟨by have := HJ2.out; have := HJ22.out; have := HK3.out; first | omega | exact Nat.le_refl _⟩, ⟨Kd.R_mono (rf (Kd.R_types HO952.out BK960.out (by decide))) (fun _ hk => ⟨hk.1.1.1.1.1.1, hk.1.2⟩)⟩, ⟨Kd.R_mono (rf (Kd.R_types HO955.out BK960.out (by decide))) (fun _ hk => trivial)⟩, ⟨Kd.R_mono (rf (Kd.R_types HO958.out BK960.out (by decide))) (fun _ hk => ⟨hk.1.1.1.1.1.1, hk.1.2⟩)⟩, ⟨ks BK914⟩, ⟨kp BK960⟩, ⟨bs HB⟩⟩
                          case rest =>
                            clear HC60
                            try clear p2
                            try clear c3
                            try clear c5
                            try clear c6
                            try clear p6
                            try clear c7
                            try clear p9
                            try clear q9
                            try clear hx9
                            try clear c30
                            try clear c30b0
                            try clear c31
                            try clear c35
                            try clear c35b0
                            try clear c37
                            try clear c38
                            try clear c52
                            try clear c52b0
                            try clear c52b1
                            try clear c53
                            try clear c63
                            try clear p64
                            try clear c67
                            try clear c67b0
                            try clear c67b1
                            try clear c68
                            try clear c70
                            try clear hcz64_0
                            try clear hcz64_1
                            try clear hcz64_2
                            try clear hcz64_3
                            try clear hcz69_0
                            try clear hcz69_1
                            try clear hcz69_2
                            try clear hcz69_3
                            try clear hcz71_0
                            try clear hcz71_1
                            try clear hcz71_2
                            try clear hcz71_3
                            try clear hfz64_0
                            try clear hfz64_1
                            try clear hfz64_2
                            try clear hfz64_3
                            try clear hfz69_0
                            try clear hfz69_1
                            try clear hfz69_2
                            try clear hfz69_3
                            try clear hfz71_0
                            try clear hfz71_1
                            try clear hfz71_2
                            try clear hfz71_3
                            try clear hx927_0
                            try clear p927
                            try clear q927
                            obtain ⟨kq, x109_59, rfl, HA, HJ59, HO_961000, HO_961001, HO_961002, BK914, BK960, HB⟩ := hcut
                            cases kq with
                            | zero => exact absurd HA.out (by simp [laws_FnResend.j3])
                            | succ kj59 =>
                              have H := HA.out; clear HA; simp only [laws_FnResend.j3] at H
                              by_cases c72 : x109_59 = true
                              · subst c72
                                have H1 : (some false) = some r := by rw [if_pos rfl] at H; exact H
                                clear H; have H := H1; clear H1; obtain rfl := Option.some.inj H
                                go_wp2
                                go_ret
                                exact ⟨ff, bs HB⟩
                              · replace c72 := Bool.eq_false_iff.mpr c72; subst c72
                                have H1 : (laws_FnResend.l1 kj59 t931 0 t950 t953 t956 t959) = some r := by rw [if_neg (show ¬ (false = true) by decide)] at H; exact H
                                clear H; have H := H1; clear H1; have H' := Aside0.mk H; clear H
                                go_wp2
                                go_loopg [13] kj59 (fun kq v13 w' => ∃ (x13_5 : Int), v13 = .int .i64 x13_5 ∧ Aside0 (laws_FnResend.l1 kq t931 x13_5 t950 t953 t956 t959 = some r) ∧ Aside0 (kq ≤ kj59) ∧ Aside0 (Kd.R k24 24 w' w.heap.size (fun k_ => some k_ ≠ ((.slice Ao66 t956.length co66) : Value).ownBlock ∧ k_ ≠ gb914) (.slice Ao62 t950.length co62) t950) ∧ Aside0 (Kd.R k105 105 w' w.heap.size (fun _ => True) (.slice Ao65 t953.length co65) t953) ∧ Aside0 (Kd.R k24 24 w' w.heap.size (fun k_ => some k_ ≠ ((.slice Ao62 t950.length co62) : Value).ownBlock ∧ k_ ≠ gb914) (.slice Ao66 t956.length co66) t956) ∧ Aside0 (w'.heap[gb914]? = some (.cells #[.string t906, .int .i64 t907, .string t908, .int .i64 t909, .int .i64 t910] 24 (0, 0))) ∧ Aside0 (w'.heap[gb960]? = some (.cells #[(.slice Ao62 t950.length co62), (.slice Ao65 t953.length co65), (.slice Ao66 t956.length co66), .int .i64 t959] 34 (0, 0))) ∧ Aside0 (Below w.heap.size w w'))
                                case atStart => exact ⟨(0), fg, H', ⟨Nat.le_refl _⟩, ⟨by (with_reducible repeat (first | apply Kd.R_alloc | apply Kd.R_drewN | apply Kd.R_drew)); exact HO_961000.out⟩, ⟨by (with_reducible repeat (first | apply Kd.R_alloc | apply Kd.R_drewN | apply Kd.R_drew)); exact HO_961001.out⟩, ⟨by (with_reducible repeat (first | apply Kd.R_alloc | apply Kd.R_drewN | apply Kd.R_drew)); exact HO_961002.out⟩, ⟨ks BK914⟩, ⟨ks BK960⟩, ⟨bs HB⟩⟩
                                case round =>
                                  clear H'
                                  try clear p2
                                  try clear c3
                                  try clear c5
                                  try clear c6
                                  try clear p6
                                  try clear c7
                                  try clear p9
                                  try clear q9
                                  try clear hx9
                                  try clear c30
                                  try clear c30b0
                                  try clear c31
                                  try clear c35
                                  try clear c35b0
                                  try clear c37
                                  try clear c38
                                  try clear c52
                                  try clear c52b0
                                  try clear c52b1
                                  try clear c53
                                  try clear c63
                                  try clear p64
                                  try clear c67
                                  try clear c67b0
                                  try clear c67b1
                                  try clear c68
                                  try clear c70
                                  try clear c72
                                  try clear hcz64_0
                                  try clear hcz64_1
                                  try clear hcz64_2
                                  try clear hcz64_3
                                  try clear hcz69_0
                                  try clear hcz69_1
                                  try clear hcz69_2
                                  try clear hcz69_3
                                  try clear hcz71_0
                                  try clear hcz71_1
                                  try clear hcz71_2
                                  try clear hcz71_3
                                  try clear hfz64_0
                                  try clear hfz64_1
                                  try clear hfz64_2
                                  try clear hfz64_3
                                  try clear hfz69_0
                                  try clear hfz69_1
                                  try clear hfz69_2
                                  try clear hfz69_3
                                  try clear hfz71_0
                                  try clear hfz71_1
                                  try clear hfz71_2
                                  try clear hfz71_3
                                  try clear hx927_0
                                  try clear p2
                                  try clear p6
                                  try clear p64
                                  try clear p9
                                  try clear p927
                                  try clear q9
                                  try clear q927
                                  obtain ⟨x13_5, rfl, HA, HK5, HO_961000, HO_961001, HO_961002, BK914, BK960, HB⟩ := hrel
                                  cases gk with
                                  | zero => exact absurd HA.out (by simp [laws_FnResend.l1])
                                  | succ k5 =>
                                    have H := HA.out; clear HA; simp only [laws_FnResend.l1] at H
                                    by_cases c73 : x13_5 < (t956.length : Int)
                                    · rw [if_pos c73] at H; have c73b0 : decide (x13_5 < (t956.length : Int)) = true := decide_eq_true c73; clear c73
                                      by_cases c74 : 0 ≤ x13_5
                                      · rw [if_pos c74] at H; have c74b0 : decide (0 ≤ x13_5) = true := decide_eq_true c74; clear c74
                                        by_cases c75 : ((rd_T24 t956 x13_5).f3) = 5
                                        · rw [if_pos c75] at H; have c75b0 : (((rd_T24 t956 x13_5).f3) == 5) = true := beq_iff_eq.mpr c75; have c75b1 : (((rd_T24 t956 x13_5).f3) != 5) = false := bne_eq_false_iff_eq.mpr c75; clear c75
                                          by_cases c76 : ((rd_T24 t956 x13_5).f4) > t931
                                          · rw [if_pos c76] at H; have c76b0 : decide (t931 < ((rd_T24 t956 x13_5).f4)) = true := decide_eq_true c76; clear c76; obtain rfl := Option.some.inj H; have hnb77 := NB960_914.out; have hnc77 := NB914_960.out; obtain ⟨hcz78_0, hcz78_1, hcz78_2, hcz78_3, hfz78_0, hfz78_1, hfz78_2, hfz78_3⟩ := cf4 BK960; have p961 : 0 ≤ (x13_5 : Int) := oa; have q961 : x13_5 < (t956.length : Int) := oa; obtain ⟨ad961, e961, hx961_0, hx961_1, hx961_2, hx961_3, hx961_4⟩ := at_T24 (Kd.R_reads' HO_961002.out).2.2 x13_5 p961 q961
                                            cases e961
                                            replace p961 := eq_true p961; replace q961 := eq_true q961; have p962 : 0 ≤ (x13_5 : Int) := oa; have q962 : x13_5 < (t956.length : Int) := oa; obtain ⟨ad962, e962, hx962_0, hx962_1, hx962_2, hx962_3, hx962_4⟩ := at_T24 (Kd.R_reads' HO_961002.out).2.2 x13_5 p962 q962; obtain rfl : ad961 = ad962 := (by injection e962); replace p962 := eq_true p962; replace q962 := eq_true q962
                                            go_wp2
                                            go_ret
                                            exact ⟨ff, bs HB⟩
                                          · rw [if_neg c76] at H; have c76b0 : decide (t931 < ((rd_T24 t956 x13_5).f4)) = false := decide_eq_false c76; clear c76; have H' := Aside0.mk H; clear H; have hnb79 := NB960_914.out; have hnc79 := NB914_960.out; obtain ⟨hcz80_0, hcz80_1, hcz80_2, hcz80_3, hfz80_0, hfz80_1, hfz80_2, hfz80_3⟩ := cf4 BK960; have p961 : 0 ≤ (x13_5 : Int) := oa; have q961 : x13_5 < (t956.length : Int) := oa; obtain ⟨ad961, e961, hx961_0, hx961_1, hx961_2, hx961_3, hx961_4⟩ := at_T24 (Kd.R_reads' HO_961002.out).2.2 x13_5 p961 q961
                                            cases e961
                                            replace p961 := eq_true p961; replace q961 := eq_true q961; have p962 : 0 ≤ (x13_5 : Int) := oa; have q962 : x13_5 < (t956.length : Int) := oa; obtain ⟨ad962, e962, hx962_0, hx962_1, hx962_2, hx962_3, hx962_4⟩ := at_T24 (Kd.R_reads' HO_961002.out).2.2 x13_5 p962 q962; obtain rfl : ad961 = ad962 := (by injection e962); replace p962 := eq_true p962; replace q962 := eq_true q962
                                            go_wp2
                                            go_roundg k5
                                            case measure => have := HJ2.out; have := HJ22.out; have := HK3.out; have := HJ59.out; have := HK5.out; omega
                                            case rel => exact ⟨(wrap64 (x13_5 + 1)), fg, H', ⟨by have := HJ2.out; have := HJ22.out; have := HK3.out; have := HJ59.out; have := HK5.out; omega⟩, ⟨by (with_reducible repeat (first | apply Kd.R_alloc | apply Kd.R_drewN | apply Kd.R_drew)); exact HO_961000.out⟩, ⟨by (with_reducible repeat (first | apply Kd.R_alloc | apply Kd.R_drewN | apply Kd.R_drew)); exact HO_961001.out⟩, ⟨by (with_reducible repeat (first | apply Kd.R_alloc | apply Kd.R_drewN | apply Kd.R_drew)); exact HO_961002.out⟩, ⟨ks BK914⟩, ⟨ks BK960⟩, ⟨bs HB⟩⟩
                                        · rw [if_neg c75] at H; have c75b0 : (((rd_T24 t956 x13_5).f3) == 5) = false := beq_eq_false_iff_ne.mpr c75; have c75b1 : (((rd_T24 t956 x13_5).f3) != 5) = true := bne_iff_ne.mpr c75; obtain rfl := Option.some.inj H; have hnb81 := NB960_914.out; have hnc81 := NB914_960.out; obtain ⟨hcz82_0, hcz82_1, hcz82_2, hcz82_3, hfz82_0, hfz82_1, hfz82_2, hfz82_3⟩ := cf4 BK960; have p961 : 0 ≤ (x13_5 : Int) := oa; have q961 : x13_5 < (t956.length : Int) := oa; obtain ⟨ad961, e961, hx961_0, hx961_1, hx961_2, hx961_3, hx961_4⟩ := at_T24 (Kd.R_reads' HO_961002.out).2.2 x13_5 p961 q961
                                          cases e961
                                          replace p961 := eq_true p961; replace q961 := eq_true q961
                                          go_wp2
                                          go_ret
                                          exact ⟨ff, bs HB⟩
                                      · rw [if_neg c74] at H
                                        exact absurd H (by simp)
                                    · rw [if_neg c73] at H; have c73b0 : decide (x13_5 < (t956.length : Int)) = false := decide_eq_false c73; clear c73; obtain ⟨y963, hy963⟩ : ∃ y_ : List (S24), y_ = (([] : List (S24))) := ⟨_, rfl⟩
                                      replace H : (if y963.length + t950.length < 2513169434916 then ((impl_OutboxRight.f k5 (y963 ++ t950)).bind fun t969 => (some t969)) else (none)) = some r := by first | (rw [hy963]; with_reducible exact H) | (have H2_ := (Option.bind_some _ _).symm.trans H; rw [hy963]; with_reducible exact H2_) | (have H2_ := (Option.bind_some _ _).symm.trans H; with_reducible exact H2_) | with_reducible exact H | (rw [hy963]; exact H) | exact H
                                      have Ny963 := Aside0.mk hy963; clear hy963
                                      by_cases c83 : y963.length + t950.length < 2513169434916
                                      · rw [if_pos c83] at H; have LMc83 := Aside0.mk c83; clear c83; obtain ⟨y966, hy966⟩ : ∃ y_ : List (S24), y_ = (y963 ++ t950) := ⟨_, rfl⟩
                                        replace H : ((impl_OutboxRight.f k5 y966).bind fun t969 => (some t969)) = some r := by first | (rw [hy966]; with_reducible exact H) | (have H2_ := (Option.bind_some _ _).symm.trans H; rw [hy966]; with_reducible exact H2_) | (have H2_ := (Option.bind_some _ _).symm.trans H; with_reducible exact H2_) | with_reducible exact H | (rw [hy966]; exact H) | exact H
                                        have Ny966 := Aside0.mk hy966; clear hy966; replace H := Option.bind_eq_some_iff.mp H; obtain ⟨t969, A840, H⟩ := H; replace H : (some t969) = some r := H; have A84 := Aside0.mk A840; clear A840; obtain rfl := Option.some.inj H; have hnb85 := NB960_914.out; have hnc85 := NB914_960.out; obtain ⟨hcz86_0, hcz86_1, hcz86_2, hcz86_3, hfz86_0, hfz86_1, hfz86_2, hfz86_3⟩ := cf4 BK960
                                        go_wp2_with (first | ((with_reducible refine gate_dst (N := 134) rfl ?_); (try (refine gate_guard (by rfl) ?_; dsimp only)); refine Kd.R_lit k24 _ 24 ?hg (N := 134) ?hd (xs := ([] : List (S24))) (inner := []) (ok := fun _ => True) (okp := fun _ => True) ?hr ?hp (fun _ hk => hk) trivial (Below.refl _ _) (Nat.le_refl _) (by simp) ?_; (case hd => rfl); (case hg => rfl); (case hr => first | (go_simp; done) | (go_simp; rfl)); (case hp => exact (Reps.none _ _)); intro v964 w87 ho88 hb hg_ hnew_; clear hg_ hnew_; (first | rw [← Ny963.out] at ho88 | (simp only [Int.reduceToNat] at ho88; rw [← Ny963.out] at ho88)); replace HO_961001 := Aside0.mk (Kd.R_below (rs HO_961001) hb); have HO965 := Aside0.mk (Kd.R_lower (Kd.R_newB (Kd.R_new' (Kd.R_new' ho88 (Kd.R_lt (rs HO_961000))) (Kd.R_lt (rs HO_961002))) (g := gb914) (o := .cells #[.string t906, .int .i64 t907, .string t908, .int .i64 t909, .int .i64 t910] 24 (0, 0)) (ks BK914)) (below_size (bs HB))); replace HO_961000 := Aside0.mk (Kd.R_elder' (rs HO_961000) (Kd.R_base ho88) hb); replace HO_961002 := Aside0.mk (Kd.R_elder' (rs HO_961002) (Kd.R_base ho88) hb); replace BK914 := Aside0.mk (blk_below (ks BK914) hb); replace BK960 := Aside0.mk (blk_below (ks BK960) hb); replace HB := Aside0.mk (below_step (bs HB) hb); clear hb ho88; have hcz89_0 : w87.cell? ⟨gb960, 0, none⟩ = some (.slice Ao62 t950.length co62) := (blk_cell BK960.out 0).trans rfl; have hcz89_1 : w87.cell? ⟨gb960, 1, none⟩ = some (.slice Ao65 t953.length co65) := (blk_cell BK960.out 1).trans rfl; have hcz89_2 : w87.cell? ⟨gb960, 2, none⟩ = some (.slice Ao66 t956.length co66) := (blk_cell BK960.out 2).trans rfl; have hcz89_3 : w87.cell? ⟨gb960, 3, none⟩ = some (.int .i64 t959) := (blk_cell BK960.out 3).trans rfl; have hfz89_0 := blk_frozen BK960.out 0; have hfz89_1 := blk_frozen BK960.out 1; have hfz89_2 := blk_frozen BK960.out 2; have hfz89_3 := blk_frozen BK960.out 3) | ((with_reducible refine gate_builtin (b := .append) (xs := #[.tmp 134, .tmp 136]) rfl ?_); (try (refine gate_guard (by rfl) ?_; dsimp only)); at_builtin; refine Kd.R_append_rows k24 (w0 := w) w.heap.size rfl (.tmp 134) (.tmp 136) 29 24 (.agg #[(.string ⟨#[]⟩), (.int .i64 0), (.string ⟨#[]⟩), (.int .i64 0), (.int .i64 0)]) 56 rfl Try.underlying29 info24 rfl (by decide) (by omega) v964 y963 t950 _ _ _ (fun k_ => some k_ ≠ (.slice Ao62 t950.length co62 : Value).ownBlock ∧ some k_ ≠ (.slice Ao66 t956.length co66 : Value).ownBlock ∧ k_ ≠ gb914) (fun _ => False) rfl rfl ?aO ?aR (fun _ _ h => h) (fun _ h => h.elim) ?aF ?aB ?aS ?aL ?_; (case aR => repeat (first | exact (Kd.R_reads' HO_961000.out).2.2 | (with_reducible refine Kd.C_alloc ?_ _) | (with_reducible refine Kd.C_drewN ?_ _) | (with_reducible refine Kd.C_drew ?_))); (case aB => exact (bs HB)); (case aF => exact (fun k_ hk => ⟨Kd.fresh' (Kd.R_lt (rs HO_961000)) k_ hk, Kd.fresh' (Kd.R_lt (rs HO_961002)) k_ hk, Kd.freshB (g := gb914) (o := .cells #[.string t906, .int .i64 t907, .string t908, .int .i64 t909, .int .i64 t910] 24 (0, 0)) (ks BK914) k_ hk⟩)); (case aO => exact (by (with_reducible repeat (first | apply Kd.R_alloc | apply Kd.R_drewN | apply Kd.R_drew)); exact Kd.R_mono HO965.out (fun _ hk => ⟨hk.1.1.2, ⟨hk.1.2, hk.2⟩⟩))); (case aS => exact (below_size (bs HB))); (case aL => have := LMc83.out; omega); intro v967 w90 ho hb hg hat; rw [← Ny966.out] at ho; have n0_ := Aside0.mk (Kd.R_after (ok := (fun k_ => some k_ ≠ (.slice Ao66 t956.length co66 : Value).ownBlock ∧ k_ ≠ gb914)) (rs HO_961000) hg hat); have n1_ := Aside0.mk (Kd.R_over' (rs HO_961001) (Kd.R_typed (rs HO965)) (by decide) hg); have n2_ := Aside0.mk (Kd.R_after (ok := (fun k_ => some k_ ≠ (.slice Ao62 t950.length co62 : Value).ownBlock ∧ k_ ≠ gb914)) (rs HO_961002) hg hat); have n3_ := Aside0.mk (blk_grown (ks BK914) hg (Kd.R_away HO965.out (fun _ hk => hk.2))); have n4_ := Aside0.mk (blk_grown (ks BK960) hg (Kd.R_ne HO965.out BK960.out (by decide))); have n5_ := Aside0.mk (hb); have n6_ := Aside0.mk (ho); clear HO_961000; clear HO_961001; clear HO_961002; clear BK914; clear BK960; clear HB; clear HO965; have HO_961000 := n0_; have HO_961001 := n1_; have HO_961002 := n2_; have BK914 := n3_; have BK960 := n4_; have HB := n5_; have HO968 := n6_; clear n0_ n1_ n2_ n3_ n4_ n5_ n6_; clear ho hb hg hat; obtain ⟨Ao91, co91, eo91⟩ := Kd.R_slice HO968.out; subst eo91) | ((first | ((with_reducible refine gate_callee (f := 21) rfl ?_); refine goesL_ (some 138) rfl rfl Try.func21 (by kernel_rfl) rfl #[.slice Ao91 y966.length co91] rfl (by (try simp only [List.map_toArray, List.map_cons, List.map_nil]); first | done | rfl | (simp only [List.length_drop, List.length_take]; rfl)) ?_; (with_reducible refine (impl_OutboxRight.calls k5 _ _ y966 t969 _ ?side1 ?side2 A84.out).mono ?_); (case side1 => repeat (first | exact (Kd.R_reads' HO968.out).2.2 | (with_reducible refine Kd.C_alloc ?_ _) | (with_reducible refine Kd.C_drewN ?_ _) | (with_reducible refine Kd.C_drew ?_))); (case side2 => exact (Kd.R_reads' HO968.out).2.1); rintro e w92 ⟨rfl, hb⟩; refine ⟨_, rfl, ?_⟩) | (go_at_call 21; (with_reducible refine (impl_OutboxRight.calls k5 _ _ y966 t969 _ ?side1 ?side2 A84.out).mono ?_); (case side1 => repeat (first | exact (Kd.R_reads' HO968.out).2.2 | (with_reducible refine Kd.C_alloc ?_ _) | (with_reducible refine Kd.C_drewN ?_ _) | (with_reducible refine Kd.C_drew ?_))); (case side2 => exact (Kd.R_reads' HO968.out).2.1); rintro e w92 ⟨rfl, hb⟩)); replace HO_961000 := Aside0.mk (Kd.R_below (rs HO_961000) hb); replace HO_961001 := Aside0.mk (Kd.R_below (rs HO_961001) hb); replace HO_961002 := Aside0.mk (Kd.R_below (rs HO_961002) hb); replace HO968 := Aside0.mk (Kd.R_below (rs HO968) hb); replace BK914 := Aside0.mk (blk_below (ks BK914) hb); replace BK960 := Aside0.mk (blk_below (ks BK960) hb); replace HB := Aside0.mk (below_step (bs HB) hb); (try clear hb); (try clear hb2); (try clear hk); (try clear hi)))
                                        go_ret
                                        exact ⟨ff, bs HB⟩
                                      · rw [if_neg c83] at H
                                        exact absurd H (by simp)
                        · rw [if_neg c53] at H
                          exact absurd H (by simp)
                      · rw [if_neg c52] at H; have c52b0 : (t943 == 0) = false := beq_eq_false_iff_ne.mpr c52; have c52b1 : (t943 != 0) = true := bne_iff_ne.mpr c52; obtain rfl := Option.some.inj H
                        go_wp2
                        go_ret
                        exact ⟨ff, bs HB⟩
        · rw [if_neg c8] at H
          exact absurd H (by simp)
end Go.Proofs.Ytefmkmhjbfpelaa.QO
