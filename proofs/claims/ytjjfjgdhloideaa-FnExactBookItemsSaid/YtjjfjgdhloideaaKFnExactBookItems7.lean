-- Merged by a program of this session (wip/tool/pack.py) out of its own texts for this claim.
import Derived.Test.YtjjfjgdhloideaaKFnExactBookItems0
import Derived.Test.YtjjfjgdhloideaaKFnExactBookItems1
import Derived.Test.YtjjfjgdhloideaaKFnExactBookItems2
import Derived.Test.YtjjfjgdhloideaaKFnExactBookItems6
namespace Go.Proofs.Ytjjfjgdhloideaa.QH
open Go.RowKit Go.Proofs.YtjjfjgdhloideaaW.PrintWords Go.Proofs.YtjjfjgdhloideaaW.PrintLast Go.Proofs.YtjjfjgdhloideaaW.PrintMore
attribute [local go_sem] max2_int min2_int max_two min_two max_three min_three max_four min_four   -- for this text's walks alone
set_option linter.unusedVariables false
set_option linter.unusedSimpArgs false
set_option maxHeartbeats 8000000 in
set_option maxRecDepth 100000 in
theorem spec_BookItems.calls (k : Nat) (A0_0 : Option Addr) (c0_0 : Nat) (l0_0 : List (S71)) (A0_1 : Option Addr) (c0_1 : Nat) (l0_1 : List (S73)) (r : List ByteArray) (w : World) (hr0_0 : Kd.C k71 w A0_0 l0_0.length l0_0) (hc0_0 : l0_0.length ≤ c0_0) (hr0_1 : Kd.C k73 w A0_1 l0_1.length l0_1) (hc0_1 : l0_1.length ≤ c0_1) (h : spec_BookItems.f k l0_0 l0_1 = some r) :
    Calls Try.prog 12 #[.agg #[.slice A0_0 l0_0.length c0_0, .slice A0_1 l0_1.length c0_1]] w fun e w' => ∃ v0_ : Value, e = .returned (v0_) ∧ Kd.R Kd.string 9 w' w.heap.size (fun _ => True) v0_ r ∧ Below w.heap.size w w' := by
  have hu27 := Try.underlying27; have HR0_0 := Aside0.mk hr0_0; have HC0_0 := Aside0.mk hc0_0; clear hr0_0 hc0_0; have HR0_1 := Aside0.mk hr0_1; have HC0_1 := Aside0.mk hc0_1; clear hr0_1 hc0_1; have HB := Aside0.mk (Below.refl w.heap.size w); have H : ((some (([] : List ByteArray) : List ByteArray)).bind fun y164 => ((spec_BookRight.f k l0_0 l0_1).bind fun t167 => (if t167 = true then (spec_BookItems.l0 k y164 (([] : List ByteArray)) 0 l0_0 l0_1) else (some y164)))) = some r := h; clear h; obtain ⟨y164, hy164⟩ : ∃ y_ : List ByteArray, y_ = (([] : List ByteArray)) := ⟨_, rfl⟩
  replace H : ((spec_BookRight.f k l0_0 l0_1).bind fun t167 => (if t167 = true then (spec_BookItems.l0 k y164 (([] : List ByteArray)) 0 l0_0 l0_1) else (some y164))) = some r := by first | (rw [hy164]; with_reducible exact H) | (have H2_ := (Option.bind_some _ _).symm.trans H; rw [hy164]; with_reducible exact H2_) | (have H2_ := (Option.bind_some _ _).symm.trans H; with_reducible exact H2_) | with_reducible exact H | (rw [hy164]; exact H) | exact H
  have Ny164 := Aside0.mk hy164; clear hy164; replace H := Option.bind_eq_some_iff.mp H; obtain ⟨t167, A20, H⟩ := H; replace H : (if t167 = true then (spec_BookItems.l0 k y164 (([] : List ByteArray)) 0 l0_0 l0_1) else (some y164)) = some r := H; have A2 := Aside0.mk A20; clear A20
  by_cases c3 : t167 = true
  · subst c3
    have H1 : (spec_BookItems.l0 k y164 (([] : List ByteArray)) 0 l0_0 l0_1) = some r := by rw [if_pos rfl] at H; exact H
    clear H; have H := H1; clear H1; obtain ⟨y168, hy168⟩ : ∃ y_ : List ByteArray, y_ = (([] : List ByteArray)) := ⟨_, rfl⟩
    replace H : (spec_BookItems.l0 k y164 y168 0 l0_0 l0_1) = some r := by first | (rw [hy168]; with_reducible exact H) | (have H2_ := (Option.bind_some _ _).symm.trans H; rw [hy168]; with_reducible exact H2_) | (have H2_ := (Option.bind_some _ _).symm.trans H; with_reducible exact H2_) | with_reducible exact H | (rw [hy168]; exact H) | exact H
    have Ny168 := Aside0.mk hy168; clear hy168; have H' := Aside0.mk H; clear H
    go_enter Try.func12, Try.ntmps12
    go_wp2_with (first | ((with_reducible refine gate_dst (N := 1) rfl ?_); (try (refine gate_guard (by rfl) ?_; dsimp only)); refine bx 1 (cs := #[.slice A0_0 l0_0.length c0_0, .slice A0_1 l0_1.length c0_1]) (t := 27) ?_; intro gb163 hg w4 hbox hb; have BK163 := Aside0.mk (hbox); have GW163 := Aside0.mk ((gs hg (bs HB))); have GE163 := Aside0.mk ((gs hg (bs HB))); replace HB := Aside0.mk (below_step (bs HB) hb); clear hb hbox hg) | ((with_reducible refine gate_dst (N := 10) rfl ?_); (try (refine gate_guard (by rfl) ?_; dsimp only)); refine Kd.R_lit Kd.string _ 9 ?hg (N := 10) ?hd (xs := ([] : List ByteArray)) (inner := []) (ok := fun _ => True) (okp := fun _ => True) ?hr ?hp (fun _ hk => hk) trivial (Below.refl _ _) (Nat.le_refl _) (by simp) ?_; (case hd => rfl); (case hg => rfl); (case hr => first | (go_simp; done) | (go_simp; rfl)); (case hp => exact (Reps.none _ _)); intro v165 w5 ho6 hb hg_ hnew_; clear hg_ hnew_; (first | rw [← Ny164.out] at ho6 | (simp only [Int.reduceToNat] at ho6; rw [← Ny164.out] at ho6)); have HO166 := Aside0.mk (Kd.R_lower ho6 (below_size (bs HB))); replace BK163 := Aside0.mk (blk_below (ks BK163) hb); replace HB := Aside0.mk (below_step (bs HB) hb); clear hb ho6; have hcz7_0 : w5.cell? ⟨gb163, 0, none⟩ = some (.slice A0_0 l0_0.length c0_0) := (blk_cell BK163.out 0).trans rfl; have hcz7_1 : w5.cell? ⟨gb163, 1, none⟩ = some (.slice A0_1 l0_1.length c0_1) := (blk_cell BK163.out 1).trans rfl; have hfz7_0 := blk_frozen BK163.out 0; have hfz7_1 := blk_frozen BK163.out 1) | (go_at_call 41; (with_reducible refine (spec_BookRight.calls k _ _ l0_0 _ _ l0_1 true _ (Kd.C_below HR0_0.out (bs HB)) HC0_0.out (Kd.C_below HR0_1.out (bs HB)) HC0_1.out A2.out).mono ?_); rintro e w8 ⟨rfl, hb⟩; replace HO166 := Aside0.mk (Kd.R_below (rs HO166) hb); replace BK163 := Aside0.mk (blk_below (ks BK163) hb); replace HB := Aside0.mk (below_step (bs HB) hb); (try clear hb); (try clear hb2); (try clear hk); (try clear hi)) | ((with_reducible refine gate_dst (N := 15) rfl ?_); (try (refine gate_guard (by rfl) ?_; dsimp only)); refine Kd.R_lit Kd.string _ 9 ?hg (N := 15) ?hd (xs := ([] : List ByteArray)) (inner := []) (ok := fun _ => True) (okp := fun _ => True) ?hr ?hp (fun _ hk => hk) trivial (Below.refl _ _) (Nat.le_refl _) (by simp) ?_; (case hd => rfl); (case hg => rfl); (case hr => first | (go_simp; done) | (go_simp; rfl)); (case hp => exact (Reps.none _ _)); intro v169 w9 ho10 hb hg_ hnew_; clear hg_ hnew_; (first | rw [← Ny168.out] at ho10 | (simp only [Int.reduceToNat] at ho10; rw [← Ny168.out] at ho10)); have HO170 := Aside0.mk (Kd.R_lower (Kd.R_new' ho10 (Kd.R_lt (rs HO166))) (below_size (bs HB))); replace HO166 := Aside0.mk (Kd.R_elder' (rs HO166) (Kd.R_base ho10) hb); replace BK163 := Aside0.mk (blk_below (ks BK163) hb); replace HB := Aside0.mk (below_step (bs HB) hb); clear hb ho10))
    repeat (go_quiet (first | ((with_reducible refine gate_dst (N := 1) rfl ?_); (try (refine gate_guard (by rfl) ?_; dsimp only)); refine bx 1 (cs := #[.slice A0_0 l0_0.length c0_0, .slice A0_1 l0_1.length c0_1]) (t := 27) ?_; intro gb163 hg w4 hbox hb; have BK163 := Aside0.mk (hbox); have GW163 := Aside0.mk ((gs hg (bs HB))); have GE163 := Aside0.mk ((gs hg (bs HB))); replace HB := Aside0.mk (below_step (bs HB) hb); clear hb hbox hg) | ((with_reducible refine gate_dst (N := 10) rfl ?_); (try (refine gate_guard (by rfl) ?_; dsimp only)); refine Kd.R_lit Kd.string _ 9 ?hg (N := 10) ?hd (xs := ([] : List ByteArray)) (inner := []) (ok := fun _ => True) (okp := fun _ => True) ?hr ?hp (fun _ hk => hk) trivial (Below.refl _ _) (Nat.le_refl _) (by simp) ?_; (case hd => rfl); (case hg => rfl); (case hr => first | (go_simp; done) | (go_simp; rfl)); (case hp => exact (Reps.none _ _)); intro v165 w5 ho6 hb hg_ hnew_; clear hg_ hnew_; (first | rw [← Ny164.out] at ho6 | (simp only [Int.reduceToNat] at ho6; rw [← Ny164.out] at ho6)); have HO166 := Aside0.mk (Kd.R_lower ho6 (below_size (bs HB))); replace BK163 := Aside0.mk (blk_below (ks BK163) hb); replace HB := Aside0.mk (below_step (bs HB) hb); clear hb ho6; have hcz7_0 : w5.cell? ⟨gb163, 0, none⟩ = some (.slice A0_0 l0_0.length c0_0) := (blk_cell BK163.out 0).trans rfl; have hcz7_1 : w5.cell? ⟨gb163, 1, none⟩ = some (.slice A0_1 l0_1.length c0_1) := (blk_cell BK163.out 1).trans rfl; have hfz7_0 := blk_frozen BK163.out 0; have hfz7_1 := blk_frozen BK163.out 1) | (go_at_call 41; (with_reducible refine (spec_BookRight.calls k _ _ l0_0 _ _ l0_1 true _ (Kd.C_below HR0_0.out (bs HB)) HC0_0.out (Kd.C_below HR0_1.out (bs HB)) HC0_1.out A2.out).mono ?_); rintro e w8 ⟨rfl, hb⟩; replace HO166 := Aside0.mk (Kd.R_below (rs HO166) hb); replace BK163 := Aside0.mk (blk_below (ks BK163) hb); replace HB := Aside0.mk (below_step (bs HB) hb); (try clear hb); (try clear hb2); (try clear hk); (try clear hi)) | ((with_reducible refine gate_dst (N := 15) rfl ?_); (try (refine gate_guard (by rfl) ?_; dsimp only)); refine Kd.R_lit Kd.string _ 9 ?hg (N := 15) ?hd (xs := ([] : List ByteArray)) (inner := []) (ok := fun _ => True) (okp := fun _ => True) ?hr ?hp (fun _ hk => hk) trivial (Below.refl _ _) (Nat.le_refl _) (by simp) ?_; (case hd => rfl); (case hg => rfl); (case hr => first | (go_simp; done) | (go_simp; rfl)); (case hp => exact (Reps.none _ _)); intro v169 w9 ho10 hb hg_ hnew_; clear hg_ hnew_; (first | rw [← Ny168.out] at ho10 | (simp only [Int.reduceToNat] at ho10; rw [← Ny168.out] at ho10)); have HO170 := Aside0.mk (Kd.R_lower (Kd.R_new' ho10 (Kd.R_lt (rs HO166))) (below_size (bs HB))); replace HO166 := Aside0.mk (Kd.R_elder' (rs HO166) (Kd.R_base ho10) hb); replace BK163 := Aside0.mk (blk_below (ks BK163) hb); replace HB := Aside0.mk (below_step (bs HB) hb); clear hb ho10)); try go_wp2_with (first | ((with_reducible refine gate_dst (N := 1) rfl ?_); (try (refine gate_guard (by rfl) ?_; dsimp only)); refine bx 1 (cs := #[.slice A0_0 l0_0.length c0_0, .slice A0_1 l0_1.length c0_1]) (t := 27) ?_; intro gb163 hg w4 hbox hb; have BK163 := Aside0.mk (hbox); have GW163 := Aside0.mk ((gs hg (bs HB))); have GE163 := Aside0.mk ((gs hg (bs HB))); replace HB := Aside0.mk (below_step (bs HB) hb); clear hb hbox hg) | ((with_reducible refine gate_dst (N := 10) rfl ?_); (try (refine gate_guard (by rfl) ?_; dsimp only)); refine Kd.R_lit Kd.string _ 9 ?hg (N := 10) ?hd (xs := ([] : List ByteArray)) (inner := []) (ok := fun _ => True) (okp := fun _ => True) ?hr ?hp (fun _ hk => hk) trivial (Below.refl _ _) (Nat.le_refl _) (by simp) ?_; (case hd => rfl); (case hg => rfl); (case hr => first | (go_simp; done) | (go_simp; rfl)); (case hp => exact (Reps.none _ _)); intro v165 w5 ho6 hb hg_ hnew_; clear hg_ hnew_; (first | rw [← Ny164.out] at ho6 | (simp only [Int.reduceToNat] at ho6; rw [← Ny164.out] at ho6)); have HO166 := Aside0.mk (Kd.R_lower ho6 (below_size (bs HB))); replace BK163 := Aside0.mk (blk_below (ks BK163) hb); replace HB := Aside0.mk (below_step (bs HB) hb); clear hb ho6; have hcz7_0 : w5.cell? ⟨gb163, 0, none⟩ = some (.slice A0_0 l0_0.length c0_0) := (blk_cell BK163.out 0).trans rfl; have hcz7_1 : w5.cell? ⟨gb163, 1, none⟩ = some (.slice A0_1 l0_1.length c0_1) := (blk_cell BK163.out 1).trans rfl; have hfz7_0 := blk_frozen BK163.out 0; have hfz7_1 := blk_frozen BK163.out 1) | (go_at_call 41; (with_reducible refine (spec_BookRight.calls k _ _ l0_0 _ _ l0_1 true _ (Kd.C_below HR0_0.out (bs HB)) HC0_0.out (Kd.C_below HR0_1.out (bs HB)) HC0_1.out A2.out).mono ?_); rintro e w8 ⟨rfl, hb⟩; replace HO166 := Aside0.mk (Kd.R_below (rs HO166) hb); replace BK163 := Aside0.mk (blk_below (ks BK163) hb); replace HB := Aside0.mk (below_step (bs HB) hb); (try clear hb); (try clear hb2); (try clear hk); (try clear hi)) | ((with_reducible refine gate_dst (N := 15) rfl ?_); (try (refine gate_guard (by rfl) ?_; dsimp only)); refine Kd.R_lit Kd.string _ 9 ?hg (N := 15) ?hd (xs := ([] : List ByteArray)) (inner := []) (ok := fun _ => True) (okp := fun _ => True) ?hr ?hp (fun _ hk => hk) trivial (Below.refl _ _) (Nat.le_refl _) (by simp) ?_; (case hd => rfl); (case hg => rfl); (case hr => first | (go_simp; done) | (go_simp; rfl)); (case hp => exact (Reps.none _ _)); intro v169 w9 ho10 hb hg_ hnew_; clear hg_ hnew_; (first | rw [← Ny168.out] at ho10 | (simp only [Int.reduceToNat] at ho10; rw [← Ny168.out] at ho10)); have HO170 := Aside0.mk (Kd.R_lower (Kd.R_new' ho10 (Kd.R_lt (rs HO166))) (below_size (bs HB))); replace HO166 := Aside0.mk (Kd.R_elder' (rs HO166) (Kd.R_base ho10) hb); replace BK163 := Aside0.mk (blk_below (ks BK163) hb); replace HB := Aside0.mk (below_step (bs HB) hb); clear hb ho10)))
    go_loopg [4, 5] k (fun kq v4 v5 w' => ∃ (x4_1 : List ByteArray) (x5_1 : Int), v5 = .int .i64 x5_1 ∧ Aside0 (spec_BookItems.l0 kq y164 x4_1 x5_1 l0_0 l0_1 = some r) ∧ Aside0 (kq ≤ k) ∧ Aside0 (Kd.R Kd.string 9 w' w.heap.size (fun k_ => some k_ ≠ (v4 : Value).ownBlock) v165 y164) ∧ Aside0 (Kd.R Kd.string 9 w' w.heap.size (fun k_ => some k_ ≠ (v165 : Value).ownBlock) v4 x4_1) ∧ Aside0 (w'.heap[gb163]? = some (.cells #[(.slice A0_0 l0_0.length c0_0), (.slice A0_1 l0_1.length c0_1)] 27 (0, 0))) ∧ Aside0 (Below w.heap.size w w'))
    case atStart => exact ⟨(y168), (0), fg, H', ⟨Nat.le_refl _⟩, ⟨by (with_reducible repeat (first | apply Kd.R_alloc | apply Kd.R_drewN | apply Kd.R_drew)); exact Kd.R_mono HO166.out (fun _ hk => hk.2)⟩, ⟨by (with_reducible repeat (first | apply Kd.R_alloc | apply Kd.R_drewN | apply Kd.R_drew)); exact Kd.R_mono HO170.out (fun _ hk => hk.2)⟩, ⟨ks BK163⟩, ⟨bs HB⟩⟩
    case round =>
      clear H'
      try clear c1
      try clear p2
      try clear c3
      try clear hcz7_0
      try clear hcz7_1
      try clear hfz7_0
      try clear hfz7_1
      obtain ⟨x4_1, x5_1, rfl, HA, HK1, HO_3, HO_4, BK163, HB⟩ := hrel
      cases gk with
      | zero => exact absurd HA.out (by simp [spec_BookItems.l0])
      | succ k1 =>
        have H := HA.out; clear HA; simp only [spec_BookItems.l0] at H
        by_cases c11 : x5_1 < (l0_0.length : Int)
        · rw [if_pos c11] at H; have c11b0 : decide (x5_1 < (l0_0.length : Int)) = true := decide_eq_true c11; clear c11
          by_cases c12 : 0 ≤ x5_1
          · rw [if_pos c12] at H; have c12b0 : decide (0 ≤ x5_1) = true := decide_eq_true c12; clear c12
            by_cases c13 : x4_1.length < 8796093022208
            · rw [if_pos c13] at H; have LMc13 := Aside0.mk c13; clear c13; obtain ⟨y172, hy172⟩ : ∃ y_ : List ByteArray, y_ = (x4_1 ++ [(rd_T71 l0_0 x5_1).f0]) := ⟨_, rfl⟩
              replace H : (spec_BookItems.l0 k1 y164 y172 (wrap64 (x5_1 + 1)) l0_0 l0_1) = some r := by first | (rw [hy172]; with_reducible exact H) | (have H2_ := (Option.bind_some _ _).symm.trans H; rw [hy172]; with_reducible exact H2_) | (have H2_ := (Option.bind_some _ _).symm.trans H; with_reducible exact H2_) | with_reducible exact H | (rw [hy172]; exact H) | exact H
              have Ny172 := Aside0.mk hy172; clear hy172; have H' := Aside0.mk H; clear H; obtain ⟨hcz14_0, hcz14_1, hfz14_0, hfz14_1⟩ := cf2 BK163; have p171 : 0 ≤ (x5_1 : Int) := oa; have q171 : x5_1 < (l0_0.length : Int) := oa; obtain ⟨ad171, e171, hx171_0, hx171_1⟩ := at_T71 HR0_0.out x5_1 p171 q171
              cases e171
              replace hx171_0 := cb HB hx171_0; replace hx171_1 := cb HB hx171_1; replace p171 := eq_true p171; replace q171 := eq_true q171
              go_wp2_with (first | ((with_reducible refine gate_builtin (b := .append) (xs := #[.tmp 23, .tmp 30]) rfl ?_); (try (refine gate_guard (by rfl) ?_; dsimp only)); at_builtin; refine Kd.R_append Kd.string (w0 := w) w.heap.size rfl (.tmp 23) (.tmp 30) 41 9 (.string ⟨#[]⟩) 16 rfl Try.underlying41 info9 rfl (by decide) (by omega) u4 x4_1 ((rd_T71 l0_0 x5_1).f0) [.string ((rd_T71 l0_0 x5_1).f0)] (fun k_ => some k_ ≠ (v165 : Value).ownBlock) (fun _ => False) rfl rfl ?aP (fun _ hk => hk.elim) ?aF ?aO ?aB ?aS ?aL ?_; (case aP => exact rfl); (case aB => exact (bs HB)); (case aF => exact (fun k_ hk => Kd.fresh' (Kd.R_lt (rs HO_3)) k_ hk)); (case aO => exact (rs HO_4)); (case aS => exact (below_size (bs HB))); (case aL => have := LMc13.out; omega); intro v173 w15 ho hb hg hat; rw [← Ny172.out] at ho; have n0_ := Aside0.mk (Kd.R_after (ok := (fun _ => True)) (by (with_reducible repeat (first | apply Kd.R_alloc | apply Kd.R_drewN | apply Kd.R_drew)); exact Kd.R_mono HO_3.out (fun _ hk => ⟨trivial, hk⟩)) hg hat); have n1_ := Aside0.mk (blk_grown (ks BK163) hg (Kd.R_ne HO_4.out BK163.out (by decide))); have n2_ := Aside0.mk (hb); have n3_ := Aside0.mk (ho); clear HO_3; clear BK163; clear HB; clear HO_4; have HO_3 := n0_; have BK163 := n1_; have HB := n2_; have HO174 := n3_; clear n0_ n1_ n2_ n3_; clear ho hb hg hat))
              repeat (go_quiet (first | ((with_reducible refine gate_builtin (b := .append) (xs := #[.tmp 23, .tmp 30]) rfl ?_); (try (refine gate_guard (by rfl) ?_; dsimp only)); at_builtin; refine Kd.R_append Kd.string (w0 := w) w.heap.size rfl (.tmp 23) (.tmp 30) 41 9 (.string ⟨#[]⟩) 16 rfl Try.underlying41 info9 rfl (by decide) (by omega) u4 x4_1 ((rd_T71 l0_0 x5_1).f0) [.string ((rd_T71 l0_0 x5_1).f0)] (fun k_ => some k_ ≠ (v165 : Value).ownBlock) (fun _ => False) rfl rfl ?aP (fun _ hk => hk.elim) ?aF ?aO ?aB ?aS ?aL ?_; (case aP => exact rfl); (case aB => exact (bs HB)); (case aF => exact (fun k_ hk => Kd.fresh' (Kd.R_lt (rs HO_3)) k_ hk)); (case aO => exact (rs HO_4)); (case aS => exact (below_size (bs HB))); (case aL => have := LMc13.out; omega); intro v173 w15 ho hb hg hat; rw [← Ny172.out] at ho; have n0_ := Aside0.mk (Kd.R_after (ok := (fun _ => True)) (by (with_reducible repeat (first | apply Kd.R_alloc | apply Kd.R_drewN | apply Kd.R_drew)); exact Kd.R_mono HO_3.out (fun _ hk => ⟨trivial, hk⟩)) hg hat); have n1_ := Aside0.mk (blk_grown (ks BK163) hg (Kd.R_ne HO_4.out BK163.out (by decide))); have n2_ := Aside0.mk (hb); have n3_ := Aside0.mk (ho); clear HO_3; clear BK163; clear HB; clear HO_4; have HO_3 := n0_; have BK163 := n1_; have HB := n2_; have HO174 := n3_; clear n0_ n1_ n2_ n3_; clear ho hb hg hat)); try go_wp2_with (first | ((with_reducible refine gate_builtin (b := .append) (xs := #[.tmp 23, .tmp 30]) rfl ?_); (try (refine gate_guard (by rfl) ?_; dsimp only)); at_builtin; refine Kd.R_append Kd.string (w0 := w) w.heap.size rfl (.tmp 23) (.tmp 30) 41 9 (.string ⟨#[]⟩) 16 rfl Try.underlying41 info9 rfl (by decide) (by omega) u4 x4_1 ((rd_T71 l0_0 x5_1).f0) [.string ((rd_T71 l0_0 x5_1).f0)] (fun k_ => some k_ ≠ (v165 : Value).ownBlock) (fun _ => False) rfl rfl ?aP (fun _ hk => hk.elim) ?aF ?aO ?aB ?aS ?aL ?_; (case aP => exact rfl); (case aB => exact (bs HB)); (case aF => exact (fun k_ hk => Kd.fresh' (Kd.R_lt (rs HO_3)) k_ hk)); (case aO => exact (rs HO_4)); (case aS => exact (below_size (bs HB))); (case aL => have := LMc13.out; omega); intro v173 w15 ho hb hg hat; rw [← Ny172.out] at ho; have n0_ := Aside0.mk (Kd.R_after (ok := (fun _ => True)) (by (with_reducible repeat (first | apply Kd.R_alloc | apply Kd.R_drewN | apply Kd.R_drew)); exact Kd.R_mono HO_3.out (fun _ hk => ⟨trivial, hk⟩)) hg hat); have n1_ := Aside0.mk (blk_grown (ks BK163) hg (Kd.R_ne HO_4.out BK163.out (by decide))); have n2_ := Aside0.mk (hb); have n3_ := Aside0.mk (ho); clear HO_3; clear BK163; clear HB; clear HO_4; have HO_3 := n0_; have BK163 := n1_; have HB := n2_; have HO174 := n3_; clear n0_ n1_ n2_ n3_; clear ho hb hg hat)))
              go_roundg k1
              case measure => have := HK1.out; omega
              case rel => exact ⟨(y172), (wrap64 (x5_1 + 1)), fg, H', ⟨by have := HK1.out; omega⟩, ⟨by (with_reducible repeat (first | apply Kd.R_alloc | apply Kd.R_drewN | apply Kd.R_drew)); exact Kd.R_mono HO_3.out (fun _ hk => hk.2)⟩, ⟨by (with_reducible repeat (first | apply Kd.R_alloc | apply Kd.R_drewN | apply Kd.R_drew)); exact HO174.out⟩, ⟨ks BK163⟩, ⟨bs HB⟩⟩
            · rw [if_neg c13] at H
              exact absurd H (by simp)
          · rw [if_neg c12] at H
            exact absurd H (by simp)
        · rw [if_neg c11] at H; have c11b0 : decide (x5_1 < (l0_0.length : Int)) = false := decide_eq_false c11; clear c11; have H' := Aside0.mk H; clear H; obtain ⟨hcz16_0, hcz16_1, hfz16_0, hfz16_1⟩ := cf2 BK163
          go_wp2
          repeat (go_quiet (fail); try go_wp2)
          go_loopg [4, 6] k1 (fun kq v4 v6 w' => ∃ (x4_2 : List ByteArray) (x6_2 : Int), v6 = .int .i64 x6_2 ∧ Aside0 (spec_BookItems.l1 kq y164 x4_2 x6_2 l0_0 l0_1 = some r) ∧ Aside0 (kq ≤ k1) ∧ Aside0 (Kd.R Kd.string 9 w' w.heap.size (fun k_ => some k_ ≠ (v4 : Value).ownBlock) v165 y164) ∧ Aside0 (Kd.R Kd.string 9 w' w.heap.size (fun k_ => some k_ ≠ (v165 : Value).ownBlock) v4 x4_2) ∧ Aside0 (w'.heap[gb163]? = some (.cells #[(.slice A0_0 l0_0.length c0_0), (.slice A0_1 l0_1.length c0_1)] 27 (0, 0))) ∧ Aside0 (Below w.heap.size w w'))
          case atStart => exact ⟨(x4_1), (0), fg, H', ⟨Nat.le_refl _⟩, ⟨by (with_reducible repeat (first | apply Kd.R_alloc | apply Kd.R_drewN | apply Kd.R_drew)); exact HO_3.out⟩, ⟨by (with_reducible repeat (first | apply Kd.R_alloc | apply Kd.R_drewN | apply Kd.R_drew)); exact HO_4.out⟩, ⟨ks BK163⟩, ⟨bs HB⟩⟩
          case round =>
            clear H'
            try clear c1
            try clear p1
            try clear q1
            try clear hx1
            try clear p2
            try clear c3
            try clear p6
            try clear c11
            try clear c11b0
            try clear c12
            try clear c12b0
            try clear c13
            try clear hcz14_0
            try clear hcz14_1
            try clear hcz16_0
            try clear hcz16_1
            try clear hcz7_0
            try clear hcz7_1
            try clear hfz14_0
            try clear hfz14_1
            try clear hfz16_0
            try clear hfz16_1
            try clear hfz7_0
            try clear hfz7_1
            try clear hx171_0
            try clear hx171_1
            try clear p171
            try clear p2
            try clear q171
            obtain ⟨x4_2, x6_2, rfl, HA, HK2, HO_3, HO_4, BK163, HB⟩ := hrel
            cases gk with
            | zero => exact absurd HA.out (by simp [spec_BookItems.l1])
            | succ k2 =>
              have H := HA.out; clear HA; simp only [spec_BookItems.l1] at H
              by_cases c17 : x6_2 < (l0_1.length : Int)
              · rw [if_pos c17] at H; have c17b0 : decide (x6_2 < (l0_1.length : Int)) = true := decide_eq_true c17; clear c17
                by_cases c18 : 0 ≤ x6_2
                · rw [if_pos c18] at H; have c18b0 : decide (0 ≤ x6_2) = true := decide_eq_true c18; clear c18
                  by_cases c19 : x4_2.length < 8796093022208
                  · rw [if_pos c19] at H; have LMc19 := Aside0.mk c19; clear c19; obtain ⟨y176, hy176⟩ : ∃ y_ : List ByteArray, y_ = (x4_2 ++ [(rd_T73 l0_1 x6_2).f3]) := ⟨_, rfl⟩
                    replace H : (spec_BookItems.l1 k2 y164 y176 (wrap64 (x6_2 + 1)) l0_0 l0_1) = some r := by first | (rw [hy176]; with_reducible exact H) | (have H2_ := (Option.bind_some _ _).symm.trans H; rw [hy176]; with_reducible exact H2_) | (have H2_ := (Option.bind_some _ _).symm.trans H; with_reducible exact H2_) | with_reducible exact H | (rw [hy176]; exact H) | exact H
                    have Ny176 := Aside0.mk hy176; clear hy176; have H' := Aside0.mk H; clear H; obtain ⟨hcz20_0, hcz20_1, hfz20_0, hfz20_1⟩ := cf2 BK163; have p175 : 0 ≤ (x6_2 : Int) := oa; have q175 : x6_2 < (l0_1.length : Int) := oa; obtain ⟨ad175, e175, hx175_0, hx175_1, hx175_2, hx175_3, hx175_4, hx175_5, hx175_6, hx175_7⟩ := at_T73 HR0_1.out x6_2 p175 q175
                    cases e175
                    replace hx175_0 := cb HB hx175_0; replace hx175_1 := cb HB hx175_1; replace hx175_2 := cb HB hx175_2; replace hx175_3 := cb HB hx175_3; replace hx175_4 := cb HB hx175_4; replace hx175_5 := cb HB hx175_5; replace hx175_6 := cb HB hx175_6; replace hx175_7 := cb HB hx175_7; replace p175 := eq_true p175; replace q175 := eq_true q175
                    go_wp2_with (first | ((with_reducible refine gate_builtin (b := .append) (xs := #[.tmp 39, .tmp 46]) rfl ?_); (try (refine gate_guard (by rfl) ?_; dsimp only)); at_builtin; refine Kd.R_append Kd.string (w0 := w) w.heap.size rfl (.tmp 39) (.tmp 46) 41 9 (.string ⟨#[]⟩) 16 rfl Try.underlying41 info9 rfl (by decide) (by omega) u4 x4_2 ((rd_T73 l0_1 x6_2).f3) [.string ((rd_T73 l0_1 x6_2).f3)] (fun k_ => some k_ ≠ (v165 : Value).ownBlock) (fun _ => False) rfl rfl ?aP (fun _ hk => hk.elim) ?aF ?aO ?aB ?aS ?aL ?_; (case aP => exact rfl); (case aB => exact (bs HB)); (case aF => exact (fun k_ hk => Kd.fresh' (Kd.R_lt (rs HO_3)) k_ hk)); (case aO => exact (rs HO_4)); (case aS => exact (below_size (bs HB))); (case aL => have := LMc19.out; omega); intro v177 w21 ho hb hg hat; rw [← Ny176.out] at ho; have n0_ := Aside0.mk (Kd.R_after (ok := (fun _ => True)) (by (with_reducible repeat (first | apply Kd.R_alloc | apply Kd.R_drewN | apply Kd.R_drew)); exact Kd.R_mono HO_3.out (fun _ hk => ⟨trivial, hk⟩)) hg hat); have n1_ := Aside0.mk (blk_grown (ks BK163) hg (Kd.R_ne HO_4.out BK163.out (by decide))); have n2_ := Aside0.mk (hb); have n3_ := Aside0.mk (ho); clear HO_3; clear BK163; clear HB; clear HO_4; have HO_3 := n0_; have BK163 := n1_; have HB := n2_; have HO178 := n3_; clear n0_ n1_ n2_ n3_; clear ho hb hg hat))
                    repeat (go_quiet (first | ((with_reducible refine gate_builtin (b := .append) (xs := #[.tmp 39, .tmp 46]) rfl ?_); (try (refine gate_guard (by rfl) ?_; dsimp only)); at_builtin; refine Kd.R_append Kd.string (w0 := w) w.heap.size rfl (.tmp 39) (.tmp 46) 41 9 (.string ⟨#[]⟩) 16 rfl Try.underlying41 info9 rfl (by decide) (by omega) u4 x4_2 ((rd_T73 l0_1 x6_2).f3) [.string ((rd_T73 l0_1 x6_2).f3)] (fun k_ => some k_ ≠ (v165 : Value).ownBlock) (fun _ => False) rfl rfl ?aP (fun _ hk => hk.elim) ?aF ?aO ?aB ?aS ?aL ?_; (case aP => exact rfl); (case aB => exact (bs HB)); (case aF => exact (fun k_ hk => Kd.fresh' (Kd.R_lt (rs HO_3)) k_ hk)); (case aO => exact (rs HO_4)); (case aS => exact (below_size (bs HB))); (case aL => have := LMc19.out; omega); intro v177 w21 ho hb hg hat; rw [← Ny176.out] at ho; have n0_ := Aside0.mk (Kd.R_after (ok := (fun _ => True)) (by (with_reducible repeat (first | apply Kd.R_alloc | apply Kd.R_drewN | apply Kd.R_drew)); exact Kd.R_mono HO_3.out (fun _ hk => ⟨trivial, hk⟩)) hg hat); have n1_ := Aside0.mk (blk_grown (ks BK163) hg (Kd.R_ne HO_4.out BK163.out (by decide))); have n2_ := Aside0.mk (hb); have n3_ := Aside0.mk (ho); clear HO_3; clear BK163; clear HB; clear HO_4; have HO_3 := n0_; have BK163 := n1_; have HB := n2_; have HO178 := n3_; clear n0_ n1_ n2_ n3_; clear ho hb hg hat)); try go_wp2_with (first | ((with_reducible refine gate_builtin (b := .append) (xs := #[.tmp 39, .tmp 46]) rfl ?_); (try (refine gate_guard (by rfl) ?_; dsimp only)); at_builtin; refine Kd.R_append Kd.string (w0 := w) w.heap.size rfl (.tmp 39) (.tmp 46) 41 9 (.string ⟨#[]⟩) 16 rfl Try.underlying41 info9 rfl (by decide) (by omega) u4 x4_2 ((rd_T73 l0_1 x6_2).f3) [.string ((rd_T73 l0_1 x6_2).f3)] (fun k_ => some k_ ≠ (v165 : Value).ownBlock) (fun _ => False) rfl rfl ?aP (fun _ hk => hk.elim) ?aF ?aO ?aB ?aS ?aL ?_; (case aP => exact rfl); (case aB => exact (bs HB)); (case aF => exact (fun k_ hk => Kd.fresh' (Kd.R_lt (rs HO_3)) k_ hk)); (case aO => exact (rs HO_4)); (case aS => exact (below_size (bs HB))); (case aL => have := LMc19.out; omega); intro v177 w21 ho hb hg hat; rw [← Ny176.out] at ho; have n0_ := Aside0.mk (Kd.R_after (ok := (fun _ => True)) (by (with_reducible repeat (first | apply Kd.R_alloc | apply Kd.R_drewN | apply Kd.R_drew)); exact Kd.R_mono HO_3.out (fun _ hk => ⟨trivial, hk⟩)) hg hat); have n1_ := Aside0.mk (blk_grown (ks BK163) hg (Kd.R_ne HO_4.out BK163.out (by decide))); have n2_ := Aside0.mk (hb); have n3_ := Aside0.mk (ho); clear HO_3; clear BK163; clear HB; clear HO_4; have HO_3 := n0_; have BK163 := n1_; have HB := n2_; have HO178 := n3_; clear n0_ n1_ n2_ n3_; clear ho hb hg hat)))
                    go_roundg k2
                    case measure => have := HK1.out; have := HK2.out; omega
                    case rel => exact ⟨(y176), (wrap64 (x6_2 + 1)), fg, H', ⟨by have := HK1.out; have := HK2.out; omega⟩, ⟨by (with_reducible repeat (first | apply Kd.R_alloc | apply Kd.R_drewN | apply Kd.R_drew)); exact Kd.R_mono HO_3.out (fun _ hk => hk.2)⟩, ⟨by (with_reducible repeat (first | apply Kd.R_alloc | apply Kd.R_drewN | apply Kd.R_drew)); exact HO178.out⟩, ⟨ks BK163⟩, ⟨bs HB⟩⟩
                  · rw [if_neg c19] at H
                    exact absurd H (by simp)
                · rw [if_neg c18] at H
                  exact absurd H (by simp)
              · rw [if_neg c17] at H; have c17b0 : decide (x6_2 < (l0_1.length : Int)) = false := decide_eq_false c17; clear c17; have H' := Aside0.mk H; clear H; obtain ⟨hcz22_0, hcz22_1, hfz22_0, hfz22_1⟩ := cf2 BK163
                go_wp2
                repeat (go_quiet (fail); try go_wp2)
                go_loopg [3] k2 (fun kq v3 w' => ∃ (x3_3 : List ByteArray), Aside0 (spec_BookItems.l2 kq x3_3 x4_2 = some r) ∧ Aside0 (kq ≤ k2) ∧ Aside0 (Kd.R Kd.string 9 w' w.heap.size (fun k_ => some k_ ≠ (u4 : Value).ownBlock) v3 x3_3) ∧ Aside0 (Kd.R Kd.string 9 w' w.heap.size (fun k_ => some k_ ≠ (v3 : Value).ownBlock) u4 x4_2) ∧ Aside0 (w'.heap[gb163]? = some (.cells #[(.slice A0_0 l0_0.length c0_0), (.slice A0_1 l0_1.length c0_1)] 27 (0, 0))) ∧ Aside0 (Below w.heap.size w w'))
                case atStart => exact ⟨(y164), H', ⟨Nat.le_refl _⟩, ⟨by (with_reducible repeat (first | apply Kd.R_alloc | apply Kd.R_drewN | apply Kd.R_drew)); exact HO_3.out⟩, ⟨by (with_reducible repeat (first | apply Kd.R_alloc | apply Kd.R_drewN | apply Kd.R_drew)); exact HO_4.out⟩, ⟨ks BK163⟩, ⟨bs HB⟩⟩
                case round =>
                  clear H'
                  try clear c1
                  try clear p1
                  try clear q1
                  try clear hx1
                  try clear p2
                  try clear c3
                  try clear p6
                  try clear c11
                  try clear c11b0
                  try clear c12
                  try clear c12b0
                  try clear c13
                  try clear c17
                  try clear c17b0
                  try clear p17
                  try clear q17
                  try clear hx17
                  try clear c18
                  try clear c18b0
                  try clear c19
                  try clear hcz14_0
                  try clear hcz14_1
                  try clear hcz16_0
                  try clear hcz16_1
                  try clear hcz20_0
                  try clear hcz20_1
                  try clear hcz22_0
                  try clear hcz22_1
                  try clear hcz7_0
                  try clear hcz7_1
                  try clear hfz14_0
                  try clear hfz14_1
                  try clear hfz16_0
                  try clear hfz16_1
                  try clear hfz20_0
                  try clear hfz20_1
                  try clear hfz22_0
                  try clear hfz22_1
                  try clear hfz7_0
                  try clear hfz7_1
                  try clear hx171_0
                  try clear hx171_1
                  try clear hx175_0
                  try clear hx175_1
                  try clear hx175_2
                  try clear hx175_3
                  try clear hx175_4
                  try clear hx175_5
                  try clear hx175_6
                  try clear hx175_7
                  try clear p1
                  try clear p171
                  try clear p175
                  try clear p2
                  try clear p6
                  try clear q1
                  try clear q171
                  try clear q175
                  obtain ⟨x3_3, HA, HK3, HO_3, HO_4, BK163, HB⟩ := hrel
                  cases gk with
                  | zero => exact absurd HA.out (by simp [spec_BookItems.l2])
                  | succ k3 =>
                    have H := HA.out; clear HA; simp only [spec_BookItems.l2] at H; have H' := Aside0.mk H; clear H
                    go_wp2
                    repeat (go_quiet (fail); try go_wp2)
                    go_loopg [7, 8] k3 (fun kq v7 v8 w' => ∃ (x7_4 : ByteArray) (x8_4 : Int), v7 = .string x7_4 ∧ v8 = .int .i64 x8_4 ∧ Aside0 (spec_BookItems.l3 kq x3_3 x4_2 x7_4 x8_4 = some r) ∧ Aside0 (kq ≤ k3) ∧ Aside0 (Kd.R Kd.string 9 w' w.heap.size (fun k_ => some k_ ≠ (u4 : Value).ownBlock) u3 x3_3) ∧ Aside0 (Kd.R Kd.string 9 w' w.heap.size (fun k_ => some k_ ≠ (u3 : Value).ownBlock) u4 x4_2) ∧ Aside0 (w'.heap[gb163]? = some (.cells #[(.slice A0_0 l0_0.length c0_0), (.slice A0_1 l0_1.length c0_1)] 27 (0, 0))) ∧ Aside0 (Below w.heap.size w w'))
                    case atStart => exact ⟨((⟨#[]⟩ : ByteArray)), (0), fg, fg, H', ⟨Nat.le_refl _⟩, ⟨by (with_reducible repeat (first | apply Kd.R_alloc | apply Kd.R_drewN | apply Kd.R_drew)); exact HO_3.out⟩, ⟨by (with_reducible repeat (first | apply Kd.R_alloc | apply Kd.R_drewN | apply Kd.R_drew)); exact HO_4.out⟩, ⟨ks BK163⟩, ⟨bs HB⟩⟩
                    case round =>
                      clear H'
                      try clear c1
                      try clear p1
                      try clear q1
                      try clear hx1
                      try clear p2
                      try clear c3
                      try clear p6
                      try clear c11
                      try clear c11b0
                      try clear c12
                      try clear c12b0
                      try clear c13
                      try clear c17
                      try clear c17b0
                      try clear p17
                      try clear q17
                      try clear hx17
                      try clear c18
                      try clear c18b0
                      try clear c19
                      try clear hcz14_0
                      try clear hcz14_1
                      try clear hcz16_0
                      try clear hcz16_1
                      try clear hcz20_0
                      try clear hcz20_1
                      try clear hcz22_0
                      try clear hcz22_1
                      try clear hcz7_0
                      try clear hcz7_1
                      try clear hfz14_0
                      try clear hfz14_1
                      try clear hfz16_0
                      try clear hfz16_1
                      try clear hfz20_0
                      try clear hfz20_1
                      try clear hfz22_0
                      try clear hfz22_1
                      try clear hfz7_0
                      try clear hfz7_1
                      try clear hx171_0
                      try clear hx171_1
                      try clear hx175_0
                      try clear hx175_1
                      try clear hx175_2
                      try clear hx175_3
                      try clear hx175_4
                      try clear hx175_5
                      try clear hx175_6
                      try clear hx175_7
                      try clear p1
                      try clear p17
                      try clear p171
                      try clear p175
                      try clear p2
                      try clear p6
                      try clear q1
                      try clear q17
                      try clear q171
                      try clear q175
                      obtain ⟨x7_4, x8_4, rfl, rfl, HA, HK4, HO_3, HO_4, BK163, HB⟩ := hrel
                      cases gk with
                      | zero => exact absurd HA.out (by simp [spec_BookItems.l3])
                      | succ k4 =>
                        have H := HA.out; clear HA; simp only [spec_BookItems.l3] at H
                        by_cases c23 : x8_4 < (x4_2.length : Int)
                        · rw [if_pos c23] at H; have c23b0 : decide (x8_4 < (x4_2.length : Int)) = true := decide_eq_true c23; clear c23
                          by_cases c24 : (x3_3.length : Int) = 0
                          · rw [if_pos c24] at H; have c24b0 : ((x3_3.length : Int) == 0) = true := beq_iff_eq.mpr c24; have c24b1 : ((x3_3.length : Int) != 0) = false := bne_eq_false_iff_eq.mpr c24; clear c24
                            by_cases c25 : x7_4.toList = ([] : List UInt8)
                            · rw [if_pos c25] at H; have c25b0 : (x7_4.toList == ([] : List UInt8)) = true := beq_iff_eq.mpr c25; have c25b1 : (x7_4.toList != ([] : List UInt8)) = false := bne_eq_false_iff_eq.mpr c25; clear c25
                              by_cases c26 : 0 ≤ x8_4
                              · rw [if_pos c26] at H; have c26b0 : decide (0 ≤ x8_4) = true := decide_eq_true c26; clear c26; have H' := Aside0.mk H; clear H; obtain ⟨Ao27, co27, eo27⟩ := Kd.R_slice HO_4.out; subst eo27; obtain ⟨Ao28, co28, eo28⟩ := Kd.R_slice HO_3.out; subst eo28; have p179 : 0 ≤ (x8_4 : Int) := oa; have q179 : x8_4 < (x4_2.length : Int) := oa; obtain ⟨ad179, e179, hx179_0⟩ := Kd.at_string (Kd.R_reads' HO_4.out).2.2 x8_4 p179 q179
                                cases e179
                                replace p179 := eq_true p179; replace q179 := eq_true q179
                                go_wp2
                                repeat (go_quiet (fail); try go_wp2)
                                go_roundg k4
                                case measure => have := HK1.out; have := HK2.out; have := HK3.out; have := HK4.out; omega
                                case rel => exact ⟨(rdOf ByteArray.empty x4_2 x8_4), (wrap64 (x8_4 + 1)), fg, fg, H', ⟨by have := HK1.out; have := HK2.out; have := HK3.out; have := HK4.out; omega⟩, ⟨by (with_reducible repeat (first | apply Kd.R_alloc | apply Kd.R_drewN | apply Kd.R_drew)); exact HO_3.out⟩, ⟨by (with_reducible repeat (first | apply Kd.R_alloc | apply Kd.R_drewN | apply Kd.R_drew)); exact HO_4.out⟩, ⟨ks BK163⟩, ⟨bs HB⟩⟩
                              · rw [if_neg c26] at H
                                exact absurd H (by simp)
                            · rw [if_neg c25] at H; have c25b0 : (x7_4.toList == ([] : List UInt8)) = false := beq_eq_false_iff_ne.mpr c25; have c25b1 : (x7_4.toList != ([] : List UInt8)) = true := bne_iff_ne.mpr c25
                              by_cases c29 : 0 ≤ x8_4
                              · rw [if_pos c29] at H; have c29b0 : decide (0 ≤ x8_4) = true := decide_eq_true c29; clear c29
                                by_cases c30 : (Op.bytesLess ((rdOf ByteArray.empty x4_2 x8_4).toList) x7_4.toList) = true
                                · rw [if_pos c30] at H; have c30b0 : (Op.bytesLess ((rdOf ByteArray.empty x4_2 x8_4).toList) x7_4.toList) = true := c30; clear c30; have H' := Aside0.mk H; clear H; obtain ⟨Ao31, co31, eo31⟩ := Kd.R_slice HO_4.out; subst eo31; obtain ⟨Ao32, co32, eo32⟩ := Kd.R_slice HO_3.out; subst eo32; have p180 : 0 ≤ (x8_4 : Int) := oa; have q180 : x8_4 < (x4_2.length : Int) := oa; obtain ⟨ad180, e180, hx180_0⟩ := Kd.at_string (Kd.R_reads' HO_4.out).2.2 x8_4 p180 q180
                                  cases e180
                                  replace p180 := eq_true p180; replace q180 := eq_true q180; have p181 : 0 ≤ (x8_4 : Int) := oa; have q181 : x8_4 < (x4_2.length : Int) := oa; obtain ⟨ad181, e181, hx181_0⟩ := Kd.at_string (Kd.R_reads' HO_4.out).2.2 x8_4 p181 q181; obtain rfl : ad180 = ad181 := (by injection e181); replace p181 := eq_true p181; replace q181 := eq_true q181
                                  go_wp2
                                  repeat (go_quiet (fail); try go_wp2)
                                  go_roundg k4
                                  case measure => have := HK1.out; have := HK2.out; have := HK3.out; have := HK4.out; omega
                                  case rel => exact ⟨(rdOf ByteArray.empty x4_2 x8_4), (wrap64 (x8_4 + 1)), fg, fg, H', ⟨by have := HK1.out; have := HK2.out; have := HK3.out; have := HK4.out; omega⟩, ⟨by (with_reducible repeat (first | apply Kd.R_alloc | apply Kd.R_drewN | apply Kd.R_drew)); exact HO_3.out⟩, ⟨by (with_reducible repeat (first | apply Kd.R_alloc | apply Kd.R_drewN | apply Kd.R_drew)); exact HO_4.out⟩, ⟨ks BK163⟩, ⟨bs HB⟩⟩
                                · rw [if_neg c30] at H
                                  have c30b0 : (Op.bytesLess ((rdOf ByteArray.empty x4_2 x8_4).toList) x7_4.toList) = false := by simpa using c30
                                  clear c30; have H' := Aside0.mk H; clear H; obtain ⟨Ao33, co33, eo33⟩ := Kd.R_slice HO_4.out; subst eo33; obtain ⟨Ao34, co34, eo34⟩ := Kd.R_slice HO_3.out; subst eo34; have p180 : 0 ≤ (x8_4 : Int) := oa; have q180 : x8_4 < (x4_2.length : Int) := oa; obtain ⟨ad180, e180, hx180_0⟩ := Kd.at_string (Kd.R_reads' HO_4.out).2.2 x8_4 p180 q180
                                  cases e180
                                  replace p180 := eq_true p180; replace q180 := eq_true q180
                                  go_wp2
                                  repeat (go_quiet (fail); try go_wp2)
                                  go_roundg k4
                                  case measure => have := HK1.out; have := HK2.out; have := HK3.out; have := HK4.out; omega
                                  case rel => exact ⟨(x7_4), (wrap64 (x8_4 + 1)), fg, fg, H', ⟨by have := HK1.out; have := HK2.out; have := HK3.out; have := HK4.out; omega⟩, ⟨by (with_reducible repeat (first | apply Kd.R_alloc | apply Kd.R_drewN | apply Kd.R_drew)); exact HO_3.out⟩, ⟨by (with_reducible repeat (first | apply Kd.R_alloc | apply Kd.R_drewN | apply Kd.R_drew)); exact HO_4.out⟩, ⟨ks BK163⟩, ⟨bs HB⟩⟩
                              · rw [if_neg c29] at H
                                exact absurd H (by simp)
                          · rw [if_neg c24] at H; have c24b0 : ((x3_3.length : Int) == 0) = false := beq_eq_false_iff_ne.mpr c24; have c24b1 : ((x3_3.length : Int) != 0) = true := bne_iff_ne.mpr c24
                            have c24b2 : ¬ (x3_3 = []) := fun h_ => c24 (by rw [h_]; rfl)
                            by_cases c35 : 0 ≤ x8_4
                            · rw [if_pos c35] at H; have c35b0 : decide (0 ≤ x8_4) = true := decide_eq_true c35; clear c35; obtain ⟨ji36, hji36⟩ : ∃ j_ : Int, (wrap64 ((x3_3.length : Int) - 1)) = j_ := ⟨_, rfl⟩
                              replace H : (if 0 ≤ (ji36) then (if (ji36) < (x3_3.length : Int) then (if (Op.bytesLess ((rdOf ByteArray.empty x3_3 (ji36)).toList) ((rdOf ByteArray.empty x4_2 x8_4).toList)) = true then (if x7_4.toList = ([] : List UInt8) then (spec_BookItems.l3 k4 x3_3 x4_2 (rdOf ByteArray.empty x4_2 x8_4) (wrap64 (x8_4 + 1))) else (if (Op.bytesLess ((rdOf ByteArray.empty x4_2 x8_4).toList) x7_4.toList) = true then (spec_BookItems.l3 k4 x3_3 x4_2 (rdOf ByteArray.empty x4_2 x8_4) (wrap64 (x8_4 + 1))) else (spec_BookItems.l3 k4 x3_3 x4_2 x7_4 (wrap64 (x8_4 + 1))))) else (spec_BookItems.l3 k4 x3_3 x4_2 x7_4 (wrap64 (x8_4 + 1)))) else (none)) else (none)) = some r := by first | (rw [hji36] at H; exact H) | (simp only [hji36] at H ⊢; exact H)
                              have hji36w : (IntKind.i64.wrap ((x3_3.length : Int) - 1)) = ji36 := (i64_w _).trans hji36
                              by_cases c37 : 0 ≤ (ji36)
                              · rw [if_pos c37] at H; have c37b0 : decide (0 ≤ (ji36)) = true := decide_eq_true c37; clear c37
                                by_cases c38 : (ji36) < (x3_3.length : Int)
                                · rw [if_pos c38] at H; have c38b0 : decide ((ji36) < (x3_3.length : Int)) = true := decide_eq_true c38; clear c38
                                  by_cases c39 : (Op.bytesLess ((rdOf ByteArray.empty x3_3 (ji36)).toList) ((rdOf ByteArray.empty x4_2 x8_4).toList)) = true
                                  · rw [if_pos c39] at H; have c39b0 : (Op.bytesLess ((rdOf ByteArray.empty x3_3 (ji36)).toList) ((rdOf ByteArray.empty x4_2 x8_4).toList)) = true := c39; clear c39
                                    by_cases c40 : x7_4.toList = ([] : List UInt8)
                                    · rw [if_pos c40] at H; have c40b0 : (x7_4.toList == ([] : List UInt8)) = true := beq_iff_eq.mpr c40; have c40b1 : (x7_4.toList != ([] : List UInt8)) = false := bne_eq_false_iff_eq.mpr c40; clear c40; have H' := Aside0.mk H; clear H; obtain ⟨Ao41, co41, eo41⟩ := Kd.R_slice HO_4.out; subst eo41; obtain ⟨Ao42, co42, eo42⟩ := Kd.R_slice HO_3.out; subst eo42; have p182 : 0 ≤ (x8_4 : Int) := oa; have q182 : x8_4 < (x4_2.length : Int) := oa; obtain ⟨ad182, e182, hx182_0⟩ := Kd.at_string (Kd.R_reads' HO_4.out).2.2 x8_4 p182 q182
                                      cases e182
                                      replace p182 := eq_true p182; replace q182 := eq_true q182; have p183 : 0 ≤ ((ji36) : Int) := oa; have q183 : (ji36) < (x3_3.length : Int) := oa; obtain ⟨ad183, e183, hx183_0⟩ := Kd.at_string (Kd.R_reads' HO_3.out).2.2 (ji36) p183 q183
                                      cases e183
                                      replace p183 := eq_true p183; replace q183 := eq_true q183; have p184 : 0 ≤ (x8_4 : Int) := oa; have q184 : x8_4 < (x4_2.length : Int) := oa; obtain ⟨ad184, e184, hx184_0⟩ := Kd.at_string (Kd.R_reads' HO_4.out).2.2 x8_4 p184 q184; obtain rfl : ad182 = ad184 := (by injection e184); replace p184 := eq_true p184; replace q184 := eq_true q184
                                      go_wp2
                                      repeat (go_quiet (fail); try go_wp2)
                                      go_roundg k4
                                      case measure => have := HK1.out; have := HK2.out; have := HK3.out; have := HK4.out; omega
                                      case rel => exact ⟨(rdOf ByteArray.empty x4_2 x8_4), (wrap64 (x8_4 + 1)), fg, fg, H', ⟨by have := HK1.out; have := HK2.out; have := HK3.out; have := HK4.out; omega⟩, ⟨by (with_reducible repeat (first | apply Kd.R_alloc | apply Kd.R_drewN | apply Kd.R_drew)); exact HO_3.out⟩, ⟨by (with_reducible repeat (first | apply Kd.R_alloc | apply Kd.R_drewN | apply Kd.R_drew)); exact HO_4.out⟩, ⟨ks BK163⟩, ⟨bs HB⟩⟩
                                    · rw [if_neg c40] at H; have c40b0 : (x7_4.toList == ([] : List UInt8)) = false := beq_eq_false_iff_ne.mpr c40; have c40b1 : (x7_4.toList != ([] : List UInt8)) = true := bne_iff_ne.mpr c40
                                      by_cases c43 : (Op.bytesLess ((rdOf ByteArray.empty x4_2 x8_4).toList) x7_4.toList) = true
                                      · rw [if_pos c43] at H; have c43b0 : (Op.bytesLess ((rdOf ByteArray.empty x4_2 x8_4).toList) x7_4.toList) = true := c43; clear c43; have H' := Aside0.mk H; clear H; obtain ⟨Ao44, co44, eo44⟩ := Kd.R_slice HO_4.out; subst eo44; obtain ⟨Ao45, co45, eo45⟩ := Kd.R_slice HO_3.out; subst eo45; have p182 : 0 ≤ (x8_4 : Int) := oa; have q182 : x8_4 < (x4_2.length : Int) := oa; obtain ⟨ad182, e182, hx182_0⟩ := Kd.at_string (Kd.R_reads' HO_4.out).2.2 x8_4 p182 q182
                                        cases e182
                                        replace p182 := eq_true p182; replace q182 := eq_true q182; have p183 : 0 ≤ ((ji36) : Int) := oa; have q183 : (ji36) < (x3_3.length : Int) := oa; obtain ⟨ad183, e183, hx183_0⟩ := Kd.at_string (Kd.R_reads' HO_3.out).2.2 (ji36) p183 q183
                                        cases e183
                                        replace p183 := eq_true p183; replace q183 := eq_true q183; have p185 : 0 ≤ (x8_4 : Int) := oa; have q185 : x8_4 < (x4_2.length : Int) := oa; obtain ⟨ad185, e185, hx185_0⟩ := Kd.at_string (Kd.R_reads' HO_4.out).2.2 x8_4 p185 q185; obtain rfl : ad182 = ad185 := (by injection e185); replace p185 := eq_true p185; replace q185 := eq_true q185; have p186 : 0 ≤ (x8_4 : Int) := oa; have q186 : x8_4 < (x4_2.length : Int) := oa; obtain ⟨ad186, e186, hx186_0⟩ := Kd.at_string (Kd.R_reads' HO_4.out).2.2 x8_4 p186 q186; obtain rfl : ad182 = ad186 := (by injection e186); replace p186 := eq_true p186; replace q186 := eq_true q186
                                        go_wp2
                                        repeat (go_quiet (fail); try go_wp2)
                                        go_roundg k4
                                        case measure => have := HK1.out; have := HK2.out; have := HK3.out; have := HK4.out; omega
                                        case rel => exact ⟨(rdOf ByteArray.empty x4_2 x8_4), (wrap64 (x8_4 + 1)), fg, fg, H', ⟨by have := HK1.out; have := HK2.out; have := HK3.out; have := HK4.out; omega⟩, ⟨by (with_reducible repeat (first | apply Kd.R_alloc | apply Kd.R_drewN | apply Kd.R_drew)); exact HO_3.out⟩, ⟨by (with_reducible repeat (first | apply Kd.R_alloc | apply Kd.R_drewN | apply Kd.R_drew)); exact HO_4.out⟩, ⟨ks BK163⟩, ⟨bs HB⟩⟩
                                      · rw [if_neg c43] at H
                                        have c43b0 : (Op.bytesLess ((rdOf ByteArray.empty x4_2 x8_4).toList) x7_4.toList) = false := by simpa using c43
                                        clear c43; have H' := Aside0.mk H; clear H; obtain ⟨Ao46, co46, eo46⟩ := Kd.R_slice HO_4.out; subst eo46; obtain ⟨Ao47, co47, eo47⟩ := Kd.R_slice HO_3.out; subst eo47; have p182 : 0 ≤ (x8_4 : Int) := oa; have q182 : x8_4 < (x4_2.length : Int) := oa; obtain ⟨ad182, e182, hx182_0⟩ := Kd.at_string (Kd.R_reads' HO_4.out).2.2 x8_4 p182 q182
                                        cases e182
                                        replace p182 := eq_true p182; replace q182 := eq_true q182; have p183 : 0 ≤ ((ji36) : Int) := oa; have q183 : (ji36) < (x3_3.length : Int) := oa; obtain ⟨ad183, e183, hx183_0⟩ := Kd.at_string (Kd.R_reads' HO_3.out).2.2 (ji36) p183 q183
                                        cases e183
                                        replace p183 := eq_true p183; replace q183 := eq_true q183; have p185 : 0 ≤ (x8_4 : Int) := oa; have q185 : x8_4 < (x4_2.length : Int) := oa; obtain ⟨ad185, e185, hx185_0⟩ := Kd.at_string (Kd.R_reads' HO_4.out).2.2 x8_4 p185 q185; obtain rfl : ad182 = ad185 := (by injection e185); replace p185 := eq_true p185; replace q185 := eq_true q185
                                        go_wp2
                                        repeat (go_quiet (fail); try go_wp2)
                                        go_roundg k4
                                        case measure => have := HK1.out; have := HK2.out; have := HK3.out; have := HK4.out; omega
                                        case rel => exact ⟨(x7_4), (wrap64 (x8_4 + 1)), fg, fg, H', ⟨by have := HK1.out; have := HK2.out; have := HK3.out; have := HK4.out; omega⟩, ⟨by (with_reducible repeat (first | apply Kd.R_alloc | apply Kd.R_drewN | apply Kd.R_drew)); exact HO_3.out⟩, ⟨by (with_reducible repeat (first | apply Kd.R_alloc | apply Kd.R_drewN | apply Kd.R_drew)); exact HO_4.out⟩, ⟨ks BK163⟩, ⟨bs HB⟩⟩
                                  · rw [if_neg c39] at H
                                    have c39b0 : (Op.bytesLess ((rdOf ByteArray.empty x3_3 (ji36)).toList) ((rdOf ByteArray.empty x4_2 x8_4).toList)) = false := by simpa using c39
                                    clear c39; have H' := Aside0.mk H; clear H; obtain ⟨Ao48, co48, eo48⟩ := Kd.R_slice HO_4.out; subst eo48; obtain ⟨Ao49, co49, eo49⟩ := Kd.R_slice HO_3.out; subst eo49; have p182 : 0 ≤ (x8_4 : Int) := oa; have q182 : x8_4 < (x4_2.length : Int) := oa; obtain ⟨ad182, e182, hx182_0⟩ := Kd.at_string (Kd.R_reads' HO_4.out).2.2 x8_4 p182 q182
                                    cases e182
                                    replace p182 := eq_true p182; replace q182 := eq_true q182; have p183 : 0 ≤ ((ji36) : Int) := oa; have q183 : (ji36) < (x3_3.length : Int) := oa; obtain ⟨ad183, e183, hx183_0⟩ := Kd.at_string (Kd.R_reads' HO_3.out).2.2 (ji36) p183 q183
                                    cases e183
                                    replace p183 := eq_true p183; replace q183 := eq_true q183
                                    go_wp2
                                    repeat (go_quiet (fail); try go_wp2)
                                    go_roundg k4
                                    case measure => have := HK1.out; have := HK2.out; have := HK3.out; have := HK4.out; omega
                                    case rel => exact ⟨(x7_4), (wrap64 (x8_4 + 1)), fg, fg, H', ⟨by have := HK1.out; have := HK2.out; have := HK3.out; have := HK4.out; omega⟩, ⟨by (with_reducible repeat (first | apply Kd.R_alloc | apply Kd.R_drewN | apply Kd.R_drew)); exact HO_3.out⟩, ⟨by (with_reducible repeat (first | apply Kd.R_alloc | apply Kd.R_drewN | apply Kd.R_drew)); exact HO_4.out⟩, ⟨ks BK163⟩, ⟨bs HB⟩⟩
                                · rw [if_neg c38] at H
                                  exact absurd H (by simp)
                              · rw [if_neg c37] at H
                                exact absurd H (by simp)
                            · rw [if_neg c35] at H
                              exact absurd H (by simp)
                        · rw [if_neg c23] at H; have c23b0 : decide (x8_4 < (x4_2.length : Int)) = false := decide_eq_false c23; clear c23
                          by_cases c50 : x7_4.toList = ([] : List UInt8)
                          · rw [if_pos c50] at H; have c50b0 : (x7_4.toList == ([] : List UInt8)) = true := beq_iff_eq.mpr c50; have c50b1 : (x7_4.toList != ([] : List UInt8)) = false := bne_eq_false_iff_eq.mpr c50; clear c50; obtain rfl := Option.some.inj H; obtain ⟨Ao51, co51, eo51⟩ := Kd.R_slice HO_4.out; subst eo51
                            go_wp2
                            repeat (go_quiet (fail); try go_wp2)
                            go_ret
                            exact ⟨_, ff, by (with_reducible repeat (first | apply Kd.R_alloc | apply Kd.R_drewN | apply Kd.R_drew)); exact Kd.R_mono HO_3.out (fun _ hk => trivial), bs HB⟩
                          · rw [if_neg c50] at H; have c50b0 : (x7_4.toList == ([] : List UInt8)) = false := beq_eq_false_iff_ne.mpr c50; have c50b1 : (x7_4.toList != ([] : List UInt8)) = true := bne_iff_ne.mpr c50
                            by_cases c52 : x3_3.length < 8796093022208
                            · rw [if_pos c52] at H; have LMc52 := Aside0.mk c52; clear c52; obtain ⟨y187, hy187⟩ : ∃ y_ : List ByteArray, y_ = (x3_3 ++ [x7_4]) := ⟨_, rfl⟩
                              replace H : (spec_BookItems.l2 k4 y187 x4_2) = some r := by first | (rw [hy187]; with_reducible exact H) | (have H2_ := (Option.bind_some _ _).symm.trans H; rw [hy187]; with_reducible exact H2_) | (have H2_ := (Option.bind_some _ _).symm.trans H; with_reducible exact H2_) | with_reducible exact H | (rw [hy187]; exact H) | exact H
                              have Ny187 := Aside0.mk hy187; clear hy187; have H' := Aside0.mk H; clear H; obtain ⟨Ao53, co53, eo53⟩ := Kd.R_slice HO_4.out; subst eo53
                              go_wp2_with (first | ((with_reducible refine gate_builtin (b := .append) (xs := #[.tmp 90, .tmp 92]) rfl ?_); (try (refine gate_guard (by rfl) ?_; dsimp only)); at_builtin; refine Kd.R_append Kd.string (w0 := w) w.heap.size rfl (.tmp 90) (.tmp 92) 41 9 (.string ⟨#[]⟩) 16 rfl Try.underlying41 info9 rfl (by decide) (by omega) u3 x3_3 x7_4 [.string x7_4] (fun k_ => some k_ ≠ (.slice Ao53 x4_2.length co53 : Value).ownBlock) (fun _ => False) rfl rfl ?aP (fun _ hk => hk.elim) ?aF ?aO ?aB ?aS ?aL ?_; (case aP => exact rfl); (case aB => exact (bs HB)); (case aF => exact (fun k_ hk => Kd.fresh' (Kd.R_lt (rs HO_4)) k_ hk)); (case aO => exact (rs HO_3)); (case aS => exact (below_size (bs HB))); (case aL => have := LMc52.out; omega); intro v188 w54 ho hb hg hat; rw [← Ny187.out] at ho; have n0_ := Aside0.mk (Kd.R_after (ok := (fun _ => True)) (by (with_reducible repeat (first | apply Kd.R_alloc | apply Kd.R_drewN | apply Kd.R_drew)); exact Kd.R_mono HO_4.out (fun _ hk => ⟨trivial, hk⟩)) hg hat); have n1_ := Aside0.mk (blk_grown (ks BK163) hg (Kd.R_ne HO_3.out BK163.out (by decide))); have n2_ := Aside0.mk (hb); have n3_ := Aside0.mk (ho); clear HO_4; clear BK163; clear HB; clear HO_3; have HO_4 := n0_; have BK163 := n1_; have HB := n2_; have HO189 := n3_; clear n0_ n1_ n2_ n3_; clear ho hb hg hat))
                              repeat (go_quiet (first | ((with_reducible refine gate_builtin (b := .append) (xs := #[.tmp 90, .tmp 92]) rfl ?_); (try (refine gate_guard (by rfl) ?_; dsimp only)); at_builtin; refine Kd.R_append Kd.string (w0 := w) w.heap.size rfl (.tmp 90) (.tmp 92) 41 9 (.string ⟨#[]⟩) 16 rfl Try.underlying41 info9 rfl (by decide) (by omega) u3 x3_3 x7_4 [.string x7_4] (fun k_ => some k_ ≠ (.slice Ao53 x4_2.length co53 : Value).ownBlock) (fun _ => False) rfl rfl ?aP (fun _ hk => hk.elim) ?aF ?aO ?aB ?aS ?aL ?_; (case aP => exact rfl); (case aB => exact (bs HB)); (case aF => exact (fun k_ hk => Kd.fresh' (Kd.R_lt (rs HO_4)) k_ hk)); (case aO => exact (rs HO_3)); (case aS => exact (below_size (bs HB))); (case aL => have := LMc52.out; omega); intro v188 w54 ho hb hg hat; rw [← Ny187.out] at ho; have n0_ := Aside0.mk (Kd.R_after (ok := (fun _ => True)) (by (with_reducible repeat (first | apply Kd.R_alloc | apply Kd.R_drewN | apply Kd.R_drew)); exact Kd.R_mono HO_4.out (fun _ hk => ⟨trivial, hk⟩)) hg hat); have n1_ := Aside0.mk (blk_grown (ks BK163) hg (Kd.R_ne HO_3.out BK163.out (by decide))); have n2_ := Aside0.mk (hb); have n3_ := Aside0.mk (ho); clear HO_4; clear BK163; clear HB; clear HO_3; have HO_4 := n0_; have BK163 := n1_; have HB := n2_; have HO189 := n3_; clear n0_ n1_ n2_ n3_; clear ho hb hg hat)); try go_wp2_with (first | ((with_reducible refine gate_builtin (b := .append) (xs := #[.tmp 90, .tmp 92]) rfl ?_); (try (refine gate_guard (by rfl) ?_; dsimp only)); at_builtin; refine Kd.R_append Kd.string (w0 := w) w.heap.size rfl (.tmp 90) (.tmp 92) 41 9 (.string ⟨#[]⟩) 16 rfl Try.underlying41 info9 rfl (by decide) (by omega) u3 x3_3 x7_4 [.string x7_4] (fun k_ => some k_ ≠ (.slice Ao53 x4_2.length co53 : Value).ownBlock) (fun _ => False) rfl rfl ?aP (fun _ hk => hk.elim) ?aF ?aO ?aB ?aS ?aL ?_; (case aP => exact rfl); (case aB => exact (bs HB)); (case aF => exact (fun k_ hk => Kd.fresh' (Kd.R_lt (rs HO_4)) k_ hk)); (case aO => exact (rs HO_3)); (case aS => exact (below_size (bs HB))); (case aL => have := LMc52.out; omega); intro v188 w54 ho hb hg hat; rw [← Ny187.out] at ho; have n0_ := Aside0.mk (Kd.R_after (ok := (fun _ => True)) (by (with_reducible repeat (first | apply Kd.R_alloc | apply Kd.R_drewN | apply Kd.R_drew)); exact Kd.R_mono HO_4.out (fun _ hk => ⟨trivial, hk⟩)) hg hat); have n1_ := Aside0.mk (blk_grown (ks BK163) hg (Kd.R_ne HO_3.out BK163.out (by decide))); have n2_ := Aside0.mk (hb); have n3_ := Aside0.mk (ho); clear HO_4; clear BK163; clear HB; clear HO_3; have HO_4 := n0_; have BK163 := n1_; have HB := n2_; have HO189 := n3_; clear n0_ n1_ n2_ n3_; clear ho hb hg hat)))
                              go_roundg k4
                              case measure => have := HK1.out; have := HK2.out; have := HK3.out; have := HK4.out; omega
                              case rel => exact ⟨(y187), H', ⟨by have := HK1.out; have := HK2.out; have := HK3.out; have := HK4.out; omega⟩, ⟨by (with_reducible repeat (first | apply Kd.R_alloc | apply Kd.R_drewN | apply Kd.R_drew)); exact HO189.out⟩, ⟨by (with_reducible repeat (first | apply Kd.R_alloc | apply Kd.R_drewN | apply Kd.R_drew)); exact Kd.R_mono HO_4.out (fun _ hk => hk.2)⟩, ⟨ks BK163⟩, ⟨bs HB⟩⟩
                            · rw [if_neg c52] at H
                              exact absurd H (by simp)
  · replace c3 := Bool.eq_false_iff.mpr c3; subst c3
    have H1 : (some y164) = some r := by rw [if_neg (show ¬ (false = true) by decide)] at H; exact H
    clear H; have H := H1; clear H1; obtain rfl := Option.some.inj H
    go_enter Try.func12, Try.ntmps12
    go_wp2_with (first | ((with_reducible refine gate_dst (N := 1) rfl ?_); (try (refine gate_guard (by rfl) ?_; dsimp only)); refine bx 1 (cs := #[.slice A0_0 l0_0.length c0_0, .slice A0_1 l0_1.length c0_1]) (t := 27) ?_; intro gb163 hg w55 hbox hb; have BK163 := Aside0.mk (hbox); have GW163 := Aside0.mk ((gs hg (bs HB))); have GE163 := Aside0.mk ((gs hg (bs HB))); replace HB := Aside0.mk (below_step (bs HB) hb); clear hb hbox hg) | ((with_reducible refine gate_dst (N := 10) rfl ?_); (try (refine gate_guard (by rfl) ?_; dsimp only)); refine Kd.R_lit Kd.string _ 9 ?hg (N := 10) ?hd (xs := ([] : List ByteArray)) (inner := []) (ok := fun _ => True) (okp := fun _ => True) ?hr ?hp (fun _ hk => hk) trivial (Below.refl _ _) (Nat.le_refl _) (by simp) ?_; (case hd => rfl); (case hg => rfl); (case hr => first | (go_simp; done) | (go_simp; rfl)); (case hp => exact (Reps.none _ _)); intro v165 w56 ho57 hb hg_ hnew_; clear hg_ hnew_; (first | rw [← Ny164.out] at ho57 | (simp only [Int.reduceToNat] at ho57; rw [← Ny164.out] at ho57)); have HO166 := Aside0.mk (Kd.R_lower ho57 (below_size (bs HB))); replace BK163 := Aside0.mk (blk_below (ks BK163) hb); replace HB := Aside0.mk (below_step (bs HB) hb); clear hb ho57; have hcz58_0 : w56.cell? ⟨gb163, 0, none⟩ = some (.slice A0_0 l0_0.length c0_0) := (blk_cell BK163.out 0).trans rfl; have hcz58_1 : w56.cell? ⟨gb163, 1, none⟩ = some (.slice A0_1 l0_1.length c0_1) := (blk_cell BK163.out 1).trans rfl; have hfz58_0 := blk_frozen BK163.out 0; have hfz58_1 := blk_frozen BK163.out 1) | (go_at_call 41; (with_reducible refine (spec_BookRight.calls k _ _ l0_0 _ _ l0_1 false _ (Kd.C_below HR0_0.out (bs HB)) HC0_0.out (Kd.C_below HR0_1.out (bs HB)) HC0_1.out A2.out).mono ?_); rintro e w59 ⟨rfl, hb⟩; replace HO166 := Aside0.mk (Kd.R_below (rs HO166) hb); replace BK163 := Aside0.mk (blk_below (ks BK163) hb); replace HB := Aside0.mk (below_step (bs HB) hb); (try clear hb); (try clear hb2); (try clear hk); (try clear hi)))
    repeat (go_quiet (first | ((with_reducible refine gate_dst (N := 1) rfl ?_); (try (refine gate_guard (by rfl) ?_; dsimp only)); refine bx 1 (cs := #[.slice A0_0 l0_0.length c0_0, .slice A0_1 l0_1.length c0_1]) (t := 27) ?_; intro gb163 hg w55 hbox hb; have BK163 := Aside0.mk (hbox); have GW163 := Aside0.mk ((gs hg (bs HB))); have GE163 := Aside0.mk ((gs hg (bs HB))); replace HB := Aside0.mk (below_step (bs HB) hb); clear hb hbox hg) | ((with_reducible refine gate_dst (N := 10) rfl ?_); (try (refine gate_guard (by rfl) ?_; dsimp only)); refine Kd.R_lit Kd.string _ 9 ?hg (N := 10) ?hd (xs := ([] : List ByteArray)) (inner := []) (ok := fun _ => True) (okp := fun _ => True) ?hr ?hp (fun _ hk => hk) trivial (Below.refl _ _) (Nat.le_refl _) (by simp) ?_; (case hd => rfl); (case hg => rfl); (case hr => first | (go_simp; done) | (go_simp; rfl)); (case hp => exact (Reps.none _ _)); intro v165 w56 ho57 hb hg_ hnew_; clear hg_ hnew_; (first | rw [← Ny164.out] at ho57 | (simp only [Int.reduceToNat] at ho57; rw [← Ny164.out] at ho57)); have HO166 := Aside0.mk (Kd.R_lower ho57 (below_size (bs HB))); replace BK163 := Aside0.mk (blk_below (ks BK163) hb); replace HB := Aside0.mk (below_step (bs HB) hb); clear hb ho57; have hcz58_0 : w56.cell? ⟨gb163, 0, none⟩ = some (.slice A0_0 l0_0.length c0_0) := (blk_cell BK163.out 0).trans rfl; have hcz58_1 : w56.cell? ⟨gb163, 1, none⟩ = some (.slice A0_1 l0_1.length c0_1) := (blk_cell BK163.out 1).trans rfl; have hfz58_0 := blk_frozen BK163.out 0; have hfz58_1 := blk_frozen BK163.out 1) | (go_at_call 41; (with_reducible refine (spec_BookRight.calls k _ _ l0_0 _ _ l0_1 false _ (Kd.C_below HR0_0.out (bs HB)) HC0_0.out (Kd.C_below HR0_1.out (bs HB)) HC0_1.out A2.out).mono ?_); rintro e w59 ⟨rfl, hb⟩; replace HO166 := Aside0.mk (Kd.R_below (rs HO166) hb); replace BK163 := Aside0.mk (blk_below (ks BK163) hb); replace HB := Aside0.mk (below_step (bs HB) hb); (try clear hb); (try clear hb2); (try clear hk); (try clear hi))); try go_wp2_with (first | ((with_reducible refine gate_dst (N := 1) rfl ?_); (try (refine gate_guard (by rfl) ?_; dsimp only)); refine bx 1 (cs := #[.slice A0_0 l0_0.length c0_0, .slice A0_1 l0_1.length c0_1]) (t := 27) ?_; intro gb163 hg w55 hbox hb; have BK163 := Aside0.mk (hbox); have GW163 := Aside0.mk ((gs hg (bs HB))); have GE163 := Aside0.mk ((gs hg (bs HB))); replace HB := Aside0.mk (below_step (bs HB) hb); clear hb hbox hg) | ((with_reducible refine gate_dst (N := 10) rfl ?_); (try (refine gate_guard (by rfl) ?_; dsimp only)); refine Kd.R_lit Kd.string _ 9 ?hg (N := 10) ?hd (xs := ([] : List ByteArray)) (inner := []) (ok := fun _ => True) (okp := fun _ => True) ?hr ?hp (fun _ hk => hk) trivial (Below.refl _ _) (Nat.le_refl _) (by simp) ?_; (case hd => rfl); (case hg => rfl); (case hr => first | (go_simp; done) | (go_simp; rfl)); (case hp => exact (Reps.none _ _)); intro v165 w56 ho57 hb hg_ hnew_; clear hg_ hnew_; (first | rw [← Ny164.out] at ho57 | (simp only [Int.reduceToNat] at ho57; rw [← Ny164.out] at ho57)); have HO166 := Aside0.mk (Kd.R_lower ho57 (below_size (bs HB))); replace BK163 := Aside0.mk (blk_below (ks BK163) hb); replace HB := Aside0.mk (below_step (bs HB) hb); clear hb ho57; have hcz58_0 : w56.cell? ⟨gb163, 0, none⟩ = some (.slice A0_0 l0_0.length c0_0) := (blk_cell BK163.out 0).trans rfl; have hcz58_1 : w56.cell? ⟨gb163, 1, none⟩ = some (.slice A0_1 l0_1.length c0_1) := (blk_cell BK163.out 1).trans rfl; have hfz58_0 := blk_frozen BK163.out 0; have hfz58_1 := blk_frozen BK163.out 1) | (go_at_call 41; (with_reducible refine (spec_BookRight.calls k _ _ l0_0 _ _ l0_1 false _ (Kd.C_below HR0_0.out (bs HB)) HC0_0.out (Kd.C_below HR0_1.out (bs HB)) HC0_1.out A2.out).mono ?_); rintro e w59 ⟨rfl, hb⟩; replace HO166 := Aside0.mk (Kd.R_below (rs HO166) hb); replace BK163 := Aside0.mk (blk_below (ks BK163) hb); replace HB := Aside0.mk (below_step (bs HB) hb); (try clear hb); (try clear hb2); (try clear hk); (try clear hi))))
    go_ret
    exact ⟨_, ff, by (with_reducible repeat (first | apply Kd.R_alloc | apply Kd.R_drewN | apply Kd.R_drew)); exact HO166.out, bs HB⟩
end Go.Proofs.Ytjjfjgdhloideaa.QH
