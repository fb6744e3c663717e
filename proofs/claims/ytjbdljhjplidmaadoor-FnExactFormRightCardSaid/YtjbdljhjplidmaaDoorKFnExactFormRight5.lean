-- Merged by a program of this session (wip/tool/pack.py) out of its own texts for this claim.
import Derived.Test.YtjbdljhjplidmaaDoorKFnExactFormRight0
import Derived.Test.YtjbdljhjplidmaaDoorKFnExactFormRight1
import Derived.Test.YtjbdljhjplidmaaDoorKFnExactFormRight2
import Derived.Test.YtjbdljhjplidmaaDoorKFnExactFormRight4
namespace Go.Proofs.YtjbdljhjplidmaaDoor.QE
open Go.RowKit Go.Proofs.YtjbdljhjplidmaaDoorW.PrintWords Go.Proofs.YtjbdljhjplidmaaDoorW.PrintLast Go.Proofs.YtjbdljhjplidmaaDoorW.PrintMore
attribute [local go_sem] max2_int min2_int max_two min_two max_three min_three max_four min_four   -- for this text's walks alone
set_option linter.unusedVariables false
set_option linter.unusedSimpArgs false
def spec_FormRight.T21 : Bool × List (List Nat × List Nat) := (true, [([], []), ([], []), ([1], [1]), ([2], [2]), ([0, 3], [0, 3]), ([4], [4]), ([5], [5]), ([5], [5]), ([7, 5], [5, 7]), ([6, 8, 5], [5, 6, 8]), ([5, 9], [5, 9]), ([10, 5], [10]), ([11], [11]), ([11], [11]), ([12, 13, 11], [11, 12, 13]), ([14, 11], [11, 14]), ([11], [11]), ([16, 11], [11, 16]), ([11], [11]), ([17, 18, 11], [11, 17, 18]), ([19, 11], [11, 19]), ([15, 20, 11, 11], [11, 15, 20]), ([21, 11], [11, 21]), ([11, 22], [11, 22])])
def spec_FormRight.B21 : List Nat := [0, 0, 2, 6, 15, 31, 63, 63, 191, 511, 1023, 2047, 4095, 4095, 16383, 32767, 4095, 69631, 4095, 462847, 987135, 2097151, 4194303, 8388607]
theorem spec_FormRight.tab21 : rtab .any (opsOf Tryd.f12 21) = spec_FormRight.T21 := by kernel_rfl
theorem spec_FormRight.bits21 : waitsOk spec_FormRight.T21.2 spec_FormRight.B21 = true := by kernel_rfl
set_option maxHeartbeats 8000000 in
set_option maxRecDepth 100000 in
theorem spec_FormRight.calls (k : Nat) (a0 : ByteArray) (a1_0 : ByteArray) (A1_1 : Option Addr) (c1_1 : Nat) (l1_1 : List (S65)) (r : Int) (w : World) (hr1_1 : Kd.C k65 w A1_1 l1_1.length l1_1) (hc1_1 : l1_1.length ≤ c1_1) (h : spec_FormRight.f k a0 a1_0 l1_1 = some r) :
    Calls Tryd.prog 12 #[.string a0, .agg #[.string a1_0, .slice A1_1 l1_1.length c1_1]] w fun e w' => e = .returned (.int .i64 r) ∧ Below w.heap.size w w' := by
  have hu36 := Tryd.underlying36; have hu65 := Tryd.underlying65; have HR1_1 := Aside0.mk hr1_1; have HC1_1 := Aside0.mk hc1_1; clear hr1_1 hc1_1; have HB := Aside0.mk (Below.refl w.heap.size w); have H : (if (a0.size : Int) > 20000 then (some 0) else (spec_FormRight.l0 k a0 (([] : List Int)) (-1) 0 a1_0 l1_1)) = some r := h; clear h
  by_cases c3 : (a0.size : Int) > 20000
  · rw [if_pos c3] at H; have c3b0 : decide (20000 < (a0.size : Int)) = true := decide_eq_true c3; have c3b1 : decide (20000 < a0.size) = true := decide_eq_true (by omega); clear c3; obtain rfl := Option.some.inj H
    go_enter Tryd.func12, Tryd.ntmps12
    go_wp2_with (first | ((with_reducible refine gate_dst (N := 3) rfl ?_); (try (refine gate_guard (by rfl) ?_; dsimp only)); refine bx 3 (cs := #[.string a1_0, .slice A1_1 l1_1.length c1_1]) (t := 36) ?_; intro gb149 hg w4 hbox hb; have BK149 := Aside0.mk (hbox); have GW149 := Aside0.mk ((gs hg (bs HB))); have GE149 := Aside0.mk ((gs hg (bs HB))); replace HB := Aside0.mk (below_step (bs HB) hb); clear hb hbox hg))
    go_ret
    exact ⟨ff, bs HB⟩
  · rw [if_neg c3] at H; have c3b0 : decide (20000 < (a0.size : Int)) = false := decide_eq_false c3; have c3b1 : decide (20000 < a0.size) = false := decide_eq_false (by omega); clear c3; obtain ⟨y150, hy150⟩ : ∃ y_ : List Int, y_ = (([] : List Int)) := ⟨_, rfl⟩
    replace H : (spec_FormRight.l0 k a0 y150 (-1) 0 a1_0 l1_1) = some r := by first | (rw [hy150]; with_reducible exact H) | (have H2_ := (Option.bind_some _ _).symm.trans H; rw [hy150]; with_reducible exact H2_) | (have H2_ := (Option.bind_some _ _).symm.trans H; with_reducible exact H2_) | with_reducible exact H | (rw [hy150]; exact H) | exact H
    have Ny150 := Aside0.mk hy150; clear hy150; have H' := Aside0.mk H; clear H
    go_enter Tryd.func12, Tryd.ntmps12
    go_wp2_with (first | ((with_reducible refine gate_dst (N := 3) rfl ?_); (try (refine gate_guard (by rfl) ?_; dsimp only)); refine bx 3 (cs := #[.string a1_0, .slice A1_1 l1_1.length c1_1]) (t := 36) ?_; intro gb149 hg w5 hbox hb; have BK149 := Aside0.mk (hbox); have GW149 := Aside0.mk ((gs hg (bs HB))); have GE149 := Aside0.mk ((gs hg (bs HB))); replace HB := Aside0.mk (below_step (bs HB) hb); clear hb hbox hg) | ((with_reducible refine gate_dst (N := 13) rfl ?_); (try (refine gate_guard (by rfl) ?_; dsimp only)); refine Kd.R_lit (Kd.int .u8) _ 5 ?hg (N := 13) ?hd (xs := ([] : List Int)) (inner := []) (ok := fun _ => True) (okp := fun _ => True) ?hr ?hp (fun _ hk => hk) trivial (Below.refl _ _) (Nat.le_refl _) (by simp) ?_; (case hd => rfl); (case hg => rfl); (case hr => first | (go_simp; done) | (go_simp; rfl)); (case hp => exact (Reps.none _ _)); intro v151 w6 ho7 hb hg_ hnew_; clear hg_ hnew_; (first | rw [← Ny150.out] at ho7 | (simp only [Int.reduceToNat] at ho7; rw [← Ny150.out] at ho7)); have HO152 := Aside0.mk (Kd.R_lower ho7 (below_size (bs HB))); replace BK149 := Aside0.mk (blk_below (ks BK149) hb); replace HB := Aside0.mk (below_step (bs HB) hb); clear hb ho7))
    go_loopg [5, 6, 7] k (fun kq v5 v6 v7 w' => ∃ (x5_1 : List Int) (x6_1 : Int) (x7_1 : Int), v6 = .int .i64 x6_1 ∧ v7 = .int .i64 x7_1 ∧ Aside0 (spec_FormRight.l0 kq a0 x5_1 x6_1 x7_1 a1_0 l1_1 = some r) ∧ Aside0 (kq ≤ k) ∧ Aside0 (Kd.R (Kd.int .u8) 5 w' w.heap.size (fun _ => True) v5 x5_1) ∧ Aside0 (w'.heap[gb149]? = some (.cells #[.string a1_0, (.slice A1_1 l1_1.length c1_1)] 36 (0, 0))) ∧ Aside0 (Below w.heap.size w w'))
    case atStart => exact ⟨(y150), ((-1)), (0), fg, fg, H', ⟨Nat.le_refl _⟩, ⟨by (with_reducible repeat (first | apply Kd.R_alloc | apply Kd.R_drewN | apply Kd.R_drew)); exact HO152.out⟩, ⟨ks BK149⟩, ⟨bs HB⟩⟩
    case round =>
      clear H'
      try clear c1
      try clear p2
      try clear c3
      try clear c3b0
      try clear c3b1
      obtain ⟨x5_1, x6_1, x7_1, rfl, rfl, HA, HK1, HO_5, BK149, HB⟩ := hrel
      cases gk with
      | zero => exact absurd HA.out (by simp [spec_FormRight.l0])
      | succ k1 =>
        have H := HA.out; clear HA; simp only [spec_FormRight.l0] at H
        by_cases c8 : x7_1 < (a0.size : Int)
        · rw [if_pos c8] at H; have c8b0 : decide (x7_1 < (a0.size : Int)) = true := decide_eq_true c8; clear c8
          by_cases c9 : 0 ≤ x7_1
          · rw [if_pos c9] at H; have c9b0 : decide (0 ≤ x7_1) = true := decide_eq_true c9; clear c9
            by_cases c11 : (bt a0 x7_1) = 63
            · rw [if_pos c11] at H; have c11b0 : ((bt a0 x7_1) == 63) = true := beq_iff_eq.mpr c11; have c11b1 : ((bt a0 x7_1) != 63) = false := bne_eq_false_iff_eq.mpr c11; clear c11
              by_cases c12 : x6_1 ≥ 0
              · rw [if_pos c12] at H; have c12b0 : decide (0 ≤ x6_1) = true := decide_eq_true c12; clear c12; obtain rfl := Option.some.inj H; have p10 : 0 ≤ (x7_1 : Int) := oa; have q10 : x7_1 < (a0.size : Int) := oa; have hx10 := bt_at a0 x7_1; replace p10 := eq_true p10; replace q10 := eq_true q10
                go_wp2
                go_ret
                exact ⟨ff, bs HB⟩
              · rw [if_neg c12] at H; have c12b0 : decide (0 ≤ x6_1) = false := decide_eq_false c12; clear c12; have H' := Aside0.mk H; clear H; have p10 : 0 ≤ (x7_1 : Int) := oa; have q10 : x7_1 < (a0.size : Int) := oa; have hx10 := bt_at a0 x7_1; replace p10 := eq_true p10; replace q10 := eq_true q10; obtain ⟨Ao13, co13, eo13⟩ := Kd.R_slice HO_5.out; subst eo13
                go_wp2
                go_roundg k1
                case measure => have := HK1.out; omega
                case rel => exact ⟨(x5_1), ((x5_1.length : Int)), (wrap64 (x7_1 + 1)), fg, fg, H', ⟨by have := HK1.out; omega⟩, ⟨by (with_reducible repeat (first | apply Kd.R_alloc | apply Kd.R_drewN | apply Kd.R_drew)); exact HO_5.out⟩, ⟨ks BK149⟩, ⟨bs HB⟩⟩
            · rw [if_neg c11] at H; have c11b0 : ((bt a0 x7_1) == 63) = false := beq_eq_false_iff_ne.mpr c11; have c11b1 : ((bt a0 x7_1) != 63) = true := bne_iff_ne.mpr c11
              by_cases c14 : (bt a0 x7_1) = 114
              · rw [if_pos c14] at H; have c14b0 : ((bt a0 x7_1) == 114) = true := beq_iff_eq.mpr c14; have c14b1 : ((bt a0 x7_1) != 114) = false := bne_eq_false_iff_eq.mpr c14; clear c14
                by_cases c15 : x5_1.length < 140737488355328
                · rw [if_pos c15] at H; have LMc15 := Aside0.mk c15; clear c15; obtain ⟨y153, hy153⟩ : ∃ y_ : List Int, y_ = (x5_1 ++ [bt a0 x7_1]) := ⟨_, rfl⟩
                  replace H : (spec_FormRight.l0 k1 a0 y153 x6_1 (wrap64 (x7_1 + 1)) a1_0 l1_1) = some r := by first | (rw [hy153]; with_reducible exact H) | (have H2_ := (Option.bind_some _ _).symm.trans H; rw [hy153]; with_reducible exact H2_) | (have H2_ := (Option.bind_some _ _).symm.trans H; with_reducible exact H2_) | with_reducible exact H | (rw [hy153]; exact H) | exact H
                  have Ny153 := Aside0.mk hy153; clear hy153; have H' := Aside0.mk H; clear H; have p10 : 0 ≤ (x7_1 : Int) := oa; have q10 : x7_1 < (a0.size : Int) := oa; have hx10 := bt_at a0 x7_1; replace p10 := eq_true p10; replace q10 := eq_true q10
                  go_wp2_with (first | ((with_reducible refine gate_builtin (b := .append) (xs := #[.tmp 51, .tmp 53]) rfl ?_); (try (refine gate_guard (by rfl) ?_; dsimp only)); at_builtin; refine Kd.R_append (Kd.int .u8) (w0 := w) w.heap.size rfl (.tmp 51) (.tmp 53) 50 5 (.int .u8 0) 1 rfl Tryd.underlying50 info5 rfl (by decide) (by omega) u5 x5_1 (bt a0 x7_1) [.int .u8 (bt a0 x7_1)] (fun _ => True) (fun _ => False) rfl rfl ?aP (fun _ hk => hk.elim) ?aF ?aO ?aB ?aS ?aL ?_; (case aP => exact rfl); (case aB => exact (bs HB)); (case aF => exact (fun _ _ => trivial)); (case aO => exact (rs HO_5)); (case aS => exact (below_size (bs HB))); (case aL => have := LMc15.out; omega); intro v154 w16 ho hb hg hat; rw [← Ny153.out] at ho; have n0_ := Aside0.mk (blk_grown (ks BK149) hg (Kd.R_ne HO_5.out BK149.out (by decide))); have n1_ := Aside0.mk (hb); have n2_ := Aside0.mk (ho); clear BK149; clear HB; clear HO_5; have BK149 := n0_; have HB := n1_; have HO155 := n2_; clear n0_ n1_ n2_; clear ho hb hg hat))
                  go_roundg k1
                  case measure => have := HK1.out; omega
                  case rel => exact ⟨(y153), (x6_1), (wrap64 (x7_1 + 1)), fg, fg, H', ⟨by have := HK1.out; omega⟩, ⟨by (with_reducible repeat (first | apply Kd.R_alloc | apply Kd.R_drewN | apply Kd.R_drew)); exact HO155.out⟩, ⟨ks BK149⟩, ⟨bs HB⟩⟩
                · rw [if_neg c15] at H
                  exact absurd H (by simp)
              · rw [if_neg c14] at H; have c14b0 : ((bt a0 x7_1) == 114) = false := beq_eq_false_iff_ne.mpr c14; have c14b1 : ((bt a0 x7_1) != 114) = true := bne_iff_ne.mpr c14
                by_cases c17 : (bt a0 x7_1) = 110
                · rw [if_pos c17] at H; have c17b0 : ((bt a0 x7_1) == 110) = true := beq_iff_eq.mpr c17; have c17b1 : ((bt a0 x7_1) != 110) = false := bne_eq_false_iff_eq.mpr c17; clear c17
                  by_cases c18 : x5_1.length < 140737488355328
                  · rw [if_pos c18] at H; have LMc18 := Aside0.mk c18; clear c18; obtain ⟨y156, hy156⟩ : ∃ y_ : List Int, y_ = (x5_1 ++ [bt a0 x7_1]) := ⟨_, rfl⟩
                    replace H : (spec_FormRight.l0 k1 a0 y156 x6_1 (wrap64 (x7_1 + 1)) a1_0 l1_1) = some r := by first | (rw [hy156]; with_reducible exact H) | (have H2_ := (Option.bind_some _ _).symm.trans H; rw [hy156]; with_reducible exact H2_) | (have H2_ := (Option.bind_some _ _).symm.trans H; with_reducible exact H2_) | with_reducible exact H | (rw [hy156]; exact H) | exact H
                    have Ny156 := Aside0.mk hy156; clear hy156; have H' := Aside0.mk H; clear H; have p10 : 0 ≤ (x7_1 : Int) := oa; have q10 : x7_1 < (a0.size : Int) := oa; have hx10 := bt_at a0 x7_1; replace p10 := eq_true p10; replace q10 := eq_true q10
                    go_wp2_with (first | ((with_reducible refine gate_builtin (b := .append) (xs := #[.tmp 51, .tmp 53]) rfl ?_); (try (refine gate_guard (by rfl) ?_; dsimp only)); at_builtin; refine Kd.R_append (Kd.int .u8) (w0 := w) w.heap.size rfl (.tmp 51) (.tmp 53) 50 5 (.int .u8 0) 1 rfl Tryd.underlying50 info5 rfl (by decide) (by omega) u5 x5_1 (bt a0 x7_1) [.int .u8 (bt a0 x7_1)] (fun _ => True) (fun _ => False) rfl rfl ?aP (fun _ hk => hk.elim) ?aF ?aO ?aB ?aS ?aL ?_; (case aP => exact rfl); (case aB => exact (bs HB)); (case aF => exact (fun _ _ => trivial)); (case aO => exact (rs HO_5)); (case aS => exact (below_size (bs HB))); (case aL => have := LMc18.out; omega); intro v157 w19 ho hb hg hat; rw [← Ny156.out] at ho; have n0_ := Aside0.mk (blk_grown (ks BK149) hg (Kd.R_ne HO_5.out BK149.out (by decide))); have n1_ := Aside0.mk (hb); have n2_ := Aside0.mk (ho); clear BK149; clear HB; clear HO_5; have BK149 := n0_; have HB := n1_; have HO158 := n2_; clear n0_ n1_ n2_; clear ho hb hg hat))
                    go_roundg k1
                    case measure => have := HK1.out; omega
                    case rel => exact ⟨(y156), (x6_1), (wrap64 (x7_1 + 1)), fg, fg, H', ⟨by have := HK1.out; omega⟩, ⟨by (with_reducible repeat (first | apply Kd.R_alloc | apply Kd.R_drewN | apply Kd.R_drew)); exact HO158.out⟩, ⟨ks BK149⟩, ⟨bs HB⟩⟩
                  · rw [if_neg c18] at H
                    exact absurd H (by simp)
                · rw [if_neg c17] at H; have c17b0 : ((bt a0 x7_1) == 110) = false := beq_eq_false_iff_ne.mpr c17; have c17b1 : ((bt a0 x7_1) != 110) = true := bne_iff_ne.mpr c17
                  by_cases c20 : (bt a0 x7_1) = 113
                  · rw [if_pos c20] at H; have c20b0 : ((bt a0 x7_1) == 113) = true := beq_iff_eq.mpr c20; have c20b1 : ((bt a0 x7_1) != 113) = false := bne_eq_false_iff_eq.mpr c20; clear c20
                    by_cases c21 : x5_1.length < 140737488355328
                    · rw [if_pos c21] at H; have LMc21 := Aside0.mk c21; clear c21; obtain ⟨y159, hy159⟩ : ∃ y_ : List Int, y_ = (x5_1 ++ [bt a0 x7_1]) := ⟨_, rfl⟩
                      replace H : (spec_FormRight.l0 k1 a0 y159 x6_1 (wrap64 (x7_1 + 1)) a1_0 l1_1) = some r := by first | (rw [hy159]; with_reducible exact H) | (have H2_ := (Option.bind_some _ _).symm.trans H; rw [hy159]; with_reducible exact H2_) | (have H2_ := (Option.bind_some _ _).symm.trans H; with_reducible exact H2_) | with_reducible exact H | (rw [hy159]; exact H) | exact H
                      have Ny159 := Aside0.mk hy159; clear hy159; have H' := Aside0.mk H; clear H; have p10 : 0 ≤ (x7_1 : Int) := oa; have q10 : x7_1 < (a0.size : Int) := oa; have hx10 := bt_at a0 x7_1; replace p10 := eq_true p10; replace q10 := eq_true q10
                      go_wp2_with (first | ((with_reducible refine gate_builtin (b := .append) (xs := #[.tmp 51, .tmp 53]) rfl ?_); (try (refine gate_guard (by rfl) ?_; dsimp only)); at_builtin; refine Kd.R_append (Kd.int .u8) (w0 := w) w.heap.size rfl (.tmp 51) (.tmp 53) 50 5 (.int .u8 0) 1 rfl Tryd.underlying50 info5 rfl (by decide) (by omega) u5 x5_1 (bt a0 x7_1) [.int .u8 (bt a0 x7_1)] (fun _ => True) (fun _ => False) rfl rfl ?aP (fun _ hk => hk.elim) ?aF ?aO ?aB ?aS ?aL ?_; (case aP => exact rfl); (case aB => exact (bs HB)); (case aF => exact (fun _ _ => trivial)); (case aO => exact (rs HO_5)); (case aS => exact (below_size (bs HB))); (case aL => have := LMc21.out; omega); intro v160 w22 ho hb hg hat; rw [← Ny159.out] at ho; have n0_ := Aside0.mk (blk_grown (ks BK149) hg (Kd.R_ne HO_5.out BK149.out (by decide))); have n1_ := Aside0.mk (hb); have n2_ := Aside0.mk (ho); clear BK149; clear HB; clear HO_5; have BK149 := n0_; have HB := n1_; have HO161 := n2_; clear n0_ n1_ n2_; clear ho hb hg hat))
                      go_roundg k1
                      case measure => have := HK1.out; omega
                      case rel => exact ⟨(y159), (x6_1), (wrap64 (x7_1 + 1)), fg, fg, H', ⟨by have := HK1.out; omega⟩, ⟨by (with_reducible repeat (first | apply Kd.R_alloc | apply Kd.R_drewN | apply Kd.R_drew)); exact HO161.out⟩, ⟨ks BK149⟩, ⟨bs HB⟩⟩
                    · rw [if_neg c21] at H
                      exact absurd H (by simp)
                  · rw [if_neg c20] at H; have c20b0 : ((bt a0 x7_1) == 113) = false := beq_eq_false_iff_ne.mpr c20; have c20b1 : ((bt a0 x7_1) != 113) = true := bne_iff_ne.mpr c20
                    by_cases c23 : (bt a0 x7_1) = 122
                    · rw [if_pos c23] at H; have c23b0 : ((bt a0 x7_1) == 122) = true := beq_iff_eq.mpr c23; have c23b1 : ((bt a0 x7_1) != 122) = false := bne_eq_false_iff_eq.mpr c23; clear c23
                      by_cases c24 : x5_1.length < 140737488355328
                      · rw [if_pos c24] at H; have LMc24 := Aside0.mk c24; clear c24; obtain ⟨y162, hy162⟩ : ∃ y_ : List Int, y_ = (x5_1 ++ [bt a0 x7_1]) := ⟨_, rfl⟩
                        replace H : (spec_FormRight.l0 k1 a0 y162 x6_1 (wrap64 (x7_1 + 1)) a1_0 l1_1) = some r := by first | (rw [hy162]; with_reducible exact H) | (have H2_ := (Option.bind_some _ _).symm.trans H; rw [hy162]; with_reducible exact H2_) | (have H2_ := (Option.bind_some _ _).symm.trans H; with_reducible exact H2_) | with_reducible exact H | (rw [hy162]; exact H) | exact H
                        have Ny162 := Aside0.mk hy162; clear hy162; have H' := Aside0.mk H; clear H; have p10 : 0 ≤ (x7_1 : Int) := oa; have q10 : x7_1 < (a0.size : Int) := oa; have hx10 := bt_at a0 x7_1; replace p10 := eq_true p10; replace q10 := eq_true q10
                        go_wp2_with (first | ((with_reducible refine gate_builtin (b := .append) (xs := #[.tmp 51, .tmp 53]) rfl ?_); (try (refine gate_guard (by rfl) ?_; dsimp only)); at_builtin; refine Kd.R_append (Kd.int .u8) (w0 := w) w.heap.size rfl (.tmp 51) (.tmp 53) 50 5 (.int .u8 0) 1 rfl Tryd.underlying50 info5 rfl (by decide) (by omega) u5 x5_1 (bt a0 x7_1) [.int .u8 (bt a0 x7_1)] (fun _ => True) (fun _ => False) rfl rfl ?aP (fun _ hk => hk.elim) ?aF ?aO ?aB ?aS ?aL ?_; (case aP => exact rfl); (case aB => exact (bs HB)); (case aF => exact (fun _ _ => trivial)); (case aO => exact (rs HO_5)); (case aS => exact (below_size (bs HB))); (case aL => have := LMc24.out; omega); intro v163 w25 ho hb hg hat; rw [← Ny162.out] at ho; have n0_ := Aside0.mk (blk_grown (ks BK149) hg (Kd.R_ne HO_5.out BK149.out (by decide))); have n1_ := Aside0.mk (hb); have n2_ := Aside0.mk (ho); clear BK149; clear HB; clear HO_5; have BK149 := n0_; have HB := n1_; have HO164 := n2_; clear n0_ n1_ n2_; clear ho hb hg hat))
                        go_roundg k1
                        case measure => have := HK1.out; omega
                        case rel => exact ⟨(y162), (x6_1), (wrap64 (x7_1 + 1)), fg, fg, H', ⟨by have := HK1.out; omega⟩, ⟨by (with_reducible repeat (first | apply Kd.R_alloc | apply Kd.R_drewN | apply Kd.R_drew)); exact HO164.out⟩, ⟨ks BK149⟩, ⟨bs HB⟩⟩
                      · rw [if_neg c24] at H
                        exact absurd H (by simp)
                    · rw [if_neg c23] at H; have c23b0 : ((bt a0 x7_1) == 122) = false := beq_eq_false_iff_ne.mpr c23; have c23b1 : ((bt a0 x7_1) != 122) = true := bne_iff_ne.mpr c23
                      by_cases c26 : (bt a0 x7_1) = 100
                      · rw [if_pos c26] at H; have c26b0 : ((bt a0 x7_1) == 100) = true := beq_iff_eq.mpr c26; have c26b1 : ((bt a0 x7_1) != 100) = false := bne_eq_false_iff_eq.mpr c26; clear c26
                        by_cases c27 : x5_1.length < 140737488355328
                        · rw [if_pos c27] at H; have LMc27 := Aside0.mk c27; clear c27; obtain ⟨y165, hy165⟩ : ∃ y_ : List Int, y_ = (x5_1 ++ [bt a0 x7_1]) := ⟨_, rfl⟩
                          replace H : (spec_FormRight.l0 k1 a0 y165 x6_1 (wrap64 (x7_1 + 1)) a1_0 l1_1) = some r := by first | (rw [hy165]; with_reducible exact H) | (have H2_ := (Option.bind_some _ _).symm.trans H; rw [hy165]; with_reducible exact H2_) | (have H2_ := (Option.bind_some _ _).symm.trans H; with_reducible exact H2_) | with_reducible exact H | (rw [hy165]; exact H) | exact H
                          have Ny165 := Aside0.mk hy165; clear hy165; have H' := Aside0.mk H; clear H; have p10 : 0 ≤ (x7_1 : Int) := oa; have q10 : x7_1 < (a0.size : Int) := oa; have hx10 := bt_at a0 x7_1; replace p10 := eq_true p10; replace q10 := eq_true q10
                          go_wp2_with (first | ((with_reducible refine gate_builtin (b := .append) (xs := #[.tmp 51, .tmp 53]) rfl ?_); (try (refine gate_guard (by rfl) ?_; dsimp only)); at_builtin; refine Kd.R_append (Kd.int .u8) (w0 := w) w.heap.size rfl (.tmp 51) (.tmp 53) 50 5 (.int .u8 0) 1 rfl Tryd.underlying50 info5 rfl (by decide) (by omega) u5 x5_1 (bt a0 x7_1) [.int .u8 (bt a0 x7_1)] (fun _ => True) (fun _ => False) rfl rfl ?aP (fun _ hk => hk.elim) ?aF ?aO ?aB ?aS ?aL ?_; (case aP => exact rfl); (case aB => exact (bs HB)); (case aF => exact (fun _ _ => trivial)); (case aO => exact (rs HO_5)); (case aS => exact (below_size (bs HB))); (case aL => have := LMc27.out; omega); intro v166 w28 ho hb hg hat; rw [← Ny165.out] at ho; have n0_ := Aside0.mk (blk_grown (ks BK149) hg (Kd.R_ne HO_5.out BK149.out (by decide))); have n1_ := Aside0.mk (hb); have n2_ := Aside0.mk (ho); clear BK149; clear HB; clear HO_5; have BK149 := n0_; have HB := n1_; have HO167 := n2_; clear n0_ n1_ n2_; clear ho hb hg hat))
                          go_roundg k1
                          case measure => have := HK1.out; omega
                          case rel => exact ⟨(y165), (x6_1), (wrap64 (x7_1 + 1)), fg, fg, H', ⟨by have := HK1.out; omega⟩, ⟨by (with_reducible repeat (first | apply Kd.R_alloc | apply Kd.R_drewN | apply Kd.R_drew)); exact HO167.out⟩, ⟨ks BK149⟩, ⟨bs HB⟩⟩
                        · rw [if_neg c27] at H
                          exact absurd H (by simp)
                      · rw [if_neg c26] at H; have c26b0 : ((bt a0 x7_1) == 100) = false := beq_eq_false_iff_ne.mpr c26; have c26b1 : ((bt a0 x7_1) != 100) = true := bne_iff_ne.mpr c26
                        by_cases c29 : (bt a0 x7_1) = 116
                        · rw [if_pos c29] at H; have c29b0 : ((bt a0 x7_1) == 116) = true := beq_iff_eq.mpr c29; have c29b1 : ((bt a0 x7_1) != 116) = false := bne_eq_false_iff_eq.mpr c29; clear c29
                          by_cases c30 : x5_1.length < 140737488355328
                          · rw [if_pos c30] at H; have LMc30 := Aside0.mk c30; clear c30; obtain ⟨y168, hy168⟩ : ∃ y_ : List Int, y_ = (x5_1 ++ [bt a0 x7_1]) := ⟨_, rfl⟩
                            replace H : (spec_FormRight.l0 k1 a0 y168 x6_1 (wrap64 (x7_1 + 1)) a1_0 l1_1) = some r := by first | (rw [hy168]; with_reducible exact H) | (have H2_ := (Option.bind_some _ _).symm.trans H; rw [hy168]; with_reducible exact H2_) | (have H2_ := (Option.bind_some _ _).symm.trans H; with_reducible exact H2_) | with_reducible exact H | (rw [hy168]; exact H) | exact H
                            have Ny168 := Aside0.mk hy168; clear hy168; have H' := Aside0.mk H; clear H; have p10 : 0 ≤ (x7_1 : Int) := oa; have q10 : x7_1 < (a0.size : Int) := oa; have hx10 := bt_at a0 x7_1; replace p10 := eq_true p10; replace q10 := eq_true q10
                            go_wp2_with (first | ((with_reducible refine gate_builtin (b := .append) (xs := #[.tmp 51, .tmp 53]) rfl ?_); (try (refine gate_guard (by rfl) ?_; dsimp only)); at_builtin; refine Kd.R_append (Kd.int .u8) (w0 := w) w.heap.size rfl (.tmp 51) (.tmp 53) 50 5 (.int .u8 0) 1 rfl Tryd.underlying50 info5 rfl (by decide) (by omega) u5 x5_1 (bt a0 x7_1) [.int .u8 (bt a0 x7_1)] (fun _ => True) (fun _ => False) rfl rfl ?aP (fun _ hk => hk.elim) ?aF ?aO ?aB ?aS ?aL ?_; (case aP => exact rfl); (case aB => exact (bs HB)); (case aF => exact (fun _ _ => trivial)); (case aO => exact (rs HO_5)); (case aS => exact (below_size (bs HB))); (case aL => have := LMc30.out; omega); intro v169 w31 ho hb hg hat; rw [← Ny168.out] at ho; have n0_ := Aside0.mk (blk_grown (ks BK149) hg (Kd.R_ne HO_5.out BK149.out (by decide))); have n1_ := Aside0.mk (hb); have n2_ := Aside0.mk (ho); clear BK149; clear HB; clear HO_5; have BK149 := n0_; have HB := n1_; have HO170 := n2_; clear n0_ n1_ n2_; clear ho hb hg hat))
                            go_roundg k1
                            case measure => have := HK1.out; omega
                            case rel => exact ⟨(y168), (x6_1), (wrap64 (x7_1 + 1)), fg, fg, H', ⟨by have := HK1.out; omega⟩, ⟨by (with_reducible repeat (first | apply Kd.R_alloc | apply Kd.R_drewN | apply Kd.R_drew)); exact HO170.out⟩, ⟨ks BK149⟩, ⟨bs HB⟩⟩
                          · rw [if_neg c30] at H
                            exact absurd H (by simp)
                        · rw [if_neg c29] at H; have c29b0 : ((bt a0 x7_1) == 116) = false := beq_eq_false_iff_ne.mpr c29; have c29b1 : ((bt a0 x7_1) != 116) = true := bne_iff_ne.mpr c29; obtain rfl := Option.some.inj H; have p10 : 0 ≤ (x7_1 : Int) := oa; have q10 : x7_1 < (a0.size : Int) := oa; have hx10 := bt_at a0 x7_1; replace p10 := eq_true p10; replace q10 := eq_true q10
                          go_wp2
                          go_ret
                          exact ⟨ff, bs HB⟩
          · rw [if_neg c9] at H
            exact absurd H (by simp)
        · rw [if_neg c8] at H; have c8b0 : decide (x7_1 < (a0.size : Int)) = false := decide_eq_false c8; clear c8; have HC32 := Aside0.mk H; clear H
          go_upto_if 56 with (fail)
          go_cut [6] (fun v6 wc => ∃ (kq : Nat) (x6_31 : Int), v6 = .int .i64 x6_31 ∧ Aside0 (spec_FormRight.j1 kq x5_1 x6_31 a1_0 l1_1 = some r) ∧ Aside0 (kq ≤ k1) ∧ Aside0 (Kd.R (Kd.int .u8) 5 wc w.heap.size (fun _ => True) u5 x5_1) ∧ Aside0 (wc.heap[gb149]? = some (.cells #[.string a1_0, (.slice A1_1 l1_1.length c1_1)] 36 (0, 0))) ∧ Aside0 (Below w.heap.size w wc))
          case first =>
            have H := HC32.out; clear HC32
            by_cases c33 : x6_1 < 0
            · rw [if_pos c33] at H; have c33b0 : decide (x6_1 < 0) = true := decide_eq_true c33; clear c33
              (first | rw [c33b0] | (simp only [i64_w, i32_w]; rw [c33b0]) | skip)
              have H' := Aside0.mk H; clear H; obtain ⟨Ao34, co34, eo34⟩ := Kd.R_slice HO_5.out; subst eo34
              go_wp2
              go_meet
              case rel => exact ⟨_, ((x5_1.length : Int)), fg, H', ⟨by have := HK1.out; first | omega | exact Nat.le_refl _⟩, ⟨by (with_reducible repeat (first | apply Kd.R_alloc | apply Kd.R_drewN | apply Kd.R_drew)); exact HO_5.out⟩, ⟨ks BK149⟩, ⟨bs HB⟩⟩
            · rw [if_neg c33] at H; have c33b0 : decide (x6_1 < 0) = false := decide_eq_false c33; clear c33
              (first | rw [c33b0] | (simp only [i64_w, i32_w]; rw [c33b0]) | skip)
              have H' := Aside0.mk H; clear H
              go_wp2
              go_meet
              case rel => exact ⟨_, (x6_1), fg, H', ⟨by have := HK1.out; first | omega | exact Nat.le_refl _⟩, ⟨by (with_reducible repeat (first | apply Kd.R_alloc | apply Kd.R_drewN | apply Kd.R_drew)); exact HO_5.out⟩, ⟨ks BK149⟩, ⟨bs HB⟩⟩
          case rest =>
            clear HC32
            try clear c1
            try clear p1
            try clear q1
            try clear hx1
            try clear c2
            try clear p2
            try clear c3
            try clear c3b0
            try clear c3b1
            try clear p6
            try clear c8
            try clear c8b0
            try clear c9
            try clear c9b0
            try clear p10
            try clear q10
            try clear hx10
            try clear c11
            try clear c11b0
            try clear c11b1
            try clear c12
            try clear c12b0
            try clear c14
            try clear c14b0
            try clear c14b1
            try clear c15
            try clear c17
            try clear c17b0
            try clear c17b1
            try clear c18
            try clear c20
            try clear c20b0
            try clear c20b1
            try clear c21
            try clear c23
            try clear c23b0
            try clear c23b1
            try clear c24
            try clear c26
            try clear c26b0
            try clear c26b1
            try clear c27
            try clear c29
            try clear c29b0
            try clear c29b1
            try clear c30
            try clear c33
            try clear c33b0
            try clear p10
            try clear p2
            try clear q10
            obtain ⟨kq, x6_31, rfl, HA, HJ31, HO_5, BK149, HB⟩ := hcut
            cases kq with
            | zero => exact absurd HA.out (by simp [spec_FormRight.j1])
            | succ kj31 =>
              have H := HA.out; clear HA; simp only [spec_FormRight.j1] at H; have H' := Aside0.mk H; clear H
              go_wp2
              go_loopg [9] kj31 (fun kq v9 w' => ∃ (x9_3 : Int), v9 = .int .i64 x9_3 ∧ Aside0 (spec_FormRight.l1 kq x5_1 x6_31 x9_3 a1_0 l1_1 = some r) ∧ Aside0 (kq ≤ kj31) ∧ Aside0 (Kd.R (Kd.int .u8) 5 w' w.heap.size (fun _ => True) u5 x5_1) ∧ Aside0 (w'.heap[gb149]? = some (.cells #[.string a1_0, (.slice A1_1 l1_1.length c1_1)] 36 (0, 0))) ∧ Aside0 (Below w.heap.size w w'))
              case atStart => exact ⟨(0), fg, H', ⟨Nat.le_refl _⟩, ⟨by (with_reducible repeat (first | apply Kd.R_alloc | apply Kd.R_drewN | apply Kd.R_drew)); exact HO_5.out⟩, ⟨ks BK149⟩, ⟨bs HB⟩⟩
              case round =>
                clear H'
                try clear c1
                try clear p1
                try clear q1
                try clear hx1
                try clear c2
                try clear p2
                try clear c3
                try clear c3b0
                try clear c3b1
                try clear p6
                try clear c8
                try clear c8b0
                try clear c9
                try clear c9b0
                try clear p10
                try clear q10
                try clear hx10
                try clear c11
                try clear c11b0
                try clear c11b1
                try clear c12
                try clear c12b0
                try clear c14
                try clear c14b0
                try clear c14b1
                try clear c15
                try clear c17
                try clear c17b0
                try clear c17b1
                try clear c18
                try clear c20
                try clear c20b0
                try clear c20b1
                try clear c21
                try clear c23
                try clear c23b0
                try clear c23b1
                try clear c24
                try clear c26
                try clear c26b0
                try clear c26b1
                try clear c27
                try clear c29
                try clear c29b0
                try clear c29b1
                try clear c30
                try clear c33
                try clear c33b0
                try clear p1
                try clear p10
                try clear p2
                try clear p6
                try clear q1
                try clear q10
                obtain ⟨x9_3, rfl, HA, HK3, HO_5, BK149, HB⟩ := hrel
                cases gk with
                | zero => exact absurd HA.out (by simp [spec_FormRight.l1])
                | succ k3 =>
                  have H := HA.out; clear HA; simp only [spec_FormRight.l1] at H; have HC35 := Aside0.mk H; clear H
                  go_upto_region 19 with (fail)
                  go_cut [68] (fun v68 wc => ∃ (kq : Nat) (x68_34 : Bool), v68 = .bool x68_34 ∧ Aside0 (spec_FormRight.j3 kq x5_1 x6_31 x9_3 x68_34 a1_0 l1_1 = some r) ∧ Aside0 (kq ≤ k3) ∧ Aside0 (Kd.R (Kd.int .u8) 5 wc w.heap.size (fun _ => True) u5 x5_1) ∧ Aside0 (wc.heap[gb149]? = some (.cells #[.string a1_0, (.slice A1_1 l1_1.length c1_1)] 36 (0, 0))) ∧ Aside0 (Below w.heap.size w wc))
                  case first =>
                    have H := HC35.out; clear HC35
                    by_cases c36 : x9_3 < (l1_1.length : Int)
                    · rw [if_pos c36] at H; have c36b0 : decide (x9_3 < (l1_1.length : Int)) = true := decide_eq_true c36; clear c36
                      (first | rw [c36b0] | (simp only [i64_w, i32_w]; rw [c36b0]) | skip)
                      have H' := Aside0.mk H; clear H; obtain ⟨hcz37_0, hcz37_1, hfz37_0, hfz37_1⟩ := cf2 BK149
                      go_wp2
                      go_meet
                      case rel => exact ⟨_, (true), fg, H', ⟨by have := HK1.out; have := HJ31.out; have := HK3.out; first | omega | exact Nat.le_refl _⟩, ⟨by (with_reducible repeat (first | apply Kd.R_alloc | apply Kd.R_drewN | apply Kd.R_drew)); exact HO_5.out⟩, ⟨ks BK149⟩, ⟨bs HB⟩⟩
                    · rw [if_neg c36] at H; have c36b0 : decide (x9_3 < (l1_1.length : Int)) = false := decide_eq_false c36; clear c36
                      (first | rw [c36b0] | (simp only [i64_w, i32_w]; rw [c36b0]) | skip)
                      have H' := Aside0.mk H; clear H; obtain ⟨hcz38_0, hcz38_1, hfz38_0, hfz38_1⟩ := cf2 BK149
                      go_wp2
                      go_meet
                      case rel => exact ⟨_, (decide (x9_3 < x6_31)), fg, H', ⟨by have := HK1.out; have := HJ31.out; have := HK3.out; first | omega | exact Nat.le_refl _⟩, ⟨by (with_reducible repeat (first | apply Kd.R_alloc | apply Kd.R_drewN | apply Kd.R_drew)); exact HO_5.out⟩, ⟨ks BK149⟩, ⟨bs HB⟩⟩
                  case rest =>
                    clear HC35
                    try clear c1
                    try clear p1
                    try clear q1
                    try clear hx1
                    try clear c2
                    try clear p2
                    try clear c3
                    try clear c3b0
                    try clear c3b1
                    try clear p6
                    try clear c8
                    try clear c8b0
                    try clear c9
                    try clear c9b0
                    try clear p10
                    try clear q10
                    try clear hx10
                    try clear c11
                    try clear c11b0
                    try clear c11b1
                    try clear c12
                    try clear c12b0
                    try clear c14
                    try clear c14b0
                    try clear c14b1
                    try clear c15
                    try clear c17
                    try clear c17b0
                    try clear c17b1
                    try clear c18
                    try clear c20
                    try clear c20b0
                    try clear c20b1
                    try clear c21
                    try clear c23
                    try clear c23b0
                    try clear c23b1
                    try clear c24
                    try clear c26
                    try clear c26b0
                    try clear c26b1
                    try clear c27
                    try clear c29
                    try clear c29b0
                    try clear c29b1
                    try clear c30
                    try clear c33
                    try clear c33b0
                    try clear c36
                    try clear c36b0
                    try clear hcz37_0
                    try clear hcz37_1
                    try clear hcz38_0
                    try clear hcz38_1
                    try clear hfz37_0
                    try clear hfz37_1
                    try clear hfz38_0
                    try clear hfz38_1
                    try clear p1
                    try clear p10
                    try clear p2
                    try clear p6
                    try clear q1
                    try clear q10
                    obtain ⟨kq, x68_34, rfl, HA, HJ34, HO_5, BK149, HB⟩ := hcut
                    cases kq with
                    | zero => exact absurd HA.out (by simp [spec_FormRight.j3])
                    | succ kj34 =>
                      have H := HA.out; clear HA; simp only [spec_FormRight.j3] at H
                      by_cases c39 : x68_34 = true
                      · subst c39
                        have H1 : (if x9_3 ≥ (l1_1.length : Int) then (some x9_3) else (if x9_3 ≥ (x5_1.length : Int) then (some x9_3) else (if 0 ≤ x9_3 then (if x9_3 < (x5_1.length : Int) then (if x9_3 < (l1_1.length : Int) then ((spec_l04Element.f kj34 (rd x5_1 x9_3) ((rd_T65 l1_1 x9_3).f0)).bind fun t173 => (if t173 = true then (spec_FormRight.l1 kj34 x5_1 x6_31 (wrap64 (x9_3 + 1)) a1_0 l1_1) else (some x9_3))) else (none)) else (none)) else (none)))) = some r := by rw [if_pos rfl] at H; exact H
                        clear H; have H := H1; clear H1
                        by_cases c40 : x9_3 ≥ (l1_1.length : Int)
                        · rw [if_pos c40] at H; have c40b0 : decide ((l1_1.length : Int) ≤ x9_3) = true := decide_eq_true c40; clear c40; obtain rfl := Option.some.inj H
                          try go_wp2
                          replace HO_5 := Aside0.mk (Kd.R_drew HO_5.out); replace BK149 := Aside0.mk (blk_drew BK149.out); replace HB := Aside0.mk (below_drew1 HB.out); refine start_ (n := 24) (S := fun w' => w'.cell? ⟨gb149, 0, none⟩ = some (.string a1_0) ∧ w'.cell? ⟨gb149, 1, none⟩ = some (.slice A1_1 l1_1.length c1_1)) (ds := []) #[false, false, false, false, false, false, false, false, false, false, false, false, false, false, false, false, false, false, false, false, false, false, false, false] (by kernel_rfl) rfl rfl ⟨(blk_cell BK149.out 0).trans rfl, (blk_cell BK149.out 1).trans rfl⟩ (fun hHeld => ?_); refine with_tabW spec_FormRight.tab21 spec_FormRight.bits21 (fun HT_ HW_ => ?_)
                          generalize wc.drew = w41 at HO_5 BK149 HB hHeld ⊢
                          refine pA 0 71 HT_ ?_; refine pA 1 72 HT_ ?_; refine tA 2 73 HT_ HW_ hHeld ?_; refine pA 3 74 HT_ ?_; refine pA 4 75 HT_ ?_; refine pA 5 76 HT_ ?_; refine pB 6 77 HT_ ?_; refine pB 7 78 HT_ ?_; refine pB 8 79 HT_ ?_; refine pB 9 80 HT_ ?_; refine pA 10 81 HT_ ?_; refine pA 11 82 HT_ ?_; refine pB 12 83 HT_ ?_; refine pB 13 84 HT_ ?_; refine pB 14 85 HT_ ?_; refine pB 15 86 HT_ ?_; refine pB 16 87 HT_ ?_; refine pB 17 88 HT_ ?_; refine pB 18 89 HT_ ?_; refine pB 19 90 HT_ ?_; refine pB 20 91 HT_ ?_; refine pB 21 92 HT_ ?_; refine pB 22 93 HT_ ?_; refine pA 23 94 HT_ ?_; refine done_ (done_of HT_.out (by kernel_rfl)) ?_
                          try go_wp2
                          go_ret
                          exact ⟨ff, bs HB⟩
                        · rw [if_neg c40] at H; have c40b0 : decide ((l1_1.length : Int) ≤ x9_3) = false := decide_eq_false c40; clear c40
                          by_cases c42 : x9_3 ≥ (x5_1.length : Int)
                          · rw [if_pos c42] at H; have c42b0 : decide ((x5_1.length : Int) ≤ x9_3) = true := decide_eq_true c42; clear c42; obtain rfl := Option.some.inj H
                            try go_wp2
                            replace HO_5 := Aside0.mk (Kd.R_drew HO_5.out); replace BK149 := Aside0.mk (blk_drew BK149.out); replace HB := Aside0.mk (below_drew1 HB.out); obtain ⟨Ao44, co44, eo44⟩ := Kd.R_slice HO_5.out
                            (first | subst eo44 | (injection eo44 with f1_ f2_ f3_; have f4_ := f1_.symm; have f5_ := f3_.symm; clear f1_ f2_ f3_; subst f4_; subst f5_))
                            refine start_ (n := 24) (S := fun w' => w'.cell? ⟨gb149, 0, none⟩ = some (.string a1_0) ∧ w'.cell? ⟨gb149, 1, none⟩ = some (.slice A1_1 l1_1.length c1_1)) (ds := []) #[false, false, false, false, false, false, false, false, false, false, false, false, false, false, false, false, false, false, false, false, false, false, false, false] (by kernel_rfl) rfl rfl ⟨(blk_cell BK149.out 0).trans rfl, (blk_cell BK149.out 1).trans rfl⟩ (fun hHeld => ?_); refine with_tabW spec_FormRight.tab21 spec_FormRight.bits21 (fun HT_ HW_ => ?_)
                            generalize wc.drew = w43 at HO_5 BK149 HB hHeld ⊢
                            refine pA 0 71 HT_ ?_; refine pA 1 72 HT_ ?_; refine tA 2 73 HT_ HW_ hHeld ?_; refine pA 3 74 HT_ ?_; refine pA 4 75 HT_ ?_; refine pA 5 76 HT_ ?_; refine pA 6 77 HT_ ?_; refine pA 7 78 HT_ ?_; refine pA 8 79 HT_ ?_; refine pA 9 80 HT_ ?_; refine pA 10 81 HT_ ?_; refine pA 11 82 HT_ ?_; refine pB 12 83 HT_ ?_; refine pB 13 84 HT_ ?_; refine pB 14 85 HT_ ?_; refine pB 15 86 HT_ ?_; refine pB 16 87 HT_ ?_; refine pB 17 88 HT_ ?_; refine pB 18 89 HT_ ?_; refine pB 19 90 HT_ ?_; refine pB 20 91 HT_ ?_; refine pB 21 92 HT_ ?_; refine pB 22 93 HT_ ?_; refine pA 23 94 HT_ ?_; refine done_ (done_of HT_.out (by kernel_rfl)) ?_
                            try go_wp2
                            go_ret
                            exact ⟨ff, bs HB⟩
                          · rw [if_neg c42] at H; have c42b0 : decide ((x5_1.length : Int) ≤ x9_3) = false := decide_eq_false c42; clear c42
                            by_cases c45 : 0 ≤ x9_3
                            · rw [if_pos c45] at H; have c45b0 : decide (0 ≤ x9_3) = true := decide_eq_true c45; clear c45
                              by_cases c46 : x9_3 < (x5_1.length : Int)
                              · rw [if_pos c46] at H; have c46b0 : decide (x9_3 < (x5_1.length : Int)) = true := decide_eq_true c46; clear c46
                                by_cases c47 : x9_3 < (l1_1.length : Int)
                                · rw [if_pos c47] at H; have c47b0 : decide (x9_3 < (l1_1.length : Int)) = true := decide_eq_true c47; clear c47; replace H := Option.bind_eq_some_iff.mp H; obtain ⟨t173, A480, H⟩ := H; replace H : (if t173 = true then (spec_FormRight.l1 kj34 x5_1 x6_31 (wrap64 (x9_3 + 1)) a1_0 l1_1) else (some x9_3)) = some r := H; have A48 := Aside0.mk A480; clear A480
                                  by_cases c49 : t173 = true
                                  · subst c49
                                    have H1 : (spec_FormRight.l1 kj34 x5_1 x6_31 (wrap64 (x9_3 + 1)) a1_0 l1_1) = some r := by rw [if_pos rfl] at H; exact H
                                    clear H; have H := H1; clear H1; have H' := Aside0.mk H; clear H
                                    try go_wp2
                                    replace HO_5 := Aside0.mk (Kd.R_drew HO_5.out); replace BK149 := Aside0.mk (blk_drew BK149.out); replace HB := Aside0.mk (below_drew1 HB.out); obtain ⟨Ao51, co51, eo51⟩ := Kd.R_slice HO_5.out
                                    (first | subst eo51 | (injection eo51 with f1_ f2_ f3_; have f4_ := f1_.symm; have f5_ := f3_.symm; clear f1_ f2_ f3_; subst f4_; subst f5_))
                                    have p171 : 0 ≤ (x9_3 : Int) := oa; have q171 : x9_3 < (x5_1.length : Int) := oa; obtain ⟨ad171, e171, hx171_0⟩ := Kd.at_int (Kd.R_reads' HO_5.out).2.2 x9_3 p171 q171
                                    cases e171
                                    replace p171 := eq_true p171; replace q171 := eq_true q171; have p172 : 0 ≤ (x9_3 : Int) := oa; have q172 : x9_3 < (l1_1.length : Int) := oa; obtain ⟨ad172, A172_0, c172_0, e172, hx172_0, hl172_0, hi172_0⟩ := at_T65 HR1_1.out x9_3 p172 q172; have hw172_0 := hx172_0
                                    cases e172
                                    replace hx172_0 := cb HB hx172_0; have HR172_0 := Aside0.mk hi172_0; have HC172_0 := Aside0.mk hl172_0; clear hi172_0 hl172_0; replace p172 := eq_true p172; replace q172 := eq_true q172; refine start_ (n := 24) (S := fun w' => w'.cell? ⟨gb149, 0, none⟩ = some (.string a1_0) ∧ w'.cell? ⟨gb149, 1, none⟩ = some (.slice (some ad172) l1_1.length c1_1) ∧ w'.cell? (ad171.add (x9_3).toNat) = some (.int .u8 (rd x5_1 x9_3)) ∧ w'.cell? (ad172.add (x9_3).toNat) = some (.slice A172_0 ((rd_T65 l1_1 x9_3).f0).length c172_0)) (ds := []) #[false, false, false, false, false, false, false, false, false, false, false, false, false, false, false, false, false, false, false, false, false, false, false, false] (by kernel_rfl) rfl rfl ⟨(blk_cell BK149.out 0).trans rfl, (blk_cell BK149.out 1).trans rfl, hx171_0, ((cb HB hw172_0).trans rfl)⟩ (fun hHeld => ?_); refine with_tabW spec_FormRight.tab21 spec_FormRight.bits21 (fun HT_ HW_ => ?_)
                                    generalize wc.drew = w50 at HO_5 BK149 HB HR172_0 hx171_0 hx172_0 hHeld ⊢
                                    refine pA 0 71 HT_ ?_; refine pA 1 72 HT_ ?_; refine tA 2 73 HT_ HW_ hHeld ?_; refine pA 3 74 HT_ ?_; refine pA 4 75 HT_ ?_; refine pA 5 76 HT_ ?_; refine pA 6 77 HT_ ?_; refine pA 7 78 HT_ ?_; refine pA 8 79 HT_ ?_; refine pA 9 80 HT_ ?_; refine pA 10 81 HT_ ?_; refine pA 11 82 HT_ ?_; refine pA 12 83 HT_ ?_; refine pA 13 84 HT_ ?_; refine pA 14 85 HT_ ?_; refine pA 16 87 HT_ ?_; refine pA 18 89 HT_ ?_; refine tA 15 86 HT_ HW_ hHeld ?_; refine tA 17 88 HT_ HW_ hHeld ?_; refine pA 19 90 HT_ ?_; refine tA 20 91 HT_ HW_ hHeld ?_; refine oA 21 92 HT_ (fun K hK => ?_); refine gA Tryd.func30 #[.int .u8 (rd x5_1 x9_3), .agg #[.slice A172_0 ((rd_T65 l1_1 x9_3).f0).length c172_0]] ?_; (with_reducible refine (spec_l04Element.calls kj34 (rd x5_1 x9_3) _ _ ((rd_T65 l1_1 x9_3).f0) true _ ?side1 ?side2 A48.out).mono ?_)
                                    (case side1 => repeat (first | exact (Kd.C_below HR172_0.out HB.out) | (with_reducible refine Kd.C_alloc ?_ _) | (with_reducible refine Kd.C_drewN ?_ _) | (with_reducible refine Kd.C_drew ?_)))
                                    (case side2 => exact HC172_0.out)
                                    rintro e w52 ⟨rfl, hb⟩; have HS2_ := (hb.cell (World.block_lt_of_cell? _ _ (hHeld.2.2.1))).trans (hHeld.2.2.1); refine ⟨_, rfl, ?_⟩; replace HO_5 := Aside0.mk (Kd.R_below (rs HO_5) hb); replace BK149 := Aside0.mk (blk_below (ks BK149) hb); replace HB := Aside0.mk (below_step (bs HB) hb); (try clear hb); (try clear hb2); (try clear hk); (try clear hi); refine hK.out _ _ ⟨(blk_cell BK149.out 0).trans rfl, (blk_cell BK149.out 1).trans rfl, HS2_, ((cb HB hw172_0).trans rfl)⟩ (fun hHeld => ?_); clear hK K; refine nA 92 ?_; refine pA 22 93 HT_ ?_; refine pA 23 94 HT_ ?_; refine done_ (done_of HT_.out (by kernel_rfl)) ?_
                                    try go_wp2
                                    go_roundg kj34
                                    case measure => have := HK1.out; have := HJ31.out; have := HK3.out; have := HJ34.out; omega
                                    case rel => exact ⟨(wrap64 (x9_3 + 1)), fg, H', ⟨by have := HK1.out; have := HJ31.out; have := HK3.out; have := HJ34.out; omega⟩, ⟨by (with_reducible repeat (first | apply Kd.R_alloc | apply Kd.R_drewN | apply Kd.R_drew)); exact HO_5.out⟩, ⟨ks BK149⟩, ⟨bs HB⟩⟩
                                  · replace c49 := Bool.eq_false_iff.mpr c49; subst c49
                                    have H1 : (some x9_3) = some r := by rw [if_neg (show ¬ (false = true) by decide)] at H; exact H
                                    clear H; have H := H1; clear H1; obtain rfl := Option.some.inj H
                                    try go_wp2
                                    replace HO_5 := Aside0.mk (Kd.R_drew HO_5.out); replace BK149 := Aside0.mk (blk_drew BK149.out); replace HB := Aside0.mk (below_drew1 HB.out); obtain ⟨Ao54, co54, eo54⟩ := Kd.R_slice HO_5.out
                                    (first | subst eo54 | (injection eo54 with f1_ f2_ f3_; have f4_ := f1_.symm; have f5_ := f3_.symm; clear f1_ f2_ f3_; subst f4_; subst f5_))
                                    have p171 : 0 ≤ (x9_3 : Int) := oa; have q171 : x9_3 < (x5_1.length : Int) := oa; obtain ⟨ad171, e171, hx171_0⟩ := Kd.at_int (Kd.R_reads' HO_5.out).2.2 x9_3 p171 q171
                                    cases e171
                                    replace p171 := eq_true p171; replace q171 := eq_true q171; have p172 : 0 ≤ (x9_3 : Int) := oa; have q172 : x9_3 < (l1_1.length : Int) := oa; obtain ⟨ad172, A172_0, c172_0, e172, hx172_0, hl172_0, hi172_0⟩ := at_T65 HR1_1.out x9_3 p172 q172; have hw172_0 := hx172_0
                                    cases e172
                                    replace hx172_0 := cb HB hx172_0; have HR172_0 := Aside0.mk hi172_0; have HC172_0 := Aside0.mk hl172_0; clear hi172_0 hl172_0; replace p172 := eq_true p172; replace q172 := eq_true q172; refine start_ (n := 24) (S := fun w' => w'.cell? ⟨gb149, 0, none⟩ = some (.string a1_0) ∧ w'.cell? ⟨gb149, 1, none⟩ = some (.slice (some ad172) l1_1.length c1_1) ∧ w'.cell? (ad171.add (x9_3).toNat) = some (.int .u8 (rd x5_1 x9_3)) ∧ w'.cell? (ad172.add (x9_3).toNat) = some (.slice A172_0 ((rd_T65 l1_1 x9_3).f0).length c172_0)) (ds := []) #[false, false, false, false, false, false, false, false, false, false, false, false, false, false, false, false, false, false, false, false, false, false, false, false] (by kernel_rfl) rfl rfl ⟨(blk_cell BK149.out 0).trans rfl, (blk_cell BK149.out 1).trans rfl, hx171_0, ((cb HB hw172_0).trans rfl)⟩ (fun hHeld => ?_); refine with_tabW spec_FormRight.tab21 spec_FormRight.bits21 (fun HT_ HW_ => ?_)
                                    generalize wc.drew = w53 at HO_5 BK149 HB HR172_0 hx171_0 hx172_0 hHeld ⊢
                                    refine pA 0 71 HT_ ?_; refine pA 1 72 HT_ ?_; refine tA 2 73 HT_ HW_ hHeld ?_; refine pA 3 74 HT_ ?_; refine pA 4 75 HT_ ?_; refine pA 5 76 HT_ ?_; refine pA 6 77 HT_ ?_; refine pA 7 78 HT_ ?_; refine pA 8 79 HT_ ?_; refine pA 9 80 HT_ ?_; refine pA 10 81 HT_ ?_; refine pA 11 82 HT_ ?_; refine pA 12 83 HT_ ?_; refine pA 13 84 HT_ ?_; refine pA 14 85 HT_ ?_; refine pA 16 87 HT_ ?_; refine pA 18 89 HT_ ?_; refine tA 15 86 HT_ HW_ hHeld ?_; refine tA 17 88 HT_ HW_ hHeld ?_; refine pA 19 90 HT_ ?_; refine tA 20 91 HT_ HW_ hHeld ?_; refine oA 21 92 HT_ (fun K hK => ?_); refine gA Tryd.func30 #[.int .u8 (rd x5_1 x9_3), .agg #[.slice A172_0 ((rd_T65 l1_1 x9_3).f0).length c172_0]] ?_; (with_reducible refine (spec_l04Element.calls kj34 (rd x5_1 x9_3) _ _ ((rd_T65 l1_1 x9_3).f0) false _ ?side1 ?side2 A48.out).mono ?_)
                                    (case side1 => repeat (first | exact (Kd.C_below HR172_0.out HB.out) | (with_reducible refine Kd.C_alloc ?_ _) | (with_reducible refine Kd.C_drewN ?_ _) | (with_reducible refine Kd.C_drew ?_)))
                                    (case side2 => exact HC172_0.out)
                                    rintro e w55 ⟨rfl, hb⟩; have HS2_ := (hb.cell (World.block_lt_of_cell? _ _ (hHeld.2.2.1))).trans (hHeld.2.2.1); refine ⟨_, rfl, ?_⟩; replace HO_5 := Aside0.mk (Kd.R_below (rs HO_5) hb); replace BK149 := Aside0.mk (blk_below (ks BK149) hb); replace HB := Aside0.mk (below_step (bs HB) hb); (try clear hb); (try clear hb2); (try clear hk); (try clear hi); refine hK.out _ _ ⟨(blk_cell BK149.out 0).trans rfl, (blk_cell BK149.out 1).trans rfl, HS2_, ((cb HB hw172_0).trans rfl)⟩ (fun hHeld => ?_); clear hK K; refine nA 92 ?_; refine pA 22 93 HT_ ?_; refine pA 23 94 HT_ ?_; refine done_ (done_of HT_.out (by kernel_rfl)) ?_
                                    try go_wp2
                                    go_ret
                                    exact ⟨ff, bs HB⟩
                                · rw [if_neg c47] at H
                                  exact absurd H (by simp)
                              · rw [if_neg c46] at H
                                exact absurd H (by simp)
                            · rw [if_neg c45] at H
                              exact absurd H (by simp)
                      · replace c39 := Bool.eq_false_iff.mpr c39; subst c39
                        have H1 : (some (-1)) = some r := by rw [if_neg (show ¬ (false = true) by decide)] at H; exact H
                        clear H; have H := H1; clear H1; obtain rfl := Option.some.inj H
                        go_wp2
                        go_ret
                        exact ⟨ff, bs HB⟩
end Go.Proofs.YtjbdljhjplidmaaDoor.QE
namespace Go.Proofs.YtjbdljhjplidmaaDoor.QE
open Go.RowKit Go.Proofs.YtjbdljhjplidmaaDoorW.PrintWords Go.Proofs.YtjbdljhjplidmaaDoorW.PrintLast Go.Proofs.YtjbdljhjplidmaaDoorW.PrintMore
attribute [local go_sem] max2_int min2_int max_two min_two max_three min_three max_four min_four   -- for this text's walks alone
set_option linter.unusedVariables false
set_option linter.unusedSimpArgs false
def TbC (w : World) : Prop := ∃ m, w.cell? ⟨0, 0, none⟩ = some (.int .i64 m)
theorem tbC {w W : World} (h : Aside0 (TbC w)) (hb : Below w.heap.size w W) : TbC W := by
  obtain ⟨m, h0⟩ := h.out
  exact ⟨m, (hb.cell (World.block_lt_of_cell? w _ h0)).trans h0⟩
theorem strings_Cut.calls (a0 : ByteArray) (a1 : ByteArray) (r1 : ByteArray) (r2 : ByteArray) (r3 : Bool) (w : World) (hTC : TbC w) (h : strings_Cut.f a0 a1 = some (r1, r2, r3)) :
    Calls Tryd.prog 32 #[.string a0, .string a1] w fun e w' => e = .returned (.tuple #[.string r1, .string r2, .bool r3]) ∧ Below w.heap.size w w' := by
  unfold strings_Cut.f at h
  by_cases c1 : a0.size < 4294967281
  · rw [if_pos c1] at h
    obtain ⟨rfl, rfl, rfl⟩ : (⟨(Lib.cut a0.data.toList a1.data.toList).1.toArray⟩ : ByteArray) = r1 ∧ (⟨(Lib.cut a0.data.toList a1.data.toList).2.1.toArray⟩ : ByteArray) = r2 ∧ (Lib.cut a0.data.toList a1.data.toList).2.2 = r3 := by simpa using h
    obtain ⟨m, hm⟩ := hTC; refine (show Calls Tryd.prog 32 #[.string a0, .string a1] w _ from Any.strings_Cut Tryd.lays145 a0 a1 m w c1 hm).mono ?_; rintro e w' ⟨rfl, k, rfl⟩
    exact ⟨rfl, pw_below_drewN (Below.refl _ _) k⟩
  · rw [if_neg c1] at h; cases h
theorem strings_IndexByte.calls (a0 : ByteArray) (a1 : Int) (r : Int) (w : World) (h : strings_IndexByte.f a0 a1 = some r) :
    Calls Tryd.prog 33 #[.string a0, .int .u8 a1] w fun e w' => e = .returned (.int .i64 r) ∧ Drawn0 w w' := by
  obtain rfl := Option.some.inj h; refine (show Calls Tryd.prog 33 #[.string a0, .int .u8 a1] w _ from Any.strings_IndexByte Tryd.lays137 a0 a1 w).mono ?_; rintro e w' ⟨rfl, rfl⟩
  exact ⟨rfl, Drawn0.refl _⟩
set_option maxHeartbeats 8000000 in
set_option maxRecDepth 100000 in
theorem impl_longText_1.calls (a0 : ByteArray) (r : Bool) (w : World) (h : impl_longText_1.f a0 = some r) :
    Calls Tryd.prog 59 #[.string a0] w fun e w' => e = .returned (.bool r) ∧ Drawn0 w w' := by
  have H : (some (decide ((a0.size : Int) > 20000))) = some r := h; clear h; obtain rfl := Option.some.inj H
  go_enter Tryd.func59, Tryd.ntmps59
  go_wp2
  go_ret
  exact ⟨fg, by repeat (first | exact Drawn0.refl _ | apply Drawn0.step)⟩
set_option maxHeartbeats 8000000 in
set_option maxRecDepth 100000 in
theorem slices_IndexFunc_string_string_impl_longText_1.calls (k : Nat) (A0 : Option Addr) (c0 : Nat) (l0 : List ByteArray)  (r : Int) (w : World) (hr0 : Kd.C Kd.string w A0 l0.length l0) (hc0 : l0.length ≤ c0) (h : slices_IndexFunc_string_string_impl_longText_1.f k l0 = some r) :
    Calls Tryd.prog 77 #[.slice A0 l0.length c0, .func (.func 59) #[] #[]] w fun e w' => e = .returned (.int .i64 r) ∧ Drawn0 w w' := by
  have HR0 := Aside0.mk hr0; have HC0 := Aside0.mk hc0; clear hr0 hc0; have H : (slices_IndexFunc_string_string_impl_longText_1.l0 k l0 (l0.length : Int) 0) = some r := h; clear h; have H' := Aside0.mk H; clear H
  go_enter Tryd.func77, Tryd.ntmps77
  go_wp2
  go_loopg [8] k (fun kq v8 w' => ∃ (x8_1 : Int), v8 = .int .i64 x8_1 ∧ Aside0 (slices_IndexFunc_string_string_impl_longText_1.l0 kq l0 (l0.length : Int) x8_1 = some r) ∧ Aside0 (kq ≤ k) ∧ Drawn0 w w')
  case atStart => exact ⟨(0), fg, H', ⟨Nat.le_refl _⟩, by repeat (first | exact Drawn0.refl _ | apply Drawn0.step)⟩
  case round =>
    clear H'
    try clear p2
    obtain ⟨x8_1, rfl, HA, HK1, ⟨m1, rfl⟩⟩ := hrel
    cases gk with
    | zero => exact absurd HA.out (by simp [slices_IndexFunc_string_string_impl_longText_1.l0])
    | succ k1 =>
      have H := HA.out; clear HA; simp only [slices_IndexFunc_string_string_impl_longText_1.l0] at H
      by_cases c3 : x8_1 < (l0.length : Int)
      · rw [if_pos c3] at H; have c3b0 : decide (x8_1 < (l0.length : Int)) = true := decide_eq_true c3; clear c3
        by_cases c4 : 0 ≤ x8_1
        · rw [if_pos c4] at H; have c4b0 : decide (0 ≤ x8_1) = true := decide_eq_true c4; clear c4
          by_cases c5 : x8_1 < (l0.length : Int)
          · rw [if_pos c5] at H; have c5b0 : decide (x8_1 < (l0.length : Int)) = true := decide_eq_true c5; clear c5; replace H := Option.bind_eq_some_iff.mp H; obtain ⟨t175, A60, H⟩ := H; replace H : (if t175 = true then (some x8_1) else (slices_IndexFunc_string_string_impl_longText_1.l0 k1 l0 (l0.length : Int) (wrap64 (x8_1 + 1)))) = some r := H; have A6 := Aside0.mk A60; clear A60; have p174 : 0 ≤ (x8_1 : Int) := oa; have q174 : x8_1 < (l0.length : Int) := oa; obtain ⟨ad174, e174, hx174_0⟩ := Kd.at_string HR0.out x8_1 p174 q174
            cases e174
            replace p174 := eq_true p174; replace q174 := eq_true q174
            try go_wp2_with (fail)
            go_at_call 59; (with_reducible refine (impl_longText_1.calls (rdOf ByteArray.empty l0 x8_1) t175 _ A6.out).mono ?_); rintro e w' ⟨rfl, ⟨nd, rfl⟩⟩
            by_cases c7 : t175 = true
            · subst c7
              have H1 : (some x8_1) = some r := by rw [if_pos rfl] at H; exact H
              clear H; have H := H1; clear H1; obtain rfl := Option.some.inj H
              go_wp2
              go_ret
              exact ⟨fg, by repeat (first | exact Drawn0.refl _ | apply Drawn0.step)⟩
            · replace c7 := Bool.eq_false_iff.mpr c7; subst c7
              have H1 : (slices_IndexFunc_string_string_impl_longText_1.l0 k1 l0 (l0.length : Int) (wrap64 (x8_1 + 1))) = some r := by rw [if_neg (show ¬ (false = true) by decide)] at H; exact H
              clear H; have H := H1; clear H1; have H' := Aside0.mk H; clear H
              go_wp2
              go_roundg k1
              case measure => have := HK1.out; omega
              case rel => exact ⟨(wrap64 (x8_1 + 1)), fg, H', ⟨by have := HK1.out; omega⟩, by repeat (first | exact Drawn0.refl _ | apply Drawn0.step)⟩
          · rw [if_neg c5] at H
            exact absurd H (by simp)
        · rw [if_neg c4] at H
          exact absurd H (by simp)
      · rw [if_neg c3] at H; have c3b0 : decide (x8_1 < (l0.length : Int)) = false := decide_eq_false c3; clear c3; obtain rfl := Option.some.inj H
        go_wp2
        go_ret
        exact ⟨fg, by repeat (first | exact Drawn0.refl _ | apply Drawn0.step)⟩
set_option maxHeartbeats 8000000 in
set_option maxRecDepth 100000 in
theorem slices_ContainsFunc_string_string_impl_longText_1.calls (k : Nat) (A0 : Option Addr) (c0 : Nat) (l0 : List ByteArray)  (r : Bool) (w : World) (hr0 : Kd.C Kd.string w A0 l0.length l0) (hc0 : l0.length ≤ c0) (h : slices_ContainsFunc_string_string_impl_longText_1.f k l0 = some r) :
    Calls Tryd.prog 58 #[.slice A0 l0.length c0, .func (.func 59) #[] #[]] w fun e w' => e = .returned (.bool r) ∧ Drawn0 w w' := by
  have HR0 := Aside0.mk hr0; have HC0 := Aside0.mk hc0; clear hr0 hc0; have H : ((slices_IndexFunc_string_string_impl_longText_1.f k l0).bind fun t176 => (some (decide (t176 ≥ 0)))) = some r := h; clear h; replace H := Option.bind_eq_some_iff.mp H; obtain ⟨t176, A30, H⟩ := H; replace H : (some (decide (t176 ≥ 0))) = some r := H; have A3 := Aside0.mk A30; clear A30; obtain rfl := Option.some.inj H
  go_enter Tryd.func58, Tryd.ntmps58
  go_wp2_with (first | ((first | ((with_reducible refine gate_callee (f := 77) rfl ?_); refine goesL_ (some 7) rfl rfl Tryd.func77 (by kernel_rfl) rfl #[.slice A0 l0.length c0, .func (.func 59) #[] #[]] rfl (by (try simp only [List.map_toArray, List.map_cons, List.map_nil]); first | done | rfl | (simp only [List.length_drop, List.length_take]; rfl)) ?_; (with_reducible refine (slices_IndexFunc_string_string_impl_longText_1.calls k _ _ l0  t176 _ ?side1 HC0.out A3.out).mono ?_); (case side1 => repeat (first | exact HR0.out | (with_reducible refine Kd.C_alloc ?_ _) | (with_reducible refine Kd.C_drewN ?_ _) | (with_reducible refine Kd.C_drew ?_))); rintro e w' ⟨rfl, ⟨nd, rfl⟩⟩; refine ⟨_, rfl, ?_⟩) | (go_at_call 77; (with_reducible refine (slices_IndexFunc_string_string_impl_longText_1.calls k _ _ l0  t176 _ ?side1 HC0.out A3.out).mono ?_); (case side1 => repeat (first | exact HR0.out | (with_reducible refine Kd.C_alloc ?_ _) | (with_reducible refine Kd.C_drewN ?_ _) | (with_reducible refine Kd.C_drew ?_))); rintro e w' ⟨rfl, ⟨nd, rfl⟩⟩))))
  go_ret
  exact ⟨fg, by repeat (first | exact Drawn0.refl _ | apply Drawn0.step)⟩
set_option maxHeartbeats 8000000 in
set_option maxRecDepth 100000 in
theorem impl_longText.calls (k : Nat) (A0 : Option Addr) (c0 : Nat) (l0 : List ByteArray) (r : Bool) (w : World) (hr0 : Kd.C Kd.string w A0 l0.length l0) (hc0 : l0.length ≤ c0) (h : impl_longText.f k l0 = some r) :
    Calls Tryd.prog 34 #[.slice A0 l0.length c0] w fun e w' => e = .returned (.bool r) ∧ Drawn0 w w' := by
  have HR0 := Aside0.mk hr0; have HC0 := Aside0.mk hc0; clear hr0 hc0; have H : ((slices_ContainsFunc_string_string_impl_longText_1.f k l0).bind fun t177 => (some t177)) = some r := h; clear h; replace H := Option.bind_eq_some_iff.mp H; obtain ⟨t177, A20, H⟩ := H; replace H : (some t177) = some r := H; have A2 := Aside0.mk A20; clear A20; obtain rfl := Option.some.inj H
  go_enter Tryd.func34, Tryd.ntmps34
  go_wp2_with (first | ((first | ((with_reducible refine gate_callee (f := 58) rfl ?_); refine goesL_ (some 4) rfl rfl Tryd.func58 (by kernel_rfl) rfl #[.slice A0 l0.length c0, .func (.func 59) #[] #[]] rfl (by (try simp only [List.map_toArray, List.map_cons, List.map_nil]); first | done | rfl | (simp only [List.length_drop, List.length_take]; rfl)) ?_; (with_reducible refine (slices_ContainsFunc_string_string_impl_longText_1.calls k _ _ l0  t177 _ ?side1 HC0.out A2.out).mono ?_); (case side1 => repeat (first | exact HR0.out | (with_reducible refine Kd.C_alloc ?_ _) | (with_reducible refine Kd.C_drewN ?_ _) | (with_reducible refine Kd.C_drew ?_))); rintro e w' ⟨rfl, ⟨nd, rfl⟩⟩; refine ⟨_, rfl, ?_⟩) | (go_at_call 58; (with_reducible refine (slices_ContainsFunc_string_string_impl_longText_1.calls k _ _ l0  t177 _ ?side1 HC0.out A2.out).mono ?_); (case side1 => repeat (first | exact HR0.out | (with_reducible refine Kd.C_alloc ?_ _) | (with_reducible refine Kd.C_drewN ?_ _) | (with_reducible refine Kd.C_drew ?_))); rintro e w' ⟨rfl, ⟨nd, rfl⟩⟩))))
  go_ret
  exact ⟨fg, by repeat (first | exact Drawn0.refl _ | apply Drawn0.step)⟩
set_option maxHeartbeats 8000000 in
set_option maxRecDepth 100000 in
theorem impl_isGreat.calls (a0 : Int) (r : Bool) (w : World) (h : impl_isGreat.f a0 = some r) :
    Calls Tryd.prog 78 #[.int .u8 a0] w fun e w' => e = .returned (.bool r) ∧ Drawn0 w w' := by
  have H : (if a0 ≥ 65 then (some (decide (a0 ≤ 90))) else (some false)) = some r := h; clear h
  by_cases c2 : a0 ≥ 65
  · rw [if_pos c2] at H; have c2b0 : decide (65 ≤ a0) = true := decide_eq_true c2; clear c2; obtain rfl := Option.some.inj H
    go_enter Tryd.func78, Tryd.ntmps78
    go_wp2
    go_ret
    exact ⟨fg, by repeat (first | exact Drawn0.refl _ | apply Drawn0.step)⟩
  · rw [if_neg c2] at H; have c2b0 : decide (65 ≤ a0) = false := decide_eq_false c2; clear c2; obtain rfl := Option.some.inj H
    go_enter Tryd.func78, Tryd.ntmps78
    go_wp2
    go_ret
    exact ⟨fg, by repeat (first | exact Drawn0.refl _ | apply Drawn0.step)⟩
set_option maxHeartbeats 8000000 in
set_option maxRecDepth 100000 in
theorem impl_isDigit.calls (a0 : Int) (r : Bool) (w : World) (h : impl_isDigit.f a0 = some r) :
    Calls Tryd.prog 79 #[.int .u8 a0] w fun e w' => e = .returned (.bool r) ∧ Drawn0 w w' := by
  have H : (if a0 ≥ 48 then (some (decide (a0 ≤ 57))) else (some false)) = some r := h; clear h
  by_cases c2 : a0 ≥ 48
  · rw [if_pos c2] at H; have c2b0 : decide (48 ≤ a0) = true := decide_eq_true c2; clear c2; obtain rfl := Option.some.inj H
    go_enter Tryd.func79, Tryd.ntmps79
    go_wp2
    go_ret
    exact ⟨fg, by repeat (first | exact Drawn0.refl _ | apply Drawn0.step)⟩
  · rw [if_neg c2] at H; have c2b0 : decide (48 ≤ a0) = false := decide_eq_false c2; clear c2; obtain rfl := Option.some.inj H
    go_enter Tryd.func79, Tryd.ntmps79
    go_wp2
    go_ret
    exact ⟨fg, by repeat (first | exact Drawn0.refl _ | apply Drawn0.step)⟩
set_option maxHeartbeats 8000000 in
set_option maxRecDepth 100000 in
theorem impl_within.calls (a0 : Int) (a1 : Int) (a2 : Int) (r : Bool) (w : World) (h : impl_within.f a0 a1 a2 = some r) :
    Calls Tryd.prog 39 #[.int .i64 a0, .int .i64 a1, .int .i64 a2] w fun e w' => e = .returned (.bool r) ∧ Drawn0 w w' := by
  have H : (if a1 ≤ a0 then (some (decide (a0 ≤ a2))) else (some false)) = some r := h; clear h
  by_cases c4 : a1 ≤ a0
  · rw [if_pos c4] at H; have c4b0 : decide (a1 ≤ a0) = true := decide_eq_true c4; clear c4; obtain rfl := Option.some.inj H
    go_enter Tryd.func39, Tryd.ntmps39
    go_wp2
    go_ret
    exact ⟨fg, by repeat (first | exact Drawn0.refl _ | apply Drawn0.step)⟩
  · rw [if_neg c4] at H; have c4b0 : decide (a1 ≤ a0) = false := decide_eq_false c4; clear c4; obtain rfl := Option.some.inj H
    go_enter Tryd.func39, Tryd.ntmps39
    go_wp2
    go_ret
    exact ⟨fg, by repeat (first | exact Drawn0.refl _ | apply Drawn0.step)⟩
end Go.Proofs.YtjbdljhjplidmaaDoor.QE
