-- Merged by a program of this session (wip/tool/pack.py) out of its own texts for this claim.
import Derived.Test.YtefmkmhjbfpelaaKFnExactLinesAdd0
import Derived.Test.YtefmkmhjbfpelaaKFnExactLinesAdd1
import Derived.Test.YtefmkmhjbfpelaaKFnExactLinesAdd2
import Derived.Test.YtefmkmhjbfpelaaKFnExactLinesAdd3
import Derived.Test.YtefmkmhjbfpelaaKFnExactLinesAdd4
namespace Go.Proofs.Ytefmkmhjbfpelaa.QL
open Go.RowKit Go.Proofs.YtefmkmhjbfpelaaW.PrintWords Go.Proofs.YtefmkmhjbfpelaaW.PrintLast Go.Proofs.YtefmkmhjbfpelaaW.PrintMore
attribute [local go_sem] max2_int min2_int max_two min_two max_three min_three max_four min_four   -- for this text's walks alone
set_option linter.unusedVariables false
set_option linter.unusedSimpArgs false
def spec_LinesAdd.T11 : Bool × List (List Nat × List Nat) := (true, [([], []), ([0], [0]), ([1], [1]), ([2], [2]), ([2], [2]), ([2], [2]), ([4, 5, 2], [2, 4, 5]), ([6, 2], [2, 6]), ([3, 7, 2, 2], [2, 3, 7]), ([2, 8], [2, 8])])
def spec_LinesAdd.B11 : List Nat := [0, 1, 3, 7, 7, 7, 55, 119, 255, 511]
theorem spec_LinesAdd.tab11 : rtab .any (opsOf Try.f32 11) = spec_LinesAdd.T11 := by kernel_rfl
theorem spec_LinesAdd.bits11 : waitsOk spec_LinesAdd.T11.2 spec_LinesAdd.B11 = true := by kernel_rfl
set_option maxHeartbeats 8000000 in
set_option maxRecDepth 100000 in
theorem spec_LinesAdd.calls (k : Nat) (A0 : Option Addr) (c0 : Nat) (l0 : List (S54)) (a1_0 : ByteArray) (a1_1 : ByteArray) (a1_2 : Int) (a1_3 : ByteArray) (a1_4 : Int) (a1_5 : Int) (a1_6 : Int) (a1_7 : Int) (r : List (S54)) (w : World) (hr0 : Kd.C k54 w A0 l0.length l0) (hc0 : l0.length ≤ c0) (h : spec_LinesAdd.f k l0 a1_0 a1_1 a1_2 a1_3 a1_4 a1_5 a1_6 a1_7 = some r) :
    Calls Try.prog 32 #[.slice A0 l0.length c0, .agg #[.string a1_0, .string a1_1, .int .i64 a1_2, .string a1_3, .int .i64 a1_4, .int .i64 a1_5, .int .i64 a1_6, .int .i64 a1_7]] w fun e w' => ∃ v0_ : Value, e = .returned (v0_) ∧ Kd.R k54 54 w' w.heap.size (fun _ => True) v0_ r ∧ Below w.heap.size w w' := by
  have hu54 := Try.underlying54; have HR0 := Aside0.mk hr0; have HC0 := Aside0.mk hc0; clear hr0 hc0; have HB := Aside0.mk (Below.refl w.heap.size w); have H : (if (l0.length : Int) > 400 then (some (([] : List (S54)))) else ((some (([] : List (S54)) : List (S54))).bind fun y136 => (if y136.length + l0.length < 1599289640401 then ((some (y136 ++ l0 : List (S54))).bind fun y139 => ((spec_LinesRight.f k l0).bind fun t142 => (if t142 = true then (spec_LinesAdd.l0 k l0 y139 (([] : List (S54))) false 0 a1_0 a1_1 a1_2 a1_3 a1_4 a1_5 a1_6 a1_7) else (some y139)))) else (none)))) = some r := h; clear h
  by_cases c3 : (l0.length : Int) > 400
  · rw [if_pos c3] at H; have c3b0 : decide (400 < (l0.length : Int)) = true := decide_eq_true c3; have c3b1 : decide (400 < l0.length) = true := decide_eq_true (by omega); clear c3; obtain ⟨y133, hy133⟩ : ∃ y_ : List (S54), y_ = (([] : List (S54))) := ⟨_, rfl⟩
    replace H : (some y133) = some r := by first | (rw [hy133]; with_reducible exact H) | (have H2_ := (Option.bind_some _ _).symm.trans H; rw [hy133]; with_reducible exact H2_) | (have H2_ := (Option.bind_some _ _).symm.trans H; with_reducible exact H2_) | with_reducible exact H | (rw [hy133]; exact H) | exact H
    have Ny133 := Aside0.mk hy133; clear hy133; obtain rfl := Option.some.inj H
    go_enter Try.func32, Try.ntmps32
    go_wp2_with (first | ((with_reducible refine gate_dst (N := 3) rfl ?_); refine bx 3 (cs := #[.string a1_0, .string a1_1, .int .i64 a1_2, .string a1_3, .int .i64 a1_4, .int .i64 a1_5, .int .i64 a1_6, .int .i64 a1_7]) (t := 54) ?_; intro gb132 hg w4 hbox hb; have BK132 := Aside0.mk (hbox); have GW132 := Aside0.mk ((gs hg (bs HB))); have GE132 := Aside0.mk ((gs hg (bs HB))); replace HB := Aside0.mk (below_step (bs HB) hb); clear hb hbox hg) | ((with_reducible refine gate_dst (N := 12) rfl ?_); refine Kd.R_lit k54 _ 54 ?hg (N := 12) ?hd (xs := ([] : List (S54))) (inner := []) (ok := fun _ => True) (okp := fun _ => True) ?hr ?hp (fun _ hk => hk) trivial (Below.refl _ _) (Nat.le_refl _) (by simp) ?_; (case hd => rfl); (case hg => rfl); (case hr => first | (go_simp; done) | (go_simp; rfl)); (case hp => exact (Reps.none _ _)); intro v134 w5 ho6 hb hg_ hnew_; clear hg_ hnew_; (first | rw [← Ny133.out] at ho6 | (simp only [Int.reduceToNat] at ho6; rw [← Ny133.out] at ho6)); have HO135 := Aside0.mk (Kd.R_lower (Kd.R_newB ho6 (g := gb132) (o := .cells #[.string a1_0, .string a1_1, .int .i64 a1_2, .string a1_3, .int .i64 a1_4, .int .i64 a1_5, .int .i64 a1_6, .int .i64 a1_7] 54 (0, 0)) (ks BK132)) (below_size (bs HB))); replace BK132 := Aside0.mk (blk_below (ks BK132) hb); replace HB := Aside0.mk (below_step (bs HB) hb); clear hb ho6))
    go_ret
    exact ⟨_, ff, by (with_reducible repeat (first | apply Kd.R_alloc | apply Kd.R_drewN | apply Kd.R_drew)); exact Kd.R_mono HO135.out (fun _ hk => trivial), bs HB⟩
  · rw [if_neg c3] at H; have c3b0 : decide (400 < (l0.length : Int)) = false := decide_eq_false c3; have c3b1 : decide (400 < l0.length) = false := decide_eq_false (by omega); clear c3; obtain ⟨y136, hy136⟩ : ∃ y_ : List (S54), y_ = (([] : List (S54))) := ⟨_, rfl⟩
    replace H : (if y136.length + l0.length < 1599289640401 then ((some (y136 ++ l0 : List (S54))).bind fun y139 => ((spec_LinesRight.f k l0).bind fun t142 => (if t142 = true then (spec_LinesAdd.l0 k l0 y139 (([] : List (S54))) false 0 a1_0 a1_1 a1_2 a1_3 a1_4 a1_5 a1_6 a1_7) else (some y139)))) else (none)) = some r := by first | (rw [hy136]; with_reducible exact H) | (have H2_ := (Option.bind_some _ _).symm.trans H; rw [hy136]; with_reducible exact H2_) | (have H2_ := (Option.bind_some _ _).symm.trans H; with_reducible exact H2_) | with_reducible exact H | (rw [hy136]; exact H) | exact H
    have Ny136 := Aside0.mk hy136; clear hy136
    by_cases c7 : y136.length + l0.length < 1599289640401
    · rw [if_pos c7] at H; have LMc7 := Aside0.mk c7; clear c7; obtain ⟨y139, hy139⟩ : ∃ y_ : List (S54), y_ = (y136 ++ l0) := ⟨_, rfl⟩
      replace H : ((spec_LinesRight.f k l0).bind fun t142 => (if t142 = true then (spec_LinesAdd.l0 k l0 y139 (([] : List (S54))) false 0 a1_0 a1_1 a1_2 a1_3 a1_4 a1_5 a1_6 a1_7) else (some y139))) = some r := by first | (rw [hy139]; with_reducible exact H) | (have H2_ := (Option.bind_some _ _).symm.trans H; rw [hy139]; with_reducible exact H2_) | (have H2_ := (Option.bind_some _ _).symm.trans H; with_reducible exact H2_) | with_reducible exact H | (rw [hy139]; exact H) | exact H
      have Ny139 := Aside0.mk hy139; clear hy139; replace H := Option.bind_eq_some_iff.mp H; obtain ⟨t142, A80, H⟩ := H; replace H : (if t142 = true then (spec_LinesAdd.l0 k l0 y139 (([] : List (S54))) false 0 a1_0 a1_1 a1_2 a1_3 a1_4 a1_5 a1_6 a1_7) else (some y139)) = some r := H; have A8 := Aside0.mk A80; clear A80
      go_enter Try.func32, Try.ntmps32
      try go_wp2_with (first | ((with_reducible refine gate_dst (N := 3) rfl ?_); refine bx 3 (cs := #[.string a1_0, .string a1_1, .int .i64 a1_2, .string a1_3, .int .i64 a1_4, .int .i64 a1_5, .int .i64 a1_6, .int .i64 a1_7]) (t := 54) ?_; intro gb132 hg w9 hbox hb; have BK132 := Aside0.mk (hbox); have GW132 := Aside0.mk ((gs hg (bs HB))); have GE132 := Aside0.mk ((gs hg (bs HB))); replace HB := Aside0.mk (below_step (bs HB) hb); clear hb hbox hg) | ((with_reducible refine gate_dst (N := 13) rfl ?_); refine Kd.R_lit k54 _ 54 ?hg (N := 13) ?hd (xs := ([] : List (S54))) (inner := []) (ok := fun _ => True) (okp := fun _ => True) ?hr ?hp (fun _ hk => hk) trivial (Below.refl _ _) (Nat.le_refl _) (by simp) ?_; (case hd => rfl); (case hg => rfl); (case hr => first | (go_simp; done) | (go_simp; rfl)); (case hp => exact (Reps.none _ _)); intro v137 w10 ho11 hb hg_ hnew_; clear hg_ hnew_; (first | rw [← Ny136.out] at ho11 | (simp only [Int.reduceToNat] at ho11; rw [← Ny136.out] at ho11)); have HO138 := Aside0.mk (Kd.R_lower (Kd.R_newB ho11 (g := gb132) (o := .cells #[.string a1_0, .string a1_1, .int .i64 a1_2, .string a1_3, .int .i64 a1_4, .int .i64 a1_5, .int .i64 a1_6, .int .i64 a1_7] 54 (0, 0)) (ks BK132)) (below_size (bs HB))); replace BK132 := Aside0.mk (blk_below (ks BK132) hb); replace HB := Aside0.mk (below_step (bs HB) hb); clear hb ho11) | ((with_reducible refine gate_builtin (b := .append) (xs := #[.tmp 13, .tmp 14]) rfl ?_); at_builtin; refine Kd.R_append_rows k54 (w0 := w) w.heap.size rfl (.tmp 13) (.tmp 14) 45 54 (.agg #[(.string ⟨#[]⟩), (.string ⟨#[]⟩), (.int .i64 0), (.string ⟨#[]⟩), (.int .i64 0), (.int .i64 0), (.int .i64 0), (.int .i64 0)]) 88 rfl Try.underlying45 info54 rfl (by decide) (by omega) v137 y136 l0 _ _ _ (fun k_ => k_ ≠ gb132) (fun _ => False) rfl rfl ?aO ?aR (fun _ _ h => h) (fun _ h => h.elim) ?aF ?aB ?aS ?aL ?_; (case aR => repeat (first | exact (Kd.C_below HR0.out HB.out) | (with_reducible refine Kd.C_alloc ?_ _) | (with_reducible refine Kd.C_drewN ?_ _) | (with_reducible refine Kd.C_drew ?_))); (case aB => exact (bs HB)); (case aF => exact (fun k_ hk => Kd.freshB (g := gb132) (o := .cells #[.string a1_0, .string a1_1, .int .i64 a1_2, .string a1_3, .int .i64 a1_4, .int .i64 a1_5, .int .i64 a1_6, .int .i64 a1_7] 54 (0, 0)) (ks BK132) k_ hk)); (case aO => exact (by (with_reducible repeat (first | apply Kd.R_alloc | apply Kd.R_drewN | apply Kd.R_drew)); exact Kd.R_mono HO138.out (fun _ hk => hk.2))); (case aS => exact (below_size (bs HB))); (case aL => have := LMc7.out; omega); intro v140 w12 ho hb hg hat; rw [← Ny139.out] at ho; have n0_ := Aside0.mk (blk_grown (ks BK132) hg (Kd.R_away HO138.out (fun _ hk => hk.2))); have n1_ := Aside0.mk (hb); have n2_ := Aside0.mk (ho); clear BK132; clear HB; clear HO138; have BK132 := n0_; have HB := n1_; have HO141 := n2_; clear n0_ n1_ n2_; clear ho hb hg hat))
      go_at_call 34; (with_reducible refine (spec_LinesRight.calls k _ _ l0 t142 _ (Kd.C_below HR0.out (bs HB)) HC0.out A8.out).mono ?_); rintro e w13 ⟨rfl, hb⟩; replace HO141 := Aside0.mk (Kd.R_below (rs HO141) hb); replace BK132 := Aside0.mk (blk_below (ks BK132) hb); replace HB := Aside0.mk (below_step (bs HB) hb); (try clear hb); (try clear hb2); (try clear hk); (try clear hi)
      by_cases c14 : t142 = true
      · subst c14
        have H1 : (spec_LinesAdd.l0 k l0 y139 (([] : List (S54))) false 0 a1_0 a1_1 a1_2 a1_3 a1_4 a1_5 a1_6 a1_7) = some r := by rw [if_pos rfl] at H; exact H
        clear H; have H := H1; clear H1; obtain ⟨y143, hy143⟩ : ∃ y_ : List (S54), y_ = (([] : List (S54))) := ⟨_, rfl⟩
        replace H : (spec_LinesAdd.l0 k l0 y139 y143 false 0 a1_0 a1_1 a1_2 a1_3 a1_4 a1_5 a1_6 a1_7) = some r := by first | (rw [hy143]; with_reducible exact H) | (have H2_ := (Option.bind_some _ _).symm.trans H; rw [hy143]; with_reducible exact H2_) | (have H2_ := (Option.bind_some _ _).symm.trans H; with_reducible exact H2_) | with_reducible exact H | (rw [hy143]; exact H) | exact H
        have Ny143 := Aside0.mk hy143; clear hy143; have H' := Aside0.mk H; clear H
        go_wp2_with (first | ((with_reducible refine gate_dst (N := 20) rfl ?_); refine Kd.R_lit k54 _ 54 ?hg (N := 20) ?hd (xs := ([] : List (S54))) (inner := []) (ok := fun _ => True) (okp := fun _ => True) ?hr ?hp (fun _ hk => hk) trivial (Below.refl _ _) (Nat.le_refl _) (by simp) ?_; (case hd => rfl); (case hg => rfl); (case hr => first | (go_simp; done) | (go_simp; rfl)); (case hp => exact (Reps.none _ _)); intro v144 w15 ho16 hb hg_ hnew_; clear hg_ hnew_; (first | rw [← Ny143.out] at ho16 | (simp only [Int.reduceToNat] at ho16; rw [← Ny143.out] at ho16)); have HO145 := Aside0.mk (Kd.R_lower (Kd.R_newB (Kd.R_new' ho16 (Kd.R_lt (rs HO141))) (g := gb132) (o := .cells #[.string a1_0, .string a1_1, .int .i64 a1_2, .string a1_3, .int .i64 a1_4, .int .i64 a1_5, .int .i64 a1_6, .int .i64 a1_7] 54 (0, 0)) (ks BK132)) (below_size (bs HB))); replace HO141 := Aside0.mk (Kd.R_elder' (rs HO141) (Kd.R_base ho16) hb); replace BK132 := Aside0.mk (blk_below (ks BK132) hb); replace HB := Aside0.mk (below_step (bs HB) hb); clear hb ho16))
        go_loopg [6, 7, 8] k (fun kq v6 v7 v8 w' => ∃ (x6_1 : List (S54)) (x7_1 : Bool) (x8_1 : Int), v7 = .bool x7_1 ∧ v8 = .int .i64 x8_1 ∧ Aside0 (spec_LinesAdd.l0 kq l0 y139 x6_1 x7_1 x8_1 a1_0 a1_1 a1_2 a1_3 a1_4 a1_5 a1_6 a1_7 = some r) ∧ Aside0 (kq ≤ k) ∧ Aside0 (Kd.R k54 54 w' w.heap.size (fun k_ => some k_ ≠ (v6 : Value).ownBlock ∧ k_ ≠ gb132) v140 y139) ∧ Aside0 (Kd.R k54 54 w' w.heap.size (fun k_ => some k_ ≠ (v140 : Value).ownBlock ∧ k_ ≠ gb132) v6 x6_1) ∧ Aside0 (w'.heap[gb132]? = some (.cells #[.string a1_0, .string a1_1, .int .i64 a1_2, .string a1_3, .int .i64 a1_4, .int .i64 a1_5, .int .i64 a1_6, .int .i64 a1_7] 54 (0, 0))) ∧ Aside0 (Below w.heap.size w w'))
        case atStart => exact ⟨(y143), (false), (0), fg, fg, H', ⟨Nat.le_refl _⟩, ⟨by (with_reducible repeat (first | apply Kd.R_alloc | apply Kd.R_drewN | apply Kd.R_drew)); exact Kd.R_mono HO141.out (fun _ hk => ⟨hk.2, hk.1⟩)⟩, ⟨by (with_reducible repeat (first | apply Kd.R_alloc | apply Kd.R_drewN | apply Kd.R_drew)); exact Kd.R_mono HO145.out (fun _ hk => ⟨hk.1.2, hk.2⟩)⟩, ⟨ks BK132⟩, ⟨bs HB⟩⟩
        case round =>
          clear H'
          try clear c1
          try clear p2
          try clear c3
          try clear c3b0
          try clear c3b1
          try clear c7
          try clear c14
          obtain ⟨x6_1, x7_1, x8_1, rfl, rfl, HA, HK1, HO_5, HO_6, BK132, HB⟩ := hrel
          cases gk with
          | zero => exact absurd HA.out (by simp [spec_LinesAdd.l0])
          | succ k1 =>
            have H := HA.out; clear HA; simp only [spec_LinesAdd.l0] at H
            by_cases c17 : x8_1 < (l0.length : Int)
            · rw [if_pos c17] at H; have c17b0 : decide (x8_1 < (l0.length : Int)) = true := decide_eq_true c17; clear c17
              by_cases c18 : x7_1 = true
              · subst c18
                have H1 : (if 0 ≤ x8_1 then (if x6_1.length < 1599289640401 then (spec_LinesAdd.l0 k1 l0 y139 (x6_1 ++ [(⟨(rd_T54 l0 x8_1).f0, (rd_T54 l0 x8_1).f1, (rd_T54 l0 x8_1).f2, (rd_T54 l0 x8_1).f3, (rd_T54 l0 x8_1).f4, (rd_T54 l0 x8_1).f5, (rd_T54 l0 x8_1).f6, (rd_T54 l0 x8_1).f7⟩ : S54)]) true (wrap64 (x8_1 + 1)) a1_0 a1_1 a1_2 a1_3 a1_4 a1_5 a1_6 a1_7) else (none)) else (none)) = some r := by rw [if_pos rfl] at H; exact H
                clear H; have H := H1; clear H1
                by_cases c19 : 0 ≤ x8_1
                · rw [if_pos c19] at H; have c19b0 : decide (0 ≤ x8_1) = true := decide_eq_true c19; clear c19
                  by_cases c20 : x6_1.length < 1599289640401
                  · rw [if_pos c20] at H; have LMc20 := Aside0.mk c20; clear c20; obtain ⟨y147, hy147⟩ : ∃ y_ : List (S54), y_ = (x6_1 ++ [(⟨(rd_T54 l0 x8_1).f0, (rd_T54 l0 x8_1).f1, (rd_T54 l0 x8_1).f2, (rd_T54 l0 x8_1).f3, (rd_T54 l0 x8_1).f4, (rd_T54 l0 x8_1).f5, (rd_T54 l0 x8_1).f6, (rd_T54 l0 x8_1).f7⟩ : S54)]) := ⟨_, rfl⟩
                    replace H : (spec_LinesAdd.l0 k1 l0 y139 y147 true (wrap64 (x8_1 + 1)) a1_0 a1_1 a1_2 a1_3 a1_4 a1_5 a1_6 a1_7) = some r := by first | (rw [hy147]; with_reducible exact H) | (have H2_ := (Option.bind_some _ _).symm.trans H; rw [hy147]; with_reducible exact H2_) | (have H2_ := (Option.bind_some _ _).symm.trans H; with_reducible exact H2_) | with_reducible exact H | (rw [hy147]; exact H) | exact H
                    have Ny147 := Aside0.mk hy147; clear hy147; have H' := Aside0.mk H; clear H
                    try go_wp2
                    replace HO_5 := Aside0.mk (Kd.R_drew HO_5.out); replace HO_6 := Aside0.mk (Kd.R_drew HO_6.out); replace BK132 := Aside0.mk (blk_drew BK132.out); replace HB := Aside0.mk (below_drew1 HB.out); refine start_ (n := 10) (S := fun w' => True) (ds := []) #[false, false, false, false, false, false, false, false, false, false] (by kernel_rfl) rfl rfl trivial (fun hHeld => ?_); refine with_tabW spec_LinesAdd.tab11 spec_LinesAdd.bits11 (fun HT_ HW_ => ?_)
                    generalize wr.drew = w21 at HO_5 HO_6 BK132 HB hHeld ⊢
                    refine pA 0 27 HT_ ?_; refine pA 1 28 HT_ ?_; refine pA 2 29 HT_ ?_; refine pB 3 30 HT_ ?_; refine pB 4 31 HT_ ?_; refine pB 5 32 HT_ ?_; refine pB 6 33 HT_ ?_; refine pB 7 34 HT_ ?_; refine pB 8 35 HT_ ?_; refine pA 9 36 HT_ ?_; refine done_ (done_of HT_.out (by kernel_rfl)) ?_; have p146 : 0 ≤ (x8_1 : Int) := oa; have q146 : x8_1 < (l0.length : Int) := oa; obtain ⟨ad146, e146, hx146_0, hx146_1, hx146_2, hx146_3, hx146_4, hx146_5, hx146_6, hx146_7⟩ := at_T54 HR0.out x8_1 p146 q146
                    cases e146
                    replace hx146_0 := cb HB hx146_0; replace hx146_1 := cb HB hx146_1; replace hx146_2 := cb HB hx146_2; replace hx146_3 := cb HB hx146_3; replace hx146_4 := cb HB hx146_4; replace hx146_5 := cb HB hx146_5; replace hx146_6 := cb HB hx146_6; replace hx146_7 := cb HB hx146_7; replace p146 := eq_true p146; replace q146 := eq_true q146
                    try go_wp2_with (first | ((with_reducible refine gate_builtin (b := .append) (xs := #[.tmp 41, .tmp 46]) rfl ?_); at_builtin; refine Kd.R_append k54 (w0 := w) w.heap.size rfl (.tmp 41) (.tmp 46) 45 54 (.agg #[(.string ⟨#[]⟩), (.string ⟨#[]⟩), (.int .i64 0), (.string ⟨#[]⟩), (.int .i64 0), (.int .i64 0), (.int .i64 0), (.int .i64 0)]) 88 rfl Try.underlying45 info54 rfl (by decide) (by omega) u6 x6_1 (⟨(rd_T54 l0 x8_1).f0, (rd_T54 l0 x8_1).f1, (rd_T54 l0 x8_1).f2, (rd_T54 l0 x8_1).f3, (rd_T54 l0 x8_1).f4, (rd_T54 l0 x8_1).f5, (rd_T54 l0 x8_1).f6, (rd_T54 l0 x8_1).f7⟩ : S54) [.string ((rd_T54 l0 x8_1).f0), .string ((rd_T54 l0 x8_1).f1), .int .i64 ((rd_T54 l0 x8_1).f2), .string ((rd_T54 l0 x8_1).f3), .int .i64 ((rd_T54 l0 x8_1).f4), .int .i64 ((rd_T54 l0 x8_1).f5), .int .i64 ((rd_T54 l0 x8_1).f6), .int .i64 ((rd_T54 l0 x8_1).f7)] (fun k_ => some k_ ≠ (v140 : Value).ownBlock ∧ k_ ≠ gb132) (fun _ => False) rfl rfl ?aP (fun _ hk => hk.elim) ?aF ?aO ?aB ?aS ?aL ?_; (case aP => exact k54_mkM _ _ _ (⟨(rd_T54 l0 x8_1).f0, (rd_T54 l0 x8_1).f1, (rd_T54 l0 x8_1).f2, (rd_T54 l0 x8_1).f3, (rd_T54 l0 x8_1).f4, (rd_T54 l0 x8_1).f5, (rd_T54 l0 x8_1).f6, (rd_T54 l0 x8_1).f7⟩ : S54)); (case aB => exact (bs HB)); (case aF => exact (fun k_ hk => ⟨Kd.fresh' (Kd.R_lt (rs HO_5)) k_ hk, Kd.freshB (g := gb132) (o := .cells #[.string a1_0, .string a1_1, .int .i64 a1_2, .string a1_3, .int .i64 a1_4, .int .i64 a1_5, .int .i64 a1_6, .int .i64 a1_7] 54 (0, 0)) (ks BK132) k_ hk⟩)); (case aO => exact (rs HO_6)); (case aS => exact (below_size (bs HB))); (case aL => have := LMc20.out; omega); intro v148 w22 ho hb hg hat; rw [← Ny147.out] at ho; have n0_ := Aside0.mk (Kd.R_after (ok := (fun k_ => k_ ≠ gb132)) (by (with_reducible repeat (first | apply Kd.R_alloc | apply Kd.R_drewN | apply Kd.R_drew)); exact Kd.R_mono HO_5.out (fun _ hk => ⟨hk.2, hk.1⟩)) hg hat); have n1_ := Aside0.mk (blk_grown (ks BK132) hg (Kd.R_away HO_6.out (fun _ hk => hk.2))); have n2_ := Aside0.mk (hb); have n3_ := Aside0.mk (ho); clear HO_5; clear BK132; clear HB; clear HO_6; have HO_5 := n0_; have BK132 := n1_; have HB := n2_; have HO149 := n3_; clear n0_ n1_ n2_ n3_; clear ho hb hg hat))
                    go_roundg k1
                    case measure => have := HK1.out; omega
                    case rel => exact ⟨(y147), (true), (wrap64 (x8_1 + 1)), fg, fg, H', ⟨by have := HK1.out; omega⟩, ⟨by (with_reducible repeat (first | apply Kd.R_alloc | apply Kd.R_drewN | apply Kd.R_drew)); exact Kd.R_mono HO_5.out (fun _ hk => ⟨hk.2, hk.1⟩)⟩, ⟨by (with_reducible repeat (first | apply Kd.R_alloc | apply Kd.R_drewN | apply Kd.R_drew)); exact HO149.out⟩, ⟨ks BK132⟩, ⟨bs HB⟩⟩
                  · rw [if_neg c20] at H
                    exact absurd H (by simp)
                · rw [if_neg c19] at H
                  exact absurd H (by simp)
              · replace c18 := Bool.eq_false_iff.mpr c18; subst c18
                have H1 : (if 0 ≤ x8_1 then ((spec_l09Before.f a1_0 a1_1 a1_2 a1_3 a1_4 a1_5 a1_6 a1_7 ((rd_T54 l0 x8_1).f0) ((rd_T54 l0 x8_1).f1) ((rd_T54 l0 x8_1).f2) ((rd_T54 l0 x8_1).f3) ((rd_T54 l0 x8_1).f4) ((rd_T54 l0 x8_1).f5) ((rd_T54 l0 x8_1).f6) ((rd_T54 l0 x8_1).f7)).bind fun t151 => (if t151 = true then (if x6_1.length < 1599289640401 then ((some (x6_1 ++ [(⟨a1_0, a1_1, a1_2, a1_3, a1_4, a1_5, a1_6, a1_7⟩ : S54)] : List (S54))).bind fun y152 => (if y152.length < 1599289640401 then (spec_LinesAdd.l0 k1 l0 y139 (y152 ++ [(⟨(rd_T54 l0 x8_1).f0, (rd_T54 l0 x8_1).f1, (rd_T54 l0 x8_1).f2, (rd_T54 l0 x8_1).f3, (rd_T54 l0 x8_1).f4, (rd_T54 l0 x8_1).f5, (rd_T54 l0 x8_1).f6, (rd_T54 l0 x8_1).f7⟩ : S54)]) true (wrap64 (x8_1 + 1)) a1_0 a1_1 a1_2 a1_3 a1_4 a1_5 a1_6 a1_7) else (none))) else (none)) else (if x6_1.length < 1599289640401 then (spec_LinesAdd.l0 k1 l0 y139 (x6_1 ++ [(⟨(rd_T54 l0 x8_1).f0, (rd_T54 l0 x8_1).f1, (rd_T54 l0 x8_1).f2, (rd_T54 l0 x8_1).f3, (rd_T54 l0 x8_1).f4, (rd_T54 l0 x8_1).f5, (rd_T54 l0 x8_1).f6, (rd_T54 l0 x8_1).f7⟩ : S54)]) false (wrap64 (x8_1 + 1)) a1_0 a1_1 a1_2 a1_3 a1_4 a1_5 a1_6 a1_7) else (none)))) else (none)) = some r := by rw [if_neg (show ¬ (false = true) by decide)] at H; exact H
                clear H; have H := H1; clear H1
                by_cases c23 : 0 ≤ x8_1
                · rw [if_pos c23] at H; have c23b0 : decide (0 ≤ x8_1) = true := decide_eq_true c23; clear c23; replace H := Option.bind_eq_some_iff.mp H; obtain ⟨t151, A240, H⟩ := H; replace H : (if t151 = true then (if x6_1.length < 1599289640401 then ((some (x6_1 ++ [(⟨a1_0, a1_1, a1_2, a1_3, a1_4, a1_5, a1_6, a1_7⟩ : S54)] : List (S54))).bind fun y152 => (if y152.length < 1599289640401 then (spec_LinesAdd.l0 k1 l0 y139 (y152 ++ [(⟨(rd_T54 l0 x8_1).f0, (rd_T54 l0 x8_1).f1, (rd_T54 l0 x8_1).f2, (rd_T54 l0 x8_1).f3, (rd_T54 l0 x8_1).f4, (rd_T54 l0 x8_1).f5, (rd_T54 l0 x8_1).f6, (rd_T54 l0 x8_1).f7⟩ : S54)]) true (wrap64 (x8_1 + 1)) a1_0 a1_1 a1_2 a1_3 a1_4 a1_5 a1_6 a1_7) else (none))) else (none)) else (if x6_1.length < 1599289640401 then (spec_LinesAdd.l0 k1 l0 y139 (x6_1 ++ [(⟨(rd_T54 l0 x8_1).f0, (rd_T54 l0 x8_1).f1, (rd_T54 l0 x8_1).f2, (rd_T54 l0 x8_1).f3, (rd_T54 l0 x8_1).f4, (rd_T54 l0 x8_1).f5, (rd_T54 l0 x8_1).f6, (rd_T54 l0 x8_1).f7⟩ : S54)]) false (wrap64 (x8_1 + 1)) a1_0 a1_1 a1_2 a1_3 a1_4 a1_5 a1_6 a1_7) else (none))) = some r := H; have A24 := Aside0.mk A240; clear A240
                  by_cases c25 : t151 = true
                  · subst c25
                    have H1 : (if x6_1.length < 1599289640401 then ((some (x6_1 ++ [(⟨a1_0, a1_1, a1_2, a1_3, a1_4, a1_5, a1_6, a1_7⟩ : S54)] : List (S54))).bind fun y152 => (if y152.length < 1599289640401 then (spec_LinesAdd.l0 k1 l0 y139 (y152 ++ [(⟨(rd_T54 l0 x8_1).f0, (rd_T54 l0 x8_1).f1, (rd_T54 l0 x8_1).f2, (rd_T54 l0 x8_1).f3, (rd_T54 l0 x8_1).f4, (rd_T54 l0 x8_1).f5, (rd_T54 l0 x8_1).f6, (rd_T54 l0 x8_1).f7⟩ : S54)]) true (wrap64 (x8_1 + 1)) a1_0 a1_1 a1_2 a1_3 a1_4 a1_5 a1_6 a1_7) else (none))) else (none)) = some r := by rw [if_pos rfl] at H; exact H
                    clear H; have H := H1; clear H1
                    by_cases c26 : x6_1.length < 1599289640401
                    · rw [if_pos c26] at H; have LMc26 := Aside0.mk c26; clear c26; obtain ⟨y152, hy152⟩ : ∃ y_ : List (S54), y_ = (x6_1 ++ [(⟨a1_0, a1_1, a1_2, a1_3, a1_4, a1_5, a1_6, a1_7⟩ : S54)]) := ⟨_, rfl⟩
                      replace H : (if y152.length < 1599289640401 then (spec_LinesAdd.l0 k1 l0 y139 (y152 ++ [(⟨(rd_T54 l0 x8_1).f0, (rd_T54 l0 x8_1).f1, (rd_T54 l0 x8_1).f2, (rd_T54 l0 x8_1).f3, (rd_T54 l0 x8_1).f4, (rd_T54 l0 x8_1).f5, (rd_T54 l0 x8_1).f6, (rd_T54 l0 x8_1).f7⟩ : S54)]) true (wrap64 (x8_1 + 1)) a1_0 a1_1 a1_2 a1_3 a1_4 a1_5 a1_6 a1_7) else (none)) = some r := by first | (rw [hy152]; with_reducible exact H) | (have H2_ := (Option.bind_some _ _).symm.trans H; rw [hy152]; with_reducible exact H2_) | (have H2_ := (Option.bind_some _ _).symm.trans H; with_reducible exact H2_) | with_reducible exact H | (rw [hy152]; exact H) | exact H
                      have Ny152 := Aside0.mk hy152; clear hy152
                      by_cases c27 : y152.length < 1599289640401
                      · rw [if_pos c27] at H; have LMc27 := Aside0.mk c27; clear c27; obtain ⟨y156, hy156⟩ : ∃ y_ : List (S54), y_ = (y152 ++ [(⟨(rd_T54 l0 x8_1).f0, (rd_T54 l0 x8_1).f1, (rd_T54 l0 x8_1).f2, (rd_T54 l0 x8_1).f3, (rd_T54 l0 x8_1).f4, (rd_T54 l0 x8_1).f5, (rd_T54 l0 x8_1).f6, (rd_T54 l0 x8_1).f7⟩ : S54)]) := ⟨_, rfl⟩
                        replace H : (spec_LinesAdd.l0 k1 l0 y139 y156 true (wrap64 (x8_1 + 1)) a1_0 a1_1 a1_2 a1_3 a1_4 a1_5 a1_6 a1_7) = some r := by first | (rw [hy156]; with_reducible exact H) | (have H2_ := (Option.bind_some _ _).symm.trans H; rw [hy156]; with_reducible exact H2_) | (have H2_ := (Option.bind_some _ _).symm.trans H; with_reducible exact H2_) | with_reducible exact H | (rw [hy156]; exact H) | exact H
                        have Ny156 := Aside0.mk hy156; clear hy156; have H' := Aside0.mk H; clear H
                        try go_wp2
                        replace HO_5 := Aside0.mk (Kd.R_drew HO_5.out); replace HO_6 := Aside0.mk (Kd.R_drew HO_6.out); replace BK132 := Aside0.mk (blk_drew BK132.out); replace HB := Aside0.mk (below_drew1 HB.out); have p150 : 0 ≤ (x8_1 : Int) := oa; have q150 : x8_1 < (l0.length : Int) := oa; obtain ⟨ad150, e150, hx150_0, hx150_1, hx150_2, hx150_3, hx150_4, hx150_5, hx150_6, hx150_7⟩ := at_T54 HR0.out x8_1 p150 q150; have hw150_7 := hx150_7; have hw150_6 := hx150_6; have hw150_5 := hx150_5; have hw150_4 := hx150_4; have hw150_3 := hx150_3; have hw150_2 := hx150_2; have hw150_1 := hx150_1; have hw150_0 := hx150_0
                        cases e150
                        replace hx150_0 := cb HB hx150_0; replace hx150_1 := cb HB hx150_1; replace hx150_2 := cb HB hx150_2; replace hx150_3 := cb HB hx150_3; replace hx150_4 := cb HB hx150_4; replace hx150_5 := cb HB hx150_5; replace hx150_6 := cb HB hx150_6; replace hx150_7 := cb HB hx150_7; replace p150 := eq_true p150; replace q150 := eq_true q150; refine start_ (n := 10) (S := fun w' => w'.cell? ⟨gb132, 0, none⟩ = some (.string a1_0) ∧ w'.cell? ⟨gb132, 1, none⟩ = some (.string a1_1) ∧ w'.cell? ⟨gb132, 2, none⟩ = some (.int .i64 a1_2) ∧ w'.cell? ⟨gb132, 3, none⟩ = some (.string a1_3) ∧ w'.cell? ⟨gb132, 4, none⟩ = some (.int .i64 a1_4) ∧ w'.cell? ⟨gb132, 5, none⟩ = some (.int .i64 a1_5) ∧ w'.cell? ⟨gb132, 6, none⟩ = some (.int .i64 a1_6) ∧ w'.cell? ⟨gb132, 7, none⟩ = some (.int .i64 a1_7) ∧ w'.cell? (ad150.add ((x8_1).toNat * 8)) = some (.string ((rd_T54 l0 x8_1).f0)) ∧ w'.cell? ⟨(ad150.add ((x8_1).toNat * 8)).block, (ad150.add ((x8_1).toNat * 8)).off + 1, none⟩ = some (.string ((rd_T54 l0 x8_1).f1)) ∧ w'.cell? ⟨(ad150.add ((x8_1).toNat * 8)).block, (ad150.add ((x8_1).toNat * 8)).off + 2, none⟩ = some (.int .i64 ((rd_T54 l0 x8_1).f2)) ∧ w'.cell? ⟨(ad150.add ((x8_1).toNat * 8)).block, (ad150.add ((x8_1).toNat * 8)).off + 3, none⟩ = some (.string ((rd_T54 l0 x8_1).f3)) ∧ w'.cell? ⟨(ad150.add ((x8_1).toNat * 8)).block, (ad150.add ((x8_1).toNat * 8)).off + 4, none⟩ = some (.int .i64 ((rd_T54 l0 x8_1).f4)) ∧ w'.cell? ⟨(ad150.add ((x8_1).toNat * 8)).block, (ad150.add ((x8_1).toNat * 8)).off + 5, none⟩ = some (.int .i64 ((rd_T54 l0 x8_1).f5)) ∧ w'.cell? ⟨(ad150.add ((x8_1).toNat * 8)).block, (ad150.add ((x8_1).toNat * 8)).off + 6, none⟩ = some (.int .i64 ((rd_T54 l0 x8_1).f6)) ∧ w'.cell? ⟨(ad150.add ((x8_1).toNat * 8)).block, (ad150.add ((x8_1).toNat * 8)).off + 7, none⟩ = some (.int .i64 ((rd_T54 l0 x8_1).f7))) (ds := []) #[false, false, false, false, false, false, false, false, false, false] (by kernel_rfl) rfl rfl ⟨(blk_cell BK132.out 0).trans rfl, (blk_cell BK132.out 1).trans rfl, (blk_cell BK132.out 2).trans rfl, (blk_cell BK132.out 3).trans rfl, (blk_cell BK132.out 4).trans rfl, (blk_cell BK132.out 5).trans rfl, (blk_cell BK132.out 6).trans rfl, (blk_cell BK132.out 7).trans rfl, ((cb HB hw150_0).trans rfl), ((cb HB hw150_1).trans rfl), ((cb HB hw150_2).trans rfl), ((cb HB hw150_3).trans rfl), ((cb HB hw150_4).trans rfl), ((cb HB hw150_5).trans rfl), ((cb HB hw150_6).trans rfl), ((cb HB hw150_7).trans rfl)⟩ (fun hHeld => ?_); refine with_tabW spec_LinesAdd.tab11 spec_LinesAdd.bits11 (fun HT_ HW_ => ?_)
                        generalize wr.drew = w28 at HO_5 HO_6 BK132 HB hx150_0 hx150_1 hx150_2 hx150_3 hx150_4 hx150_5 hx150_6 hx150_7 hHeld ⊢
                        refine pA 0 27 HT_ ?_; refine pA 1 28 HT_ ?_; refine pA 2 29 HT_ ?_; refine pA 4 31 HT_ ?_; refine pA 5 32 HT_ ?_; refine pA 6 33 HT_ ?_; refine tA 3 30 HT_ HW_ hHeld ?_; refine tA 7 34 HT_ HW_ hHeld ?_; refine oA 8 35 HT_ (fun K hK => ?_); refine gA Try.func94 #[.agg #[.string a1_0, .string a1_1, .int .i64 a1_2, .string a1_3, .int .i64 a1_4, .int .i64 a1_5, .int .i64 a1_6, .int .i64 a1_7], .agg #[.string ((rd_T54 l0 x8_1).f0), .string ((rd_T54 l0 x8_1).f1), .int .i64 ((rd_T54 l0 x8_1).f2), .string ((rd_T54 l0 x8_1).f3), .int .i64 ((rd_T54 l0 x8_1).f4), .int .i64 ((rd_T54 l0 x8_1).f5), .int .i64 ((rd_T54 l0 x8_1).f6), .int .i64 ((rd_T54 l0 x8_1).f7)]] ?_; (with_reducible refine (spec_l09Before.calls a1_0 a1_1 a1_2 a1_3 a1_4 a1_5 a1_6 a1_7 ((rd_T54 l0 x8_1).f0) ((rd_T54 l0 x8_1).f1) ((rd_T54 l0 x8_1).f2) ((rd_T54 l0 x8_1).f3) ((rd_T54 l0 x8_1).f4) ((rd_T54 l0 x8_1).f5) ((rd_T54 l0 x8_1).f6) ((rd_T54 l0 x8_1).f7) true _ A24.out).mono ?_); rintro e w29 ⟨rfl, hb⟩; refine ⟨_, rfl, ?_⟩; replace HO_5 := Aside0.mk (Kd.R_below (rs HO_5) hb); replace HO_6 := Aside0.mk (Kd.R_below (rs HO_6) hb); replace BK132 := Aside0.mk (blk_below (ks BK132) hb); replace HB := Aside0.mk (below_step (bs HB) hb); (try clear hb); (try clear hb2); (try clear hk); (try clear hi); refine hK.out _ _ ⟨(blk_cell BK132.out 0).trans rfl, (blk_cell BK132.out 1).trans rfl, (blk_cell BK132.out 2).trans rfl, (blk_cell BK132.out 3).trans rfl, (blk_cell BK132.out 4).trans rfl, (blk_cell BK132.out 5).trans rfl, (blk_cell BK132.out 6).trans rfl, (blk_cell BK132.out 7).trans rfl, ((cb HB hw150_0).trans rfl), ((cb HB hw150_1).trans rfl), ((cb HB hw150_2).trans rfl), ((cb HB hw150_3).trans rfl), ((cb HB hw150_4).trans rfl), ((cb HB hw150_5).trans rfl), ((cb HB hw150_6).trans rfl), ((cb HB hw150_7).trans rfl)⟩ (fun hHeld => ?_); clear hK K; refine nA 35 ?_; refine pA 9 36 HT_ ?_; refine done_ (done_of HT_.out (by kernel_rfl)) ?_; obtain ⟨hcz30_0, hcz30_1, hcz30_2, hcz30_3, hcz30_4, hcz30_5, hcz30_6, hcz30_7, hfz30_0, hfz30_1, hfz30_2, hfz30_3, hfz30_4, hfz30_5, hfz30_6, hfz30_7⟩ := cf8 BK132
                        try go_wp2_with (first | ((with_reducible refine gate_builtin (b := .append) (xs := #[.tmp 37, .tmp 39]) rfl ?_); at_builtin; refine Kd.R_append k54 (w0 := w) w.heap.size rfl (.tmp 37) (.tmp 39) 45 54 (.agg #[(.string ⟨#[]⟩), (.string ⟨#[]⟩), (.int .i64 0), (.string ⟨#[]⟩), (.int .i64 0), (.int .i64 0), (.int .i64 0), (.int .i64 0)]) 88 rfl Try.underlying45 info54 rfl (by decide) (by omega) u6 x6_1 (⟨a1_0, a1_1, a1_2, a1_3, a1_4, a1_5, a1_6, a1_7⟩ : S54) [.string a1_0, .string a1_1, .int .i64 a1_2, .string a1_3, .int .i64 a1_4, .int .i64 a1_5, .int .i64 a1_6, .int .i64 a1_7] (fun k_ => some k_ ≠ (v140 : Value).ownBlock ∧ k_ ≠ gb132) (fun _ => False) rfl rfl ?aP (fun _ hk => hk.elim) ?aF ?aO ?aB ?aS ?aL ?_; (case aP => exact k54_mkM _ _ _ (⟨a1_0, a1_1, a1_2, a1_3, a1_4, a1_5, a1_6, a1_7⟩ : S54)); (case aB => exact (bs HB)); (case aF => exact (fun k_ hk => ⟨Kd.fresh' (Kd.R_lt (rs HO_5)) k_ hk, Kd.freshB (g := gb132) (o := .cells #[.string a1_0, .string a1_1, .int .i64 a1_2, .string a1_3, .int .i64 a1_4, .int .i64 a1_5, .int .i64 a1_6, .int .i64 a1_7] 54 (0, 0)) (ks BK132) k_ hk⟩)); (case aO => exact (rs HO_6)); (case aS => exact (below_size (bs HB))); (case aL => have := LMc26.out; omega); intro v153 w31 ho hb hg hat; rw [← Ny152.out] at ho; have n0_ := Aside0.mk (Kd.R_after (ok := (fun k_ => k_ ≠ gb132)) (by (with_reducible repeat (first | apply Kd.R_alloc | apply Kd.R_drewN | apply Kd.R_drew)); exact Kd.R_mono HO_5.out (fun _ hk => ⟨hk.2, hk.1⟩)) hg hat); have n1_ := Aside0.mk (blk_grown (ks BK132) hg (Kd.R_away HO_6.out (fun _ hk => hk.2))); have n2_ := Aside0.mk (hb); have n3_ := Aside0.mk (ho); clear HO_5; clear BK132; clear HB; clear HO_6; have HO_5 := n0_; have BK132 := n1_; have HB := n2_; have HO154 := n3_; clear n0_ n1_ n2_ n3_; clear ho hb hg hat; have p155 : 0 ≤ (x8_1 : Int) := oa; have q155 : x8_1 < (l0.length : Int) := oa; obtain ⟨ad155, e155, hx155_0, hx155_1, hx155_2, hx155_3, hx155_4, hx155_5, hx155_6, hx155_7⟩ := at_T54 HR0.out x8_1 p155 q155; obtain rfl : ad150 = ad155 := (by injection e155); replace hx155_0 := cb HB hx155_0; replace hx155_1 := cb HB hx155_1; replace hx155_2 := cb HB hx155_2; replace hx155_3 := cb HB hx155_3; replace hx155_4 := cb HB hx155_4; replace hx155_5 := cb HB hx155_5; replace hx155_6 := cb HB hx155_6; replace hx155_7 := cb HB hx155_7; replace p155 := eq_true p155; replace q155 := eq_true q155) | ((with_reducible refine gate_builtin (b := .append) (xs := #[.tmp 41, .tmp 46]) rfl ?_); at_builtin; refine Kd.R_append k54 (w0 := w) w.heap.size rfl (.tmp 41) (.tmp 46) 45 54 (.agg #[(.string ⟨#[]⟩), (.string ⟨#[]⟩), (.int .i64 0), (.string ⟨#[]⟩), (.int .i64 0), (.int .i64 0), (.int .i64 0), (.int .i64 0)]) 88 rfl Try.underlying45 info54 rfl (by decide) (by omega) v153 y152 (⟨(rd_T54 l0 x8_1).f0, (rd_T54 l0 x8_1).f1, (rd_T54 l0 x8_1).f2, (rd_T54 l0 x8_1).f3, (rd_T54 l0 x8_1).f4, (rd_T54 l0 x8_1).f5, (rd_T54 l0 x8_1).f6, (rd_T54 l0 x8_1).f7⟩ : S54) [.string ((rd_T54 l0 x8_1).f0), .string ((rd_T54 l0 x8_1).f1), .int .i64 ((rd_T54 l0 x8_1).f2), .string ((rd_T54 l0 x8_1).f3), .int .i64 ((rd_T54 l0 x8_1).f4), .int .i64 ((rd_T54 l0 x8_1).f5), .int .i64 ((rd_T54 l0 x8_1).f6), .int .i64 ((rd_T54 l0 x8_1).f7)] (fun k_ => some k_ ≠ (v140 : Value).ownBlock ∧ k_ ≠ gb132) (fun _ => False) rfl rfl ?aP (fun _ hk => hk.elim) ?aF ?aO ?aB ?aS ?aL ?_; (case aP => exact k54_mkM _ _ _ (⟨(rd_T54 l0 x8_1).f0, (rd_T54 l0 x8_1).f1, (rd_T54 l0 x8_1).f2, (rd_T54 l0 x8_1).f3, (rd_T54 l0 x8_1).f4, (rd_T54 l0 x8_1).f5, (rd_T54 l0 x8_1).f6, (rd_T54 l0 x8_1).f7⟩ : S54)); (case aB => exact (bs HB)); (case aF => exact (fun k_ hk => ⟨Kd.fresh' (Kd.R_lt (rs HO_5)) k_ hk, Kd.freshB (g := gb132) (o := .cells #[.string a1_0, .string a1_1, .int .i64 a1_2, .string a1_3, .int .i64 a1_4, .int .i64 a1_5, .int .i64 a1_6, .int .i64 a1_7] 54 (0, 0)) (ks BK132) k_ hk⟩)); (case aO => exact (rs HO154)); (case aS => exact (below_size (bs HB))); (case aL => have := LMc27.out; omega); intro v157 w32 ho hb hg hat; rw [← Ny156.out] at ho; have n0_ := Aside0.mk (Kd.R_after (ok := (fun k_ => k_ ≠ gb132)) (rs HO_5) hg hat); have n1_ := Aside0.mk (blk_grown (ks BK132) hg (Kd.R_away HO154.out (fun _ hk => hk.2))); have n2_ := Aside0.mk (hb); have n3_ := Aside0.mk (ho); clear HO_5; clear BK132; clear HB; clear HO154; have HO_5 := n0_; have BK132 := n1_; have HB := n2_; have HO158 := n3_; clear n0_ n1_ n2_ n3_; clear ho hb hg hat))
                        go_roundg k1
                        case measure => have := HK1.out; omega
                        case rel => exact ⟨(y156), (true), (wrap64 (x8_1 + 1)), fg, fg, H', ⟨by have := HK1.out; omega⟩, ⟨by (with_reducible repeat (first | apply Kd.R_alloc | apply Kd.R_drewN | apply Kd.R_drew)); exact Kd.R_mono HO_5.out (fun _ hk => ⟨hk.2, hk.1⟩)⟩, ⟨by (with_reducible repeat (first | apply Kd.R_alloc | apply Kd.R_drewN | apply Kd.R_drew)); exact HO158.out⟩, ⟨ks BK132⟩, ⟨bs HB⟩⟩
                      · rw [if_neg c27] at H
                        exact absurd H (by simp)
                    · rw [if_neg c26] at H
                      exact absurd H (by simp)
                  · replace c25 := Bool.eq_false_iff.mpr c25; subst c25
                    have H1 : (if x6_1.length < 1599289640401 then (spec_LinesAdd.l0 k1 l0 y139 (x6_1 ++ [(⟨(rd_T54 l0 x8_1).f0, (rd_T54 l0 x8_1).f1, (rd_T54 l0 x8_1).f2, (rd_T54 l0 x8_1).f3, (rd_T54 l0 x8_1).f4, (rd_T54 l0 x8_1).f5, (rd_T54 l0 x8_1).f6, (rd_T54 l0 x8_1).f7⟩ : S54)]) false (wrap64 (x8_1 + 1)) a1_0 a1_1 a1_2 a1_3 a1_4 a1_5 a1_6 a1_7) else (none)) = some r := by rw [if_neg (show ¬ (false = true) by decide)] at H; exact H
                    clear H; have H := H1; clear H1
                    by_cases c33 : x6_1.length < 1599289640401
                    · rw [if_pos c33] at H; have LMc33 := Aside0.mk c33; clear c33; obtain ⟨y160, hy160⟩ : ∃ y_ : List (S54), y_ = (x6_1 ++ [(⟨(rd_T54 l0 x8_1).f0, (rd_T54 l0 x8_1).f1, (rd_T54 l0 x8_1).f2, (rd_T54 l0 x8_1).f3, (rd_T54 l0 x8_1).f4, (rd_T54 l0 x8_1).f5, (rd_T54 l0 x8_1).f6, (rd_T54 l0 x8_1).f7⟩ : S54)]) := ⟨_, rfl⟩
                      replace H : (spec_LinesAdd.l0 k1 l0 y139 y160 false (wrap64 (x8_1 + 1)) a1_0 a1_1 a1_2 a1_3 a1_4 a1_5 a1_6 a1_7) = some r := by first | (rw [hy160]; with_reducible exact H) | (have H2_ := (Option.bind_some _ _).symm.trans H; rw [hy160]; with_reducible exact H2_) | (have H2_ := (Option.bind_some _ _).symm.trans H; with_reducible exact H2_) | with_reducible exact H | (rw [hy160]; exact H) | exact H
                      have Ny160 := Aside0.mk hy160; clear hy160; have H' := Aside0.mk H; clear H
                      try go_wp2
                      replace HO_5 := Aside0.mk (Kd.R_drew HO_5.out); replace HO_6 := Aside0.mk (Kd.R_drew HO_6.out); replace BK132 := Aside0.mk (blk_drew BK132.out); replace HB := Aside0.mk (below_drew1 HB.out); have p150 : 0 ≤ (x8_1 : Int) := oa; have q150 : x8_1 < (l0.length : Int) := oa; obtain ⟨ad150, e150, hx150_0, hx150_1, hx150_2, hx150_3, hx150_4, hx150_5, hx150_6, hx150_7⟩ := at_T54 HR0.out x8_1 p150 q150; have hw150_7 := hx150_7; have hw150_6 := hx150_6; have hw150_5 := hx150_5; have hw150_4 := hx150_4; have hw150_3 := hx150_3; have hw150_2 := hx150_2; have hw150_1 := hx150_1; have hw150_0 := hx150_0
                      cases e150
                      replace hx150_0 := cb HB hx150_0; replace hx150_1 := cb HB hx150_1; replace hx150_2 := cb HB hx150_2; replace hx150_3 := cb HB hx150_3; replace hx150_4 := cb HB hx150_4; replace hx150_5 := cb HB hx150_5; replace hx150_6 := cb HB hx150_6; replace hx150_7 := cb HB hx150_7; replace p150 := eq_true p150; replace q150 := eq_true q150; refine start_ (n := 10) (S := fun w' => w'.cell? ⟨gb132, 0, none⟩ = some (.string a1_0) ∧ w'.cell? ⟨gb132, 1, none⟩ = some (.string a1_1) ∧ w'.cell? ⟨gb132, 2, none⟩ = some (.int .i64 a1_2) ∧ w'.cell? ⟨gb132, 3, none⟩ = some (.string a1_3) ∧ w'.cell? ⟨gb132, 4, none⟩ = some (.int .i64 a1_4) ∧ w'.cell? ⟨gb132, 5, none⟩ = some (.int .i64 a1_5) ∧ w'.cell? ⟨gb132, 6, none⟩ = some (.int .i64 a1_6) ∧ w'.cell? ⟨gb132, 7, none⟩ = some (.int .i64 a1_7) ∧ w'.cell? (ad150.add ((x8_1).toNat * 8)) = some (.string ((rd_T54 l0 x8_1).f0)) ∧ w'.cell? ⟨(ad150.add ((x8_1).toNat * 8)).block, (ad150.add ((x8_1).toNat * 8)).off + 1, none⟩ = some (.string ((rd_T54 l0 x8_1).f1)) ∧ w'.cell? ⟨(ad150.add ((x8_1).toNat * 8)).block, (ad150.add ((x8_1).toNat * 8)).off + 2, none⟩ = some (.int .i64 ((rd_T54 l0 x8_1).f2)) ∧ w'.cell? ⟨(ad150.add ((x8_1).toNat * 8)).block, (ad150.add ((x8_1).toNat * 8)).off + 3, none⟩ = some (.string ((rd_T54 l0 x8_1).f3)) ∧ w'.cell? ⟨(ad150.add ((x8_1).toNat * 8)).block, (ad150.add ((x8_1).toNat * 8)).off + 4, none⟩ = some (.int .i64 ((rd_T54 l0 x8_1).f4)) ∧ w'.cell? ⟨(ad150.add ((x8_1).toNat * 8)).block, (ad150.add ((x8_1).toNat * 8)).off + 5, none⟩ = some (.int .i64 ((rd_T54 l0 x8_1).f5)) ∧ w'.cell? ⟨(ad150.add ((x8_1).toNat * 8)).block, (ad150.add ((x8_1).toNat * 8)).off + 6, none⟩ = some (.int .i64 ((rd_T54 l0 x8_1).f6)) ∧ w'.cell? ⟨(ad150.add ((x8_1).toNat * 8)).block, (ad150.add ((x8_1).toNat * 8)).off + 7, none⟩ = some (.int .i64 ((rd_T54 l0 x8_1).f7))) (ds := []) #[false, false, false, false, false, false, false, false, false, false] (by kernel_rfl) rfl rfl ⟨(blk_cell BK132.out 0).trans rfl, (blk_cell BK132.out 1).trans rfl, (blk_cell BK132.out 2).trans rfl, (blk_cell BK132.out 3).trans rfl, (blk_cell BK132.out 4).trans rfl, (blk_cell BK132.out 5).trans rfl, (blk_cell BK132.out 6).trans rfl, (blk_cell BK132.out 7).trans rfl, ((cb HB hw150_0).trans rfl), ((cb HB hw150_1).trans rfl), ((cb HB hw150_2).trans rfl), ((cb HB hw150_3).trans rfl), ((cb HB hw150_4).trans rfl), ((cb HB hw150_5).trans rfl), ((cb HB hw150_6).trans rfl), ((cb HB hw150_7).trans rfl)⟩ (fun hHeld => ?_); refine with_tabW spec_LinesAdd.tab11 spec_LinesAdd.bits11 (fun HT_ HW_ => ?_)
                      generalize wr.drew = w34 at HO_5 HO_6 BK132 HB hx150_0 hx150_1 hx150_2 hx150_3 hx150_4 hx150_5 hx150_6 hx150_7 hHeld ⊢
                      refine pA 0 27 HT_ ?_; refine pA 1 28 HT_ ?_; refine pA 2 29 HT_ ?_; refine pA 4 31 HT_ ?_; refine pA 5 32 HT_ ?_; refine pA 6 33 HT_ ?_; refine tA 3 30 HT_ HW_ hHeld ?_; refine tA 7 34 HT_ HW_ hHeld ?_; refine oA 8 35 HT_ (fun K hK => ?_); refine gA Try.func94 #[.agg #[.string a1_0, .string a1_1, .int .i64 a1_2, .string a1_3, .int .i64 a1_4, .int .i64 a1_5, .int .i64 a1_6, .int .i64 a1_7], .agg #[.string ((rd_T54 l0 x8_1).f0), .string ((rd_T54 l0 x8_1).f1), .int .i64 ((rd_T54 l0 x8_1).f2), .string ((rd_T54 l0 x8_1).f3), .int .i64 ((rd_T54 l0 x8_1).f4), .int .i64 ((rd_T54 l0 x8_1).f5), .int .i64 ((rd_T54 l0 x8_1).f6), .int .i64 ((rd_T54 l0 x8_1).f7)]] ?_; (with_reducible refine (spec_l09Before.calls a1_0 a1_1 a1_2 a1_3 a1_4 a1_5 a1_6 a1_7 ((rd_T54 l0 x8_1).f0) ((rd_T54 l0 x8_1).f1) ((rd_T54 l0 x8_1).f2) ((rd_T54 l0 x8_1).f3) ((rd_T54 l0 x8_1).f4) ((rd_T54 l0 x8_1).f5) ((rd_T54 l0 x8_1).f6) ((rd_T54 l0 x8_1).f7) false _ A24.out).mono ?_); rintro e w35 ⟨rfl, hb⟩; refine ⟨_, rfl, ?_⟩; replace HO_5 := Aside0.mk (Kd.R_below (rs HO_5) hb); replace HO_6 := Aside0.mk (Kd.R_below (rs HO_6) hb); replace BK132 := Aside0.mk (blk_below (ks BK132) hb); replace HB := Aside0.mk (below_step (bs HB) hb); (try clear hb); (try clear hb2); (try clear hk); (try clear hi); refine hK.out _ _ ⟨(blk_cell BK132.out 0).trans rfl, (blk_cell BK132.out 1).trans rfl, (blk_cell BK132.out 2).trans rfl, (blk_cell BK132.out 3).trans rfl, (blk_cell BK132.out 4).trans rfl, (blk_cell BK132.out 5).trans rfl, (blk_cell BK132.out 6).trans rfl, (blk_cell BK132.out 7).trans rfl, ((cb HB hw150_0).trans rfl), ((cb HB hw150_1).trans rfl), ((cb HB hw150_2).trans rfl), ((cb HB hw150_3).trans rfl), ((cb HB hw150_4).trans rfl), ((cb HB hw150_5).trans rfl), ((cb HB hw150_6).trans rfl), ((cb HB hw150_7).trans rfl)⟩ (fun hHeld => ?_); clear hK K; refine nA 35 ?_; refine pA 9 36 HT_ ?_; refine done_ (done_of HT_.out (by kernel_rfl)) ?_; have p159 : 0 ≤ (x8_1 : Int) := oa; have q159 : x8_1 < (l0.length : Int) := oa; obtain ⟨ad159, e159, hx159_0, hx159_1, hx159_2, hx159_3, hx159_4, hx159_5, hx159_6, hx159_7⟩ := at_T54 HR0.out x8_1 p159 q159; obtain rfl : ad150 = ad159 := (by injection e159); replace hx159_0 := cb HB hx159_0; replace hx159_1 := cb HB hx159_1; replace hx159_2 := cb HB hx159_2; replace hx159_3 := cb HB hx159_3; replace hx159_4 := cb HB hx159_4; replace hx159_5 := cb HB hx159_5; replace hx159_6 := cb HB hx159_6; replace hx159_7 := cb HB hx159_7; replace p159 := eq_true p159; replace q159 := eq_true q159
                      try go_wp2_with (first | ((with_reducible refine gate_builtin (b := .append) (xs := #[.tmp 41, .tmp 46]) rfl ?_); at_builtin; refine Kd.R_append k54 (w0 := w) w.heap.size rfl (.tmp 41) (.tmp 46) 45 54 (.agg #[(.string ⟨#[]⟩), (.string ⟨#[]⟩), (.int .i64 0), (.string ⟨#[]⟩), (.int .i64 0), (.int .i64 0), (.int .i64 0), (.int .i64 0)]) 88 rfl Try.underlying45 info54 rfl (by decide) (by omega) u6 x6_1 (⟨(rd_T54 l0 x8_1).f0, (rd_T54 l0 x8_1).f1, (rd_T54 l0 x8_1).f2, (rd_T54 l0 x8_1).f3, (rd_T54 l0 x8_1).f4, (rd_T54 l0 x8_1).f5, (rd_T54 l0 x8_1).f6, (rd_T54 l0 x8_1).f7⟩ : S54) [.string ((rd_T54 l0 x8_1).f0), .string ((rd_T54 l0 x8_1).f1), .int .i64 ((rd_T54 l0 x8_1).f2), .string ((rd_T54 l0 x8_1).f3), .int .i64 ((rd_T54 l0 x8_1).f4), .int .i64 ((rd_T54 l0 x8_1).f5), .int .i64 ((rd_T54 l0 x8_1).f6), .int .i64 ((rd_T54 l0 x8_1).f7)] (fun k_ => some k_ ≠ (v140 : Value).ownBlock ∧ k_ ≠ gb132) (fun _ => False) rfl rfl ?aP (fun _ hk => hk.elim) ?aF ?aO ?aB ?aS ?aL ?_; (case aP => exact k54_mkM _ _ _ (⟨(rd_T54 l0 x8_1).f0, (rd_T54 l0 x8_1).f1, (rd_T54 l0 x8_1).f2, (rd_T54 l0 x8_1).f3, (rd_T54 l0 x8_1).f4, (rd_T54 l0 x8_1).f5, (rd_T54 l0 x8_1).f6, (rd_T54 l0 x8_1).f7⟩ : S54)); (case aB => exact (bs HB)); (case aF => exact (fun k_ hk => ⟨Kd.fresh' (Kd.R_lt (rs HO_5)) k_ hk, Kd.freshB (g := gb132) (o := .cells #[.string a1_0, .string a1_1, .int .i64 a1_2, .string a1_3, .int .i64 a1_4, .int .i64 a1_5, .int .i64 a1_6, .int .i64 a1_7] 54 (0, 0)) (ks BK132) k_ hk⟩)); (case aO => exact (rs HO_6)); (case aS => exact (below_size (bs HB))); (case aL => have := LMc33.out; omega); intro v161 w36 ho hb hg hat; rw [← Ny160.out] at ho; have n0_ := Aside0.mk (Kd.R_after (ok := (fun k_ => k_ ≠ gb132)) (by (with_reducible repeat (first | apply Kd.R_alloc | apply Kd.R_drewN | apply Kd.R_drew)); exact Kd.R_mono HO_5.out (fun _ hk => ⟨hk.2, hk.1⟩)) hg hat); have n1_ := Aside0.mk (blk_grown (ks BK132) hg (Kd.R_away HO_6.out (fun _ hk => hk.2))); have n2_ := Aside0.mk (hb); have n3_ := Aside0.mk (ho); clear HO_5; clear BK132; clear HB; clear HO_6; have HO_5 := n0_; have BK132 := n1_; have HB := n2_; have HO162 := n3_; clear n0_ n1_ n2_ n3_; clear ho hb hg hat))
                      go_roundg k1
                      case measure => have := HK1.out; omega
                      case rel => exact ⟨(y160), (false), (wrap64 (x8_1 + 1)), fg, fg, H', ⟨by have := HK1.out; omega⟩, ⟨by (with_reducible repeat (first | apply Kd.R_alloc | apply Kd.R_drewN | apply Kd.R_drew)); exact Kd.R_mono HO_5.out (fun _ hk => ⟨hk.2, hk.1⟩)⟩, ⟨by (with_reducible repeat (first | apply Kd.R_alloc | apply Kd.R_drewN | apply Kd.R_drew)); exact HO162.out⟩, ⟨ks BK132⟩, ⟨bs HB⟩⟩
                    · rw [if_neg c33] at H
                      exact absurd H (by simp)
                · rw [if_neg c23] at H
                  exact absurd H (by simp)
            · rw [if_neg c17] at H; have c17b0 : decide (x8_1 < (l0.length : Int)) = false := decide_eq_false c17; clear c17
              by_cases c37 : x7_1 = true
              · subst c37
                have H1 : ((spec_LinesRight.f k1 x6_1).bind fun t163 => (if t163 = true then (some x6_1) else (some y139))) = some r := by rw [if_pos rfl] at H; exact H
                clear H; have H := H1; clear H1; replace H := Option.bind_eq_some_iff.mp H; obtain ⟨t163, A380, H⟩ := H; replace H : (if t163 = true then (some x6_1) else (some y139)) = some r := H; have A38 := Aside0.mk A380; clear A380; obtain ⟨Ao39, co39, eo39⟩ := Kd.R_slice HO_6.out; subst eo39
                try go_wp2_with (fail)
                go_at_call 34; (with_reducible refine (spec_LinesRight.calls k1 _ _ x6_1 t163 _ ?side1 ?side2 A38.out).mono ?_); (case side1 => repeat (first | exact (Kd.R_reads' HO_6.out).2.2 | (with_reducible refine Kd.C_alloc ?_ _) | (with_reducible refine Kd.C_drewN ?_ _) | (with_reducible refine Kd.C_drew ?_))); (case side2 => exact (Kd.R_reads' HO_6.out).2.1); rintro e w40 ⟨rfl, hb⟩; replace HO_5 := Aside0.mk (Kd.R_below (rs HO_5) hb); replace HO_6 := Aside0.mk (Kd.R_below (rs HO_6) hb); replace BK132 := Aside0.mk (blk_below (ks BK132) hb); replace HB := Aside0.mk (below_step (bs HB) hb); (try clear hb); (try clear hb2); (try clear hk); (try clear hi)
                by_cases c41 : t163 = true
                · subst c41
                  have H1 : (some x6_1) = some r := by rw [if_pos rfl] at H; exact H
                  clear H; have H := H1; clear H1; obtain rfl := Option.some.inj H
                  go_wp2
                  go_ret
                  exact ⟨_, ff, by (with_reducible repeat (first | apply Kd.R_alloc | apply Kd.R_drewN | apply Kd.R_drew)); exact Kd.R_mono HO_6.out (fun _ hk => trivial), bs HB⟩
                · replace c41 := Bool.eq_false_iff.mpr c41; subst c41
                  have H1 : (some y139) = some r := by rw [if_neg (show ¬ (false = true) by decide)] at H; exact H
                  clear H; have H := H1; clear H1; obtain rfl := Option.some.inj H
                  go_wp2
                  go_ret
                  exact ⟨_, ff, by (with_reducible repeat (first | apply Kd.R_alloc | apply Kd.R_drewN | apply Kd.R_drew)); exact Kd.R_mono HO_5.out (fun _ hk => trivial), bs HB⟩
              · replace c37 := Bool.eq_false_iff.mpr c37; subst c37
                have H1 : (if x6_1.length < 1599289640401 then ((some (x6_1 ++ [(⟨a1_0, a1_1, a1_2, a1_3, a1_4, a1_5, a1_6, a1_7⟩ : S54)] : List (S54))).bind fun y164 => ((spec_LinesRight.f k1 y164).bind fun t167 => (if t167 = true then (some y164) else (some y139)))) else (none)) = some r := by rw [if_neg (show ¬ (false = true) by decide)] at H; exact H
                clear H; have H := H1; clear H1
                by_cases c42 : x6_1.length < 1599289640401
                · rw [if_pos c42] at H; have LMc42 := Aside0.mk c42; clear c42; obtain ⟨y164, hy164⟩ : ∃ y_ : List (S54), y_ = (x6_1 ++ [(⟨a1_0, a1_1, a1_2, a1_3, a1_4, a1_5, a1_6, a1_7⟩ : S54)]) := ⟨_, rfl⟩
                  replace H : ((spec_LinesRight.f k1 y164).bind fun t167 => (if t167 = true then (some y164) else (some y139))) = some r := by first | (rw [hy164]; with_reducible exact H) | (have H2_ := (Option.bind_some _ _).symm.trans H; rw [hy164]; with_reducible exact H2_) | (have H2_ := (Option.bind_some _ _).symm.trans H; with_reducible exact H2_) | with_reducible exact H | (rw [hy164]; exact H) | exact H
                  have Ny164 := Aside0.mk hy164; clear hy164; replace H := Option.bind_eq_some_iff.mp H; obtain ⟨t167, A430, H⟩ := H; replace H : (if t167 = true then (some y164) else (some y139)) = some r := H; have A43 := Aside0.mk A430; clear A430; obtain ⟨hcz44_0, hcz44_1, hcz44_2, hcz44_3, hcz44_4, hcz44_5, hcz44_6, hcz44_7, hfz44_0, hfz44_1, hfz44_2, hfz44_3, hfz44_4, hfz44_5, hfz44_6, hfz44_7⟩ := cf8 BK132
                  try go_wp2_with (first | ((with_reducible refine gate_builtin (b := .append) (xs := #[.tmp 50, .tmp 52]) rfl ?_); at_builtin; refine Kd.R_append k54 (w0 := w) w.heap.size rfl (.tmp 50) (.tmp 52) 45 54 (.agg #[(.string ⟨#[]⟩), (.string ⟨#[]⟩), (.int .i64 0), (.string ⟨#[]⟩), (.int .i64 0), (.int .i64 0), (.int .i64 0), (.int .i64 0)]) 88 rfl Try.underlying45 info54 rfl (by decide) (by omega) u6 x6_1 (⟨a1_0, a1_1, a1_2, a1_3, a1_4, a1_5, a1_6, a1_7⟩ : S54) [.string a1_0, .string a1_1, .int .i64 a1_2, .string a1_3, .int .i64 a1_4, .int .i64 a1_5, .int .i64 a1_6, .int .i64 a1_7] (fun k_ => some k_ ≠ (v140 : Value).ownBlock ∧ k_ ≠ gb132) (fun _ => False) rfl rfl ?aP (fun _ hk => hk.elim) ?aF ?aO ?aB ?aS ?aL ?_; (case aP => exact k54_mkM _ _ _ (⟨a1_0, a1_1, a1_2, a1_3, a1_4, a1_5, a1_6, a1_7⟩ : S54)); (case aB => exact (bs HB)); (case aF => exact (fun k_ hk => ⟨Kd.fresh' (Kd.R_lt (rs HO_5)) k_ hk, Kd.freshB (g := gb132) (o := .cells #[.string a1_0, .string a1_1, .int .i64 a1_2, .string a1_3, .int .i64 a1_4, .int .i64 a1_5, .int .i64 a1_6, .int .i64 a1_7] 54 (0, 0)) (ks BK132) k_ hk⟩)); (case aO => exact (rs HO_6)); (case aS => exact (below_size (bs HB))); (case aL => have := LMc42.out; omega); intro v165 w45 ho hb hg hat; rw [← Ny164.out] at ho; have n0_ := Aside0.mk (Kd.R_after (ok := (fun k_ => k_ ≠ gb132)) (by (with_reducible repeat (first | apply Kd.R_alloc | apply Kd.R_drewN | apply Kd.R_drew)); exact Kd.R_mono HO_5.out (fun _ hk => ⟨hk.2, hk.1⟩)) hg hat); have n1_ := Aside0.mk (blk_grown (ks BK132) hg (Kd.R_away HO_6.out (fun _ hk => hk.2))); have n2_ := Aside0.mk (hb); have n3_ := Aside0.mk (ho); clear HO_5; clear BK132; clear HB; clear HO_6; have HO_5 := n0_; have BK132 := n1_; have HB := n2_; have HO166 := n3_; clear n0_ n1_ n2_ n3_; clear ho hb hg hat; obtain ⟨Ao46, co46, eo46⟩ := Kd.R_slice HO166.out; subst eo46))
                  go_at_call 34; (with_reducible refine (spec_LinesRight.calls k1 _ _ y164 t167 _ ?side1 ?side2 A43.out).mono ?_); (case side1 => repeat (first | exact (Kd.R_reads' HO166.out).2.2 | (with_reducible refine Kd.C_alloc ?_ _) | (with_reducible refine Kd.C_drewN ?_ _) | (with_reducible refine Kd.C_drew ?_))); (case side2 => exact (Kd.R_reads' HO166.out).2.1); rintro e w47 ⟨rfl, hb⟩; replace HO_5 := Aside0.mk (Kd.R_below (rs HO_5) hb); replace HO166 := Aside0.mk (Kd.R_below (rs HO166) hb); replace BK132 := Aside0.mk (blk_below (ks BK132) hb); replace HB := Aside0.mk (below_step (bs HB) hb); (try clear hb); (try clear hb2); (try clear hk); (try clear hi)
                  by_cases c48 : t167 = true
                  · subst c48
                    have H1 : (some y164) = some r := by rw [if_pos rfl] at H; exact H
                    clear H; have H := H1; clear H1; obtain rfl := Option.some.inj H
                    go_wp2
                    go_ret
                    exact ⟨_, ff, by (with_reducible repeat (first | apply Kd.R_alloc | apply Kd.R_drewN | apply Kd.R_drew)); exact Kd.R_mono HO166.out (fun _ hk => trivial), bs HB⟩
                  · replace c48 := Bool.eq_false_iff.mpr c48; subst c48
                    have H1 : (some y139) = some r := by rw [if_neg (show ¬ (false = true) by decide)] at H; exact H
                    clear H; have H := H1; clear H1; obtain rfl := Option.some.inj H
                    go_wp2
                    go_ret
                    exact ⟨_, ff, by (with_reducible repeat (first | apply Kd.R_alloc | apply Kd.R_drewN | apply Kd.R_drew)); exact Kd.R_mono HO_5.out (fun _ hk => trivial), bs HB⟩
                · rw [if_neg c42] at H
                  exact absurd H (by simp)
      · replace c14 := Bool.eq_false_iff.mpr c14; subst c14
        have H1 : (some y139) = some r := by rw [if_neg (show ¬ (false = true) by decide)] at H; exact H
        clear H; have H := H1; clear H1; obtain rfl := Option.some.inj H
        go_wp2
        go_ret
        exact ⟨_, ff, by (with_reducible repeat (first | apply Kd.R_alloc | apply Kd.R_drewN | apply Kd.R_drew)); exact Kd.R_mono HO141.out (fun _ hk => trivial), bs HB⟩
    · rw [if_neg c7] at H
      exact absurd H (by simp)
end Go.Proofs.Ytefmkmhjbfpelaa.QL
namespace Go.Proofs.Ytefmkmhjbfpelaa.QL
open Go.RowKit Go.Proofs.YtefmkmhjbfpelaaW.PrintWords Go.Proofs.YtefmkmhjbfpelaaW.PrintLast Go.Proofs.YtefmkmhjbfpelaaW.PrintMore
attribute [local go_sem] max2_int min2_int max_two min_two max_three min_three max_four min_four   -- for this text's walks alone
set_option linter.unusedVariables false
set_option linter.unusedSimpArgs false
set_option maxHeartbeats 8000000 in
set_option maxRecDepth 100000 in
theorem impl_OrderLine_95.calls (A0 : Option Addr) (c0 : Nat) (l0 : List (S54)) (r : Bool) (w : World) (hr0 : Kd.C k54 w A0 l0.length l0) (hc0 : l0.length ≤ c0) (h : impl_OrderLine_95.f l0 = some r) :
    Calls Try.prog 95 #[.slice A0 l0.length c0] w fun e w' => e = .returned (.bool r) ∧ Drawn0 w w' := by
  have HR0 := Aside0.mk hr0; have HC0 := Aside0.mk hc0; clear hr0 hc0; have H : (some (decide ((l0.length : Int) > 400))) = some r := h; clear h; obtain rfl := Option.some.inj H
  go_enter Try.func95, Try.ntmps95
  go_wp2
  go_ret
  exact ⟨fg, by repeat (first | exact Drawn0.refl _ | apply Drawn0.step)⟩
set_option maxHeartbeats 8000000 in
set_option maxRecDepth 100000 in
theorem cmp_isNaN_string.calls (a0 : ByteArray) (r : Bool) (w : World) (h : cmp_isNaN_string.f a0 = some r) :
    Calls Try.prog 158 #[.string a0] w fun e w' => e = .returned (.bool r) ∧ Drawn0 w w' := by
  have H : (some (a0.toList != a0.toList)) = some r := h; clear h; obtain rfl := Option.some.inj H
  go_enter Try.func158, Try.ntmps158
  go_wp2
  go_ret
  exact ⟨fg, by repeat (first | exact Drawn0.refl _ | apply Drawn0.step)⟩
set_option maxHeartbeats 8000000 in
set_option maxRecDepth 100000 in
theorem cmp_Compare_string.calls (a0 : ByteArray) (a1 : ByteArray) (r : Int) (w : World) (h : cmp_Compare_string.f a0 a1 = some r) :
    Calls Try.prog 131 #[.string a0, .string a1] w fun e w' => e = .returned (.int .i64 r) ∧ Drawn0 w w' := by
  have H : ((cmp_isNaN_string.f a0).bind fun t168 => ((cmp_isNaN_string.f a1).bind fun t169 => (if t168 = true then (if t169 = true then (some 0) else (some (-1))) else (if t169 = true then (some 1) else (if (Op.bytesLess a0.toList a1.toList) = true then (some (-1)) else (if (Op.bytesLess a1.toList a0.toList) = true then (some 1) else (some 0))))))) = some r := h; clear h; replace H := Option.bind_eq_some_iff.mp H; obtain ⟨t168, A30, H⟩ := H; replace H : ((cmp_isNaN_string.f a1).bind fun t169 => (if t168 = true then (if t169 = true then (some 0) else (some (-1))) else (if t169 = true then (some 1) else (if (Op.bytesLess a0.toList a1.toList) = true then (some (-1)) else (if (Op.bytesLess a1.toList a0.toList) = true then (some 1) else (some 0)))))) = some r := H; have A3 := Aside0.mk A30; clear A30
  go_enter Try.func131, Try.ntmps131
  try go_wp2_with (fail)
  go_at_call 158; (with_reducible refine (cmp_isNaN_string.calls a0 t168 _ A3.out).mono ?_); rintro e w' ⟨rfl, ⟨nd, rfl⟩⟩; replace H := Option.bind_eq_some_iff.mp H; obtain ⟨t169, A40, H⟩ := H; replace H : (if t168 = true then (if t169 = true then (some 0) else (some (-1))) else (if t169 = true then (some 1) else (if (Op.bytesLess a0.toList a1.toList) = true then (some (-1)) else (if (Op.bytesLess a1.toList a0.toList) = true then (some 1) else (some 0))))) = some r := H; have A4 := Aside0.mk A40; clear A40
  try go_wp2_with (fail)
  go_at_call 158; (with_reducible refine (cmp_isNaN_string.calls a1 t169 _ A4.out).mono ?_); rintro e w' ⟨rfl, ⟨nd, rfl⟩⟩
  by_cases c5 : t168 = true
  · subst c5
    have H1 : (if t169 = true then (some 0) else (some (-1))) = some r := by rw [if_pos rfl] at H; exact H
    clear H; have H := H1; clear H1
    by_cases c6 : t169 = true
    · subst c6
      have H1 : (some 0) = some r := by rw [if_pos rfl] at H; exact H
      clear H; have H := H1; clear H1; obtain rfl := Option.some.inj H
      go_wp2
      go_ret
      exact ⟨fg, by repeat (first | exact Drawn0.refl _ | apply Drawn0.step)⟩
    · replace c6 := Bool.eq_false_iff.mpr c6; subst c6
      have H1 : (some (-1)) = some r := by rw [if_neg (show ¬ (false = true) by decide)] at H; exact H
      clear H; have H := H1; clear H1; obtain rfl := Option.some.inj H
      go_wp2
      go_ret
      exact ⟨fg, by repeat (first | exact Drawn0.refl _ | apply Drawn0.step)⟩
  · replace c5 := Bool.eq_false_iff.mpr c5; subst c5
    have H1 : (if t169 = true then (some 1) else (if (Op.bytesLess a0.toList a1.toList) = true then (some (-1)) else (if (Op.bytesLess a1.toList a0.toList) = true then (some 1) else (some 0)))) = some r := by rw [if_neg (show ¬ (false = true) by decide)] at H; exact H
    clear H; have H := H1; clear H1
    by_cases c7 : t169 = true
    · subst c7
      have H1 : (some 1) = some r := by rw [if_pos rfl] at H; exact H
      clear H; have H := H1; clear H1; obtain rfl := Option.some.inj H
      go_wp2
      go_ret
      exact ⟨fg, by repeat (first | exact Drawn0.refl _ | apply Drawn0.step)⟩
    · replace c7 := Bool.eq_false_iff.mpr c7; subst c7
      have H1 : (if (Op.bytesLess a0.toList a1.toList) = true then (some (-1)) else (if (Op.bytesLess a1.toList a0.toList) = true then (some 1) else (some 0))) = some r := by rw [if_neg (show ¬ (false = true) by decide)] at H; exact H
      clear H; have H := H1; clear H1
      by_cases c8 : (Op.bytesLess a0.toList a1.toList) = true
      · rw [if_pos c8] at H; have c8b0 : (Op.bytesLess a0.toList a1.toList) = true := c8; clear c8; obtain rfl := Option.some.inj H
        go_wp2
        go_ret
        exact ⟨fg, by repeat (first | exact Drawn0.refl _ | apply Drawn0.step)⟩
      · rw [if_neg c8] at H
        have c8b0 : (Op.bytesLess a0.toList a1.toList) = false := by simpa using c8
        clear c8
        by_cases c9 : (Op.bytesLess a1.toList a0.toList) = true
        · rw [if_pos c9] at H; have c9b0 : (Op.bytesLess a1.toList a0.toList) = true := c9; clear c9; obtain rfl := Option.some.inj H
          go_wp2
          go_ret
          exact ⟨fg, by repeat (first | exact Drawn0.refl _ | apply Drawn0.step)⟩
        · rw [if_neg c9] at H
          have c9b0 : (Op.bytesLess a1.toList a0.toList) = false := by simpa using c9
          clear c9; obtain rfl := Option.some.inj H
          go_wp2
          go_ret
          exact ⟨fg, by repeat (first | exact Drawn0.refl _ | apply Drawn0.step)⟩
set_option maxHeartbeats 8000000 in
set_option maxRecDepth 100000 in
theorem cmp_isNaN_int64.calls (a0 : Int) (r : Bool) (w : World) (h : cmp_isNaN_int64.f a0 = some r) :
    Calls Try.prog 159 #[.int .i64 a0] w fun e w' => e = .returned (.bool r) ∧ Drawn0 w w' := by
  have H : (some (a0 != a0)) = some r := h; clear h; obtain rfl := Option.some.inj H
  go_enter Try.func159, Try.ntmps159
  go_wp2
  go_ret
  exact ⟨fg, by repeat (first | exact Drawn0.refl _ | apply Drawn0.step)⟩
set_option maxHeartbeats 8000000 in
set_option maxRecDepth 100000 in
theorem cmp_Compare_int64.calls (a0 : Int) (a1 : Int) (r : Int) (w : World) (h : cmp_Compare_int64.f a0 a1 = some r) :
    Calls Try.prog 132 #[.int .i64 a0, .int .i64 a1] w fun e w' => e = .returned (.int .i64 r) ∧ Drawn0 w w' := by
  have H : ((cmp_isNaN_int64.f a0).bind fun t170 => ((cmp_isNaN_int64.f a1).bind fun t171 => (if t170 = true then (if t171 = true then (some 0) else (some (-1))) else (if t171 = true then (some 1) else (if a0 < a1 then (some (-1)) else (if a0 > a1 then (some 1) else (some 0))))))) = some r := h; clear h; replace H := Option.bind_eq_some_iff.mp H; obtain ⟨t170, A30, H⟩ := H; replace H : ((cmp_isNaN_int64.f a1).bind fun t171 => (if t170 = true then (if t171 = true then (some 0) else (some (-1))) else (if t171 = true then (some 1) else (if a0 < a1 then (some (-1)) else (if a0 > a1 then (some 1) else (some 0)))))) = some r := H; have A3 := Aside0.mk A30; clear A30
  go_enter Try.func132, Try.ntmps132
  try go_wp2_with (fail)
  go_at_call 159; (with_reducible refine (cmp_isNaN_int64.calls a0 t170 _ A3.out).mono ?_); rintro e w' ⟨rfl, ⟨nd, rfl⟩⟩; replace H := Option.bind_eq_some_iff.mp H; obtain ⟨t171, A40, H⟩ := H; replace H : (if t170 = true then (if t171 = true then (some 0) else (some (-1))) else (if t171 = true then (some 1) else (if a0 < a1 then (some (-1)) else (if a0 > a1 then (some 1) else (some 0))))) = some r := H; have A4 := Aside0.mk A40; clear A40
  try go_wp2_with (fail)
  go_at_call 159; (with_reducible refine (cmp_isNaN_int64.calls a1 t171 _ A4.out).mono ?_); rintro e w' ⟨rfl, ⟨nd, rfl⟩⟩
  by_cases c5 : t170 = true
  · subst c5
    have H1 : (if t171 = true then (some 0) else (some (-1))) = some r := by rw [if_pos rfl] at H; exact H
    clear H; have H := H1; clear H1
    by_cases c6 : t171 = true
    · subst c6
      have H1 : (some 0) = some r := by rw [if_pos rfl] at H; exact H
      clear H; have H := H1; clear H1; obtain rfl := Option.some.inj H
      go_wp2
      go_ret
      exact ⟨fg, by repeat (first | exact Drawn0.refl _ | apply Drawn0.step)⟩
    · replace c6 := Bool.eq_false_iff.mpr c6; subst c6
      have H1 : (some (-1)) = some r := by rw [if_neg (show ¬ (false = true) by decide)] at H; exact H
      clear H; have H := H1; clear H1; obtain rfl := Option.some.inj H
      go_wp2
      go_ret
      exact ⟨fg, by repeat (first | exact Drawn0.refl _ | apply Drawn0.step)⟩
  · replace c5 := Bool.eq_false_iff.mpr c5; subst c5
    have H1 : (if t171 = true then (some 1) else (if a0 < a1 then (some (-1)) else (if a0 > a1 then (some 1) else (some 0)))) = some r := by rw [if_neg (show ¬ (false = true) by decide)] at H; exact H
    clear H; have H := H1; clear H1
    by_cases c7 : t171 = true
    · subst c7
      have H1 : (some 1) = some r := by rw [if_pos rfl] at H; exact H
      clear H; have H := H1; clear H1; obtain rfl := Option.some.inj H
      go_wp2
      go_ret
      exact ⟨fg, by repeat (first | exact Drawn0.refl _ | apply Drawn0.step)⟩
    · replace c7 := Bool.eq_false_iff.mpr c7; subst c7
      have H1 : (if a0 < a1 then (some (-1)) else (if a0 > a1 then (some 1) else (some 0))) = some r := by rw [if_neg (show ¬ (false = true) by decide)] at H; exact H
      clear H; have H := H1; clear H1
      by_cases c8 : a0 < a1
      · rw [if_pos c8] at H; have c8b0 : decide (a0 < a1) = true := decide_eq_true c8; clear c8; obtain rfl := Option.some.inj H
        go_wp2
        go_ret
        exact ⟨fg, by repeat (first | exact Drawn0.refl _ | apply Drawn0.step)⟩
      · rw [if_neg c8] at H; have c8b0 : decide (a0 < a1) = false := decide_eq_false c8; clear c8
        by_cases c9 : a0 > a1
        · rw [if_pos c9] at H; have c9b0 : decide (a1 < a0) = true := decide_eq_true c9; clear c9; obtain rfl := Option.some.inj H
          go_wp2
          go_ret
          exact ⟨fg, by repeat (first | exact Drawn0.refl _ | apply Drawn0.step)⟩
        · rw [if_neg c9] at H; have c9b0 : decide (a1 < a0) = false := decide_eq_false c9; clear c9; obtain rfl := Option.some.inj H
          go_wp2
          go_ret
          exact ⟨fg, by repeat (first | exact Drawn0.refl _ | apply Drawn0.step)⟩
end Go.Proofs.Ytefmkmhjbfpelaa.QL
namespace Go.Proofs.Ytefmkmhjbfpelaa.QL
open Go.RowKit Go.Proofs.YtefmkmhjbfpelaaW.PrintWords Go.Proofs.YtefmkmhjbfpelaaW.PrintLast Go.Proofs.YtefmkmhjbfpelaaW.PrintMore
attribute [local go_sem] max2_int min2_int max_two min_two max_three min_three max_four min_four   -- for this text's walks alone
set_option linter.unusedVariables false
set_option linter.unusedSimpArgs false
set_option maxHeartbeats 8000000 in
set_option maxRecDepth 100000 in
theorem cmp_Or_int.calls (k : Nat) (A0 : Option Addr) (c0 : Nat) (l0 : List Int) (r : Int) (w : World) (hr0 : Kd.C (Kd.int .i64) w A0 l0.length l0) (hc0 : l0.length ≤ c0) (h : cmp_Or_int.f k l0 = some r) :
    Calls Try.prog 130 #[.slice A0 l0.length c0] w fun e w' => e = .returned (.int .i64 r) ∧ Drawn0 w w' := by
  have HR0 := Aside0.mk hr0; have HC0 := Aside0.mk hc0; clear hr0 hc0; have H : (cmp_Or_int.l0 k 0 l0 (l0.length : Int) 0) = some r := h; clear h; have H' := Aside0.mk H; clear H
  go_enter Try.func130, Try.ntmps130
  go_wp2
  go_loopg [8] k (fun kq v8 w' => ∃ (x8_1 : Int), v8 = .int .i64 x8_1 ∧ Aside0 (cmp_Or_int.l0 kq 0 l0 (l0.length : Int) x8_1 = some r) ∧ Aside0 (kq ≤ k) ∧ Drawn0 w w')
  case atStart => exact ⟨(0), fg, H', ⟨Nat.le_refl _⟩, by repeat (first | exact Drawn0.refl _ | apply Drawn0.step)⟩
  case round =>
    clear H'
    try clear c1
    obtain ⟨x8_1, rfl, HA, HK1, ⟨m1, rfl⟩⟩ := hrel
    cases gk with
    | zero => exact absurd HA.out (by simp [cmp_Or_int.l0])
    | succ k1 =>
      have H := HA.out; clear HA; simp only [cmp_Or_int.l0] at H
      by_cases c2 : x8_1 < (l0.length : Int)
      · rw [if_pos c2] at H; have c2b0 : decide (x8_1 < (l0.length : Int)) = true := decide_eq_true c2; clear c2
        by_cases c3 : 0 ≤ x8_1
        · rw [if_pos c3] at H; have c3b0 : decide (0 ≤ x8_1) = true := decide_eq_true c3; clear c3
          by_cases c4 : x8_1 < (l0.length : Int)
          · rw [if_pos c4] at H; have c4b0 : decide (x8_1 < (l0.length : Int)) = true := decide_eq_true c4; clear c4
            by_cases c5 : (rd l0 x8_1) = 0
            · rw [if_pos c5] at H; have c5b0 : ((rd l0 x8_1) == 0) = true := beq_iff_eq.mpr c5; have c5b1 : ((rd l0 x8_1) != 0) = false := bne_eq_false_iff_eq.mpr c5; clear c5; have H' := Aside0.mk H; clear H; have p172 : 0 ≤ (x8_1 : Int) := oa; have q172 : x8_1 < (l0.length : Int) := oa; obtain ⟨ad172, e172, hx172_0⟩ := Kd.at_int HR0.out x8_1 p172 q172
              cases e172
              replace p172 := eq_true p172; replace q172 := eq_true q172
              go_wp2
              go_roundg k1
              case measure => have := HK1.out; omega
              case rel => exact ⟨(wrap64 (x8_1 + 1)), fg, H', ⟨by have := HK1.out; omega⟩, by repeat (first | exact Drawn0.refl _ | apply Drawn0.step)⟩
            · rw [if_neg c5] at H; have c5b0 : ((rd l0 x8_1) == 0) = false := beq_eq_false_iff_ne.mpr c5; have c5b1 : ((rd l0 x8_1) != 0) = true := bne_iff_ne.mpr c5; obtain rfl := Option.some.inj H; have p172 : 0 ≤ (x8_1 : Int) := oa; have q172 : x8_1 < (l0.length : Int) := oa; obtain ⟨ad172, e172, hx172_0⟩ := Kd.at_int HR0.out x8_1 p172 q172
              cases e172
              replace p172 := eq_true p172; replace q172 := eq_true q172
              go_wp2
              go_ret
              exact ⟨fg, by repeat (first | exact Drawn0.refl _ | apply Drawn0.step)⟩
          · rw [if_neg c4] at H
            exact absurd H (by simp)
        · rw [if_neg c3] at H
          exact absurd H (by simp)
      · rw [if_neg c2] at H; have c2b0 : decide (x8_1 < (l0.length : Int)) = false := decide_eq_false c2; clear c2; obtain rfl := Option.some.inj H
        go_wp2
        go_ret
        exact ⟨fg, by repeat (first | exact Drawn0.refl _ | apply Drawn0.step)⟩
end Go.Proofs.Ytefmkmhjbfpelaa.QL
