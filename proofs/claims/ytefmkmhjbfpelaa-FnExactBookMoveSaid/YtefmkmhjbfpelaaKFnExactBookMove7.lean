-- Merged by a program of this session (wip/tool/pack.py) out of its own texts for this claim.
import Derived.Test.YtefmkmhjbfpelaaKFnExactBookMove0
import Derived.Test.YtefmkmhjbfpelaaKFnExactBookMove1
import Derived.Test.YtefmkmhjbfpelaaKFnExactBookMove2
import Derived.Test.YtefmkmhjbfpelaaKFnExactBookMove3
import Derived.Test.YtefmkmhjbfpelaaKFnExactBookMove5
import Derived.Test.YtefmkmhjbfpelaaKFnExactBookMove6
namespace Go.Proofs.Ytefmkmhjbfpelaa.QM
open Go.RowKit Go.Proofs.YtefmkmhjbfpelaaW.PrintWords Go.Proofs.YtefmkmhjbfpelaaW.PrintLast Go.Proofs.YtefmkmhjbfpelaaW.PrintMore
attribute [local go_sem] max2_int min2_int max_two min_two max_three min_three max_four min_four   -- for this text's walks alone
set_option linter.unusedVariables false
set_option linter.unusedSimpArgs false
def spec_BookRight.T7 : Bool × List (List Nat × List Nat) := (true, [([], []), ([0], [0]), ([1], [1]), ([2], [2]), ([3, 2], [3]), ([4], [4]), ([5, 4], [4, 5]), ([6, 4], [4, 6]), ([4, 7], [4, 7]), ([8, 4], [8]), ([9], [9]), ([10, 9], [9, 10]), ([11, 9], [9, 11]), ([9, 12], [9, 12]), ([13, 9], [13]), ([14], [14]), ([15, 14], [14, 15]), ([16, 14, 14], [14, 16]), ([17], [17]), ([18, 17], [17, 18]), ([17], [17]), ([20, 17], [17, 20]), ([17], [17]), ([22, 17], [17, 22]), ([21, 23, 17], [17, 21, 23]), ([24, 17], [17, 24]), ([25, 17], [17, 25]), ([19, 26, 17], [17, 19, 26]), ([17, 27, 14], [14, 17, 27]), ([14, 28], [14, 28])])
def spec_BookRight.B7 : List Nat := [0, 1, 3, 7, 15, 31, 63, 127, 255, 511, 1023, 2047, 4095, 8191, 16383, 32767, 65535, 131071, 262143, 524287, 262143, 1310719, 262143, 4456447, 15990783, 32767999, 66322431, 134217727, 268435455, 536870911]
theorem spec_BookRight.tab7 : rtab .any (opsOf Try.f60 7) = spec_BookRight.T7 := by kernel_rfl
theorem spec_BookRight.bits7 : waitsOk spec_BookRight.T7.2 spec_BookRight.B7 = true := by kernel_rfl
set_option maxHeartbeats 8000000 in
set_option maxRecDepth 100000 in
theorem spec_BookRight.calls (k : Nat) (A0_0 : Option Addr) (c0_0 : Nat) (l0_0 : List (S117)) (A0_1 : Option Addr) (c0_1 : Nat) (l0_1 : List (S54)) (r : Bool) (w : World) (hr0_0 : Kd.C k117 w A0_0 l0_0.length l0_0) (hc0_0 : l0_0.length ≤ c0_0) (hr0_1 : Kd.C k54 w A0_1 l0_1.length l0_1) (hc0_1 : l0_1.length ≤ c0_1) (h : spec_BookRight.f k l0_0 l0_1 = some r) :
    Calls Try.prog 60 #[.agg #[.slice A0_0 l0_0.length c0_0, .slice A0_1 l0_1.length c0_1]] w fun e w' => e = .returned (.bool r) ∧ Below w.heap.size w w' := by
  have hu47 := Try.underlying47; have hu117 := Try.underlying117; have HR0_0 := Aside0.mk hr0_0; have HC0_0 := Aside0.mk hc0_0; clear hr0_0 hc0_0; have HR0_1 := Aside0.mk hr0_1; have HC0_1 := Aside0.mk hc0_1; clear hr0_1 hc0_1; have HB := Aside0.mk (Below.refl w.heap.size w); have H : (if (l0_0.length : Int) > 100 then (spec_BookRight.j0 k true l0_0 l0_1) else ((spec_LinesRight.f k l0_1).bind fun t172 => (spec_BookRight.j0 k (!t172) l0_0 l0_1))) = some r := h; clear h; have HC2 := Aside0.mk H; clear H
  go_enter Try.func60, Try.ntmps60
  go_upto_region 1 with (first | ((with_reducible refine gate_dst (N := 1) rfl ?_); refine bx 1 (cs := #[.slice A0_0 l0_0.length c0_0, .slice A0_1 l0_1.length c0_1]) (t := 47) ?_; intro gb171 hg w3 hbox hb; have BK171 := Aside0.mk (hbox); have GW171 := Aside0.mk ((gs hg (bs HB))); have GE171 := Aside0.mk ((gs hg (bs HB))); replace HB := Aside0.mk (below_step (bs HB) hb); clear hb hbox hg))
  (try simp only [Act.put, List.setIfInBounds_toArray, List.set_cons_zero, List.set_cons_succ])
  go_cut [14] (fun v14 wc => ∃ (kq : Nat) (x14_1 : Bool), v14 = .bool x14_1 ∧ Aside0 (spec_BookRight.j0 kq x14_1 l0_0 l0_1 = some r) ∧ Aside0 (kq ≤ k) ∧ Aside0 (wc.heap[gb171]? = some (.cells #[(.slice A0_0 l0_0.length c0_0), (.slice A0_1 l0_1.length c0_1)] 47 (0, 0))) ∧ Aside0 (Below w.heap.size w wc))
  case first =>
    have H := HC2.out; clear HC2
    by_cases c4 : (l0_0.length : Int) > 100
    · rw [if_pos c4] at H; have c4b0 : decide (100 < (l0_0.length : Int)) = true := decide_eq_true c4; have c4b1 : decide (100 < l0_0.length) = true := decide_eq_true (by omega); clear c4
      (first | rw [c4b0] | (simp only [i64_w, i32_w]; rw [c4b0]) | skip)
      have H' := Aside0.mk H; clear H; obtain ⟨hcz5_0, hcz5_1, hfz5_0, hfz5_1⟩ := cf2 BK171
      go_wp2
      go_meet
      case rel => exact ⟨_, (true), fg, H', ⟨fl⟩, ⟨ks BK171⟩, ⟨bs HB⟩⟩
    · rw [if_neg c4] at H; have c4b0 : decide (100 < (l0_0.length : Int)) = false := decide_eq_false c4; have c4b1 : decide (100 < l0_0.length) = false := decide_eq_false (by omega); clear c4
      (first | rw [c4b0] | (simp only [i64_w, i32_w]; rw [c4b0]) | skip)
      replace H := Option.bind_eq_some_iff.mp H; obtain ⟨t172, A60, H⟩ := H; replace H : (spec_BookRight.j0 k (!t172) l0_0 l0_1) = some r := H; have A6 := Aside0.mk A60; clear A60; have H' := Aside0.mk H; clear H; obtain ⟨hcz7_0, hcz7_1, hfz7_0, hfz7_1⟩ := cf2 BK171
      go_wp2_with (first | (go_at_call 34; (with_reducible refine (spec_LinesRight.calls k _ _ l0_1 t172 _ (Kd.C_below HR0_1.out (bs HB)) HC0_1.out A6.out).mono ?_); rintro e w8 ⟨rfl, hb⟩; replace BK171 := Aside0.mk (blk_below (ks BK171) hb); replace HB := Aside0.mk (below_step (bs HB) hb); (try clear hb); (try clear hb2); (try clear hk); (try clear hi)))
      go_meet
      case rel => exact ⟨_, (!t172), fg, H', ⟨fl⟩, ⟨ks BK171⟩, ⟨bs HB⟩⟩
  case rest =>
    clear HC2
    try clear p2
    try clear c4
    try clear c4b0
    try clear c4b1
    try clear c6
    try clear hcz5_0
    try clear hcz5_1
    try clear hcz7_0
    try clear hcz7_1
    try clear hfz5_0
    try clear hfz5_1
    try clear hfz7_0
    try clear hfz7_1
    obtain ⟨kq, x14_1, rfl, HA, HJ1, BK171, HB⟩ := hcut
    cases kq with
    | zero => exact absurd HA.out (by simp [spec_BookRight.j0])
    | succ kj1 =>
      have H := HA.out; clear HA; simp only [spec_BookRight.j0] at H
      by_cases c9 : x14_1 = true
      · subst c9
        have H1 : (some false) = some r := by rw [if_pos rfl] at H; exact H
        clear H; have H := H1; clear H1; obtain rfl := Option.some.inj H
        go_wp2
        go_ret
        exact ⟨ff, bs HB⟩
      · replace c9 := Bool.eq_false_iff.mpr c9; subst c9
        have H1 : (spec_BookRight.l0 kj1 0 l0_0 l0_1) = some r := by rw [if_neg (show ¬ (false = true) by decide)] at H; exact H
        clear H; have H := H1; clear H1; have H' := Aside0.mk H; clear H
        go_wp2
        go_loopg [3] kj1 (fun kq v3 w' => ∃ (x3_2 : Int), v3 = .int .i64 x3_2 ∧ Aside0 (spec_BookRight.l0 kq x3_2 l0_0 l0_1 = some r) ∧ Aside0 (kq ≤ kj1) ∧ Aside0 (w'.heap[gb171]? = some (.cells #[(.slice A0_0 l0_0.length c0_0), (.slice A0_1 l0_1.length c0_1)] 47 (0, 0))) ∧ Aside0 (Below w.heap.size w w'))
        case atStart => exact ⟨(0), fg, H', ⟨Nat.le_refl _⟩, ⟨ks BK171⟩, ⟨bs HB⟩⟩
        case round =>
          clear H'
          try clear p2
          try clear c4
          try clear c4b0
          try clear c4b1
          try clear c6
          try clear c9
          try clear hcz5_0
          try clear hcz5_1
          try clear hcz7_0
          try clear hcz7_1
          try clear hfz5_0
          try clear hfz5_1
          try clear hfz7_0
          try clear hfz7_1
          try clear p2
          obtain ⟨x3_2, rfl, HA, HK2, BK171, HB⟩ := hrel
          cases gk with
          | zero => exact absurd HA.out (by simp [spec_BookRight.l0])
          | succ k2 =>
            have H := HA.out; clear HA; simp only [spec_BookRight.l0] at H
            by_cases c10 : x3_2 < (l0_0.length : Int)
            · rw [if_pos c10] at H; have c10b0 : decide (x3_2 < (l0_0.length : Int)) = true := decide_eq_true c10; clear c10
              by_cases c11 : 0 ≤ x3_2
              · rw [if_pos c11] at H; have c11b0 : decide (0 ≤ x3_2) = true := decide_eq_true c11; clear c11; replace H := Option.bind_eq_some_iff.mp H; obtain ⟨t175, A120, H⟩ := H; replace H : (if t175 = true then (if ((rd_T117 l0_0 x3_2).f1) < 0 then (some false) else (if ((rd_T117 l0_0 x3_2).f1) > 1000000000 then (some false) else (if x3_2 > 0 then (if 0 ≤ (wrap64 (x3_2 - 1)) then (if (wrap64 (x3_2 - 1)) < (l0_0.length : Int) then (if ((Op.bytesLess (((rd_T117 l0_0 (wrap64 (x3_2 - 1))).f0).toList) (((rd_T117 l0_0 x3_2).f0).toList)) = true) then (spec_BookRight.l0 k2 (wrap64 (x3_2 + 1)) l0_0 l0_1) else (some false)) else (none)) else (none)) else (spec_BookRight.l0 k2 (wrap64 (x3_2 + 1)) l0_0 l0_1)))) else (some false)) = some r := H; have A12 := Aside0.mk A120; clear A120
                by_cases c13 : t175 = true
                · subst c13
                  have H1 : (if ((rd_T117 l0_0 x3_2).f1) < 0 then (some false) else (if ((rd_T117 l0_0 x3_2).f1) > 1000000000 then (some false) else (if x3_2 > 0 then (if 0 ≤ (wrap64 (x3_2 - 1)) then (if (wrap64 (x3_2 - 1)) < (l0_0.length : Int) then (if ((Op.bytesLess (((rd_T117 l0_0 (wrap64 (x3_2 - 1))).f0).toList) (((rd_T117 l0_0 x3_2).f0).toList)) = true) then (spec_BookRight.l0 k2 (wrap64 (x3_2 + 1)) l0_0 l0_1) else (some false)) else (none)) else (none)) else (spec_BookRight.l0 k2 (wrap64 (x3_2 + 1)) l0_0 l0_1)))) = some r := by rw [if_pos rfl] at H; exact H
                  clear H; have H := H1; clear H1
                  by_cases c14 : ((rd_T117 l0_0 x3_2).f1) < 0
                  · rw [if_pos c14] at H; have c14b0 : decide (((rd_T117 l0_0 x3_2).f1) < 0) = true := decide_eq_true c14; clear c14; obtain rfl := Option.some.inj H; obtain ⟨hcz15_0, hcz15_1, hfz15_0, hfz15_1⟩ := cf2 BK171; have p173 : 0 ≤ (x3_2 : Int) := oa; have q173 : x3_2 < (l0_0.length : Int) := oa; obtain ⟨ad173, e173, hx173_0, hx173_1⟩ := at_T117 HR0_0.out x3_2 p173 q173
                    cases e173
                    replace hx173_0 := cb HB hx173_0; replace hx173_1 := cb HB hx173_1; replace p173 := eq_true p173; replace q173 := eq_true q173
                    try go_wp2_with (first | ((with_reducible refine gate_dst (N := 4) rfl ?_); refine bx 4 (cs := #[.string (⟨#[]⟩ : ByteArray), .int .i64 0]) (t := 117) ?_; intro gb174 hg w16 hbox hb; have BK174 := Aside0.mk (hbox); have GW174 := Aside0.mk ((gs hg (bs HB))); have GE174 := Aside0.mk ((gs hg (bs HB))); replace HB := Aside0.mk (below_step (bs HB) hb); have NB171_174 := Aside0.mk ((gn hg (ks BK171))); have NB174_171 := Aside0.mk ((gm hg (ks BK171))); replace BK171 := Aside0.mk (blk_below (ks BK171) hb); clear hb hbox hg; have hnb17 := NB174_171.out; have hnc17 := NB171_174.out; obtain ⟨hcz18_0, hcz18_1, hfz18_0, hfz18_1⟩ := cf2 BK174))
                    have n0_ : Aside0 (((w16.setCell ⟨gb174, 0, none⟩ (.string ((rd_T117 l0_0 x3_2).f0))).setCell ⟨gb174, 1, none⟩ (.int .i64 ((rd_T117 l0_0 x3_2).f1))).heap[gb171]? = some (.cells #[.slice (some ad173) l0_0.length c0_0, .slice A0_1 l0_1.length c0_1] 47 (0, 0))) := ⟨ks BK171⟩; have n1_ : Aside0 (((w16.setCell ⟨gb174, 0, none⟩ (.string ((rd_T117 l0_0 x3_2).f0))).setCell ⟨gb174, 1, none⟩ (.int .i64 ((rd_T117 l0_0 x3_2).f1))).heap[gb174]? = some (.cells #[.string ((rd_T117 l0_0 x3_2).f0), .int .i64 ((rd_T117 l0_0 x3_2).f1)] 117 (0, 0))) := ⟨kp BK174⟩; have n2_ : Aside0 (Below w.heap.size w ((w16.setCell ⟨gb174, 0, none⟩ (.string ((rd_T117 l0_0 x3_2).f0))).setCell ⟨gb174, 1, none⟩ (.int .i64 ((rd_T117 l0_0 x3_2).f1)))) := ⟨bs HB⟩; (try clear BK171); (try clear BK174); (try clear HB)
                    generalize ((w16.setCell ⟨gb174, 0, none⟩ (.string ((rd_T117 l0_0 x3_2).f0))).setCell ⟨gb174, 1, none⟩ (.int .i64 ((rd_T117 l0_0 x3_2).f1))) = w19 at n0_ n1_ n2_ ⊢
                    have BK171 := n0_; have BK174 := n1_; have HB := n2_; clear n0_ n1_ n2_; replace BK171 := Aside0.mk (blk_drew BK171.out); replace BK174 := Aside0.mk (blk_drew BK174.out); replace HB := Aside0.mk (below_drew1 HB.out); refine start_ (n := 30) (S := fun w' => w'.cell? ⟨gb174, 0, none⟩ = some (.string ((rd_T117 l0_0 x3_2).f0)) ∧ w'.cell? ⟨gb174, 1, none⟩ = some (.int .i64 ((rd_T117 l0_0 x3_2).f1))) (ds := []) #[false, false, false, false, false, false, false, false, false, false, false, false, false, false, false, false, false, false, false, false, false, false, false, false, false, false, false, false, false, false] (by kernel_rfl) rfl rfl ⟨(blk_cell BK174.out 0).trans rfl, (blk_cell BK174.out 1).trans rfl⟩ (fun hHeld => ?_); refine with_tabW spec_BookRight.tab7 spec_BookRight.bits7 (fun HT_ HW_ => ?_)
                    generalize w19.drew = w20 at BK171 BK174 HB hHeld ⊢
                    refine pA 0 27 HT_ ?_; refine tA 1 28 HT_ HW_ hHeld ?_; refine oA 2 29 HT_ (fun K hK => ?_); refine gA Try.func118 #[.string ((rd_T117 l0_0 x3_2).f0)] ?_; (with_reducible refine (spec_l01Name.calls k2 ((rd_T117 l0_0 x3_2).f0) true _ A12.out).mono ?_); rintro e w' ⟨rfl, ⟨nd, rfl⟩⟩; refine ⟨_, rfl, ?_⟩; refine hK.out _ _ ⟨(blk_cell BK174.out 0).trans rfl, (blk_cell BK174.out 1).trans rfl⟩ (fun hHeld => ?_); clear hK K; refine nA 29 ?_; refine pA 3 30 HT_ ?_; refine pA 4 31 HT_ ?_; refine pA 5 32 HT_ ?_; refine tA 6 33 HT_ HW_ hHeld ?_; refine pA 7 34 HT_ ?_; refine pA 8 35 HT_ ?_; refine pA 9 36 HT_ ?_; refine pB 10 37 HT_ ?_; refine pB 11 38 HT_ ?_; refine pB 12 39 HT_ ?_; refine pA 13 40 HT_ ?_; refine pA 14 41 HT_ ?_; refine pB 15 42 HT_ ?_; refine pB 16 43 HT_ ?_; refine pB 17 44 HT_ ?_; refine pB 18 45 HT_ ?_; refine pB 19 46 HT_ ?_; refine pB 20 47 HT_ ?_; refine pB 21 48 HT_ ?_; refine pB 22 49 HT_ ?_; refine pB 23 50 HT_ ?_; refine pB 24 51 HT_ ?_; refine pB 25 52 HT_ ?_; refine pB 26 53 HT_ ?_; refine pB 27 54 HT_ ?_; refine pB 28 55 HT_ ?_; refine pA 29 56 HT_ ?_; refine done_ (done_of HT_.out (by kernel_rfl)) ?_
                    try go_wp2
                    go_ret
                    exact ⟨ff, bs HB⟩
                  · rw [if_neg c14] at H; have c14b0 : decide (((rd_T117 l0_0 x3_2).f1) < 0) = false := decide_eq_false c14; clear c14
                    by_cases c21 : ((rd_T117 l0_0 x3_2).f1) > 1000000000
                    · rw [if_pos c21] at H; have c21b0 : decide (1000000000 < ((rd_T117 l0_0 x3_2).f1)) = true := decide_eq_true c21; clear c21; obtain rfl := Option.some.inj H; obtain ⟨hcz22_0, hcz22_1, hfz22_0, hfz22_1⟩ := cf2 BK171; have p173 : 0 ≤ (x3_2 : Int) := oa; have q173 : x3_2 < (l0_0.length : Int) := oa; obtain ⟨ad173, e173, hx173_0, hx173_1⟩ := at_T117 HR0_0.out x3_2 p173 q173
                      cases e173
                      replace hx173_0 := cb HB hx173_0; replace hx173_1 := cb HB hx173_1; replace p173 := eq_true p173; replace q173 := eq_true q173
                      try go_wp2_with (first | ((with_reducible refine gate_dst (N := 4) rfl ?_); refine bx 4 (cs := #[.string (⟨#[]⟩ : ByteArray), .int .i64 0]) (t := 117) ?_; intro gb174 hg w23 hbox hb; have BK174 := Aside0.mk (hbox); have GW174 := Aside0.mk ((gs hg (bs HB))); have GE174 := Aside0.mk ((gs hg (bs HB))); replace HB := Aside0.mk (below_step (bs HB) hb); have NB171_174 := Aside0.mk ((gn hg (ks BK171))); have NB174_171 := Aside0.mk ((gm hg (ks BK171))); replace BK171 := Aside0.mk (blk_below (ks BK171) hb); clear hb hbox hg; have hnb24 := NB174_171.out; have hnc24 := NB171_174.out; obtain ⟨hcz25_0, hcz25_1, hfz25_0, hfz25_1⟩ := cf2 BK174))
                      have n0_ : Aside0 (((w23.setCell ⟨gb174, 0, none⟩ (.string ((rd_T117 l0_0 x3_2).f0))).setCell ⟨gb174, 1, none⟩ (.int .i64 ((rd_T117 l0_0 x3_2).f1))).heap[gb171]? = some (.cells #[.slice (some ad173) l0_0.length c0_0, .slice A0_1 l0_1.length c0_1] 47 (0, 0))) := ⟨ks BK171⟩; have n1_ : Aside0 (((w23.setCell ⟨gb174, 0, none⟩ (.string ((rd_T117 l0_0 x3_2).f0))).setCell ⟨gb174, 1, none⟩ (.int .i64 ((rd_T117 l0_0 x3_2).f1))).heap[gb174]? = some (.cells #[.string ((rd_T117 l0_0 x3_2).f0), .int .i64 ((rd_T117 l0_0 x3_2).f1)] 117 (0, 0))) := ⟨kp BK174⟩; have n2_ : Aside0 (Below w.heap.size w ((w23.setCell ⟨gb174, 0, none⟩ (.string ((rd_T117 l0_0 x3_2).f0))).setCell ⟨gb174, 1, none⟩ (.int .i64 ((rd_T117 l0_0 x3_2).f1)))) := ⟨bs HB⟩; (try clear BK171); (try clear BK174); (try clear HB)
                      generalize ((w23.setCell ⟨gb174, 0, none⟩ (.string ((rd_T117 l0_0 x3_2).f0))).setCell ⟨gb174, 1, none⟩ (.int .i64 ((rd_T117 l0_0 x3_2).f1))) = w26 at n0_ n1_ n2_ ⊢
                      have BK171 := n0_; have BK174 := n1_; have HB := n2_; clear n0_ n1_ n2_; replace BK171 := Aside0.mk (blk_drew BK171.out); replace BK174 := Aside0.mk (blk_drew BK174.out); replace HB := Aside0.mk (below_drew1 HB.out); refine start_ (n := 30) (S := fun w' => w'.cell? ⟨gb174, 0, none⟩ = some (.string ((rd_T117 l0_0 x3_2).f0)) ∧ w'.cell? ⟨gb174, 1, none⟩ = some (.int .i64 ((rd_T117 l0_0 x3_2).f1))) (ds := []) #[false, false, false, false, false, false, false, false, false, false, false, false, false, false, false, false, false, false, false, false, false, false, false, false, false, false, false, false, false, false] (by kernel_rfl) rfl rfl ⟨(blk_cell BK174.out 0).trans rfl, (blk_cell BK174.out 1).trans rfl⟩ (fun hHeld => ?_); refine with_tabW spec_BookRight.tab7 spec_BookRight.bits7 (fun HT_ HW_ => ?_)
                      generalize w26.drew = w27 at BK171 BK174 HB hHeld ⊢
                      refine pA 0 27 HT_ ?_; refine tA 1 28 HT_ HW_ hHeld ?_; refine oA 2 29 HT_ (fun K hK => ?_); refine gA Try.func118 #[.string ((rd_T117 l0_0 x3_2).f0)] ?_; (with_reducible refine (spec_l01Name.calls k2 ((rd_T117 l0_0 x3_2).f0) true _ A12.out).mono ?_); rintro e w' ⟨rfl, ⟨nd, rfl⟩⟩; refine ⟨_, rfl, ?_⟩; refine hK.out _ _ ⟨(blk_cell BK174.out 0).trans rfl, (blk_cell BK174.out 1).trans rfl⟩ (fun hHeld => ?_); clear hK K; refine nA 29 ?_; refine pA 3 30 HT_ ?_; refine pA 4 31 HT_ ?_; refine pA 5 32 HT_ ?_; refine tA 6 33 HT_ HW_ hHeld ?_; refine pA 7 34 HT_ ?_; refine pA 8 35 HT_ ?_; refine pA 9 36 HT_ ?_; refine pA 10 37 HT_ ?_; refine tA 11 38 HT_ HW_ hHeld ?_; refine pA 12 39 HT_ ?_; refine pA 13 40 HT_ ?_; refine pA 14 41 HT_ ?_; refine pB 15 42 HT_ ?_; refine pB 16 43 HT_ ?_; refine pB 17 44 HT_ ?_; refine pB 18 45 HT_ ?_; refine pB 19 46 HT_ ?_; refine pB 20 47 HT_ ?_; refine pB 21 48 HT_ ?_; refine pB 22 49 HT_ ?_; refine pB 23 50 HT_ ?_; refine pB 24 51 HT_ ?_; refine pB 25 52 HT_ ?_; refine pB 26 53 HT_ ?_; refine pB 27 54 HT_ ?_; refine pB 28 55 HT_ ?_; refine pA 29 56 HT_ ?_; refine done_ (done_of HT_.out (by kernel_rfl)) ?_
                      try go_wp2
                      go_ret
                      exact ⟨ff, bs HB⟩
                    · rw [if_neg c21] at H; have c21b0 : decide (1000000000 < ((rd_T117 l0_0 x3_2).f1)) = false := decide_eq_false c21; clear c21
                      by_cases c28 : x3_2 > 0
                      · rw [if_pos c28] at H; have c28b0 : decide (0 < x3_2) = true := decide_eq_true c28; clear c28; obtain ⟨ji29, hji29⟩ : ∃ j_ : Int, (wrap64 (x3_2 - 1)) = j_ := ⟨_, rfl⟩
                        replace H : (if 0 ≤ (ji29) then (if (ji29) < (l0_0.length : Int) then (if ((Op.bytesLess (((rd_T117 l0_0 (ji29)).f0).toList) (((rd_T117 l0_0 x3_2).f0).toList)) = true) then (spec_BookRight.l0 k2 (wrap64 (x3_2 + 1)) l0_0 l0_1) else (some false)) else (none)) else (none)) = some r := by first | (rw [hji29] at H; exact H) | (simp only [hji29] at H ⊢; exact H)
                        (try rw [hji29] at A12)
                        have hji29w : (IntKind.i64.wrap (x3_2 - 1)) = ji29 := (i64_w _).trans hji29
                        by_cases c30 : 0 ≤ (ji29)
                        · rw [if_pos c30] at H; have c30b0 : decide (0 ≤ (ji29)) = true := decide_eq_true c30; clear c30
                          by_cases c31 : (ji29) < (l0_0.length : Int)
                          · rw [if_pos c31] at H; have c31b0 : decide ((ji29) < (l0_0.length : Int)) = true := decide_eq_true c31; clear c31
                            by_cases c32 : ((Op.bytesLess (((rd_T117 l0_0 (ji29)).f0).toList) (((rd_T117 l0_0 x3_2).f0).toList)) = true)
                            · rw [if_pos c32] at H; have c32b0 : (Op.bytesLess (((rd_T117 l0_0 (ji29)).f0).toList) (((rd_T117 l0_0 x3_2).f0).toList)) = true := c32; clear c32; have H' := Aside0.mk H; clear H; obtain ⟨hcz33_0, hcz33_1, hfz33_0, hfz33_1⟩ := cf2 BK171; have p173 : 0 ≤ (x3_2 : Int) := oa; have q173 : x3_2 < (l0_0.length : Int) := oa; obtain ⟨ad173, e173, hx173_0, hx173_1⟩ := at_T117 HR0_0.out x3_2 p173 q173
                              cases e173
                              replace hx173_0 := cb HB hx173_0; replace hx173_1 := cb HB hx173_1; replace p173 := eq_true p173; replace q173 := eq_true q173
                              try go_wp2_with (first | ((with_reducible refine gate_dst (N := 4) rfl ?_); refine bx 4 (cs := #[.string (⟨#[]⟩ : ByteArray), .int .i64 0]) (t := 117) ?_; intro gb174 hg w34 hbox hb; have BK174 := Aside0.mk (hbox); have GW174 := Aside0.mk ((gs hg (bs HB))); have GE174 := Aside0.mk ((gs hg (bs HB))); replace HB := Aside0.mk (below_step (bs HB) hb); have NB171_174 := Aside0.mk ((gn hg (ks BK171))); have NB174_171 := Aside0.mk ((gm hg (ks BK171))); replace BK171 := Aside0.mk (blk_below (ks BK171) hb); clear hb hbox hg; have hnb35 := NB174_171.out; have hnc35 := NB171_174.out; obtain ⟨hcz36_0, hcz36_1, hfz36_0, hfz36_1⟩ := cf2 BK174))
                              have n0_ : Aside0 (((w34.setCell ⟨gb174, 0, none⟩ (.string ((rd_T117 l0_0 x3_2).f0))).setCell ⟨gb174, 1, none⟩ (.int .i64 ((rd_T117 l0_0 x3_2).f1))).heap[gb171]? = some (.cells #[.slice (some ad173) l0_0.length c0_0, .slice A0_1 l0_1.length c0_1] 47 (0, 0))) := ⟨ks BK171⟩; have n1_ : Aside0 (((w34.setCell ⟨gb174, 0, none⟩ (.string ((rd_T117 l0_0 x3_2).f0))).setCell ⟨gb174, 1, none⟩ (.int .i64 ((rd_T117 l0_0 x3_2).f1))).heap[gb174]? = some (.cells #[.string ((rd_T117 l0_0 x3_2).f0), .int .i64 ((rd_T117 l0_0 x3_2).f1)] 117 (0, 0))) := ⟨kp BK174⟩; have n2_ : Aside0 (Below w.heap.size w ((w34.setCell ⟨gb174, 0, none⟩ (.string ((rd_T117 l0_0 x3_2).f0))).setCell ⟨gb174, 1, none⟩ (.int .i64 ((rd_T117 l0_0 x3_2).f1)))) := ⟨bs HB⟩; (try clear BK171); (try clear BK174); (try clear HB)
                              generalize ((w34.setCell ⟨gb174, 0, none⟩ (.string ((rd_T117 l0_0 x3_2).f0))).setCell ⟨gb174, 1, none⟩ (.int .i64 ((rd_T117 l0_0 x3_2).f1))) = w37 at n0_ n1_ n2_ ⊢
                              have BK171 := n0_; have BK174 := n1_; have HB := n2_; clear n0_ n1_ n2_; replace BK171 := Aside0.mk (blk_drew BK171.out); replace BK174 := Aside0.mk (blk_drew BK174.out); replace HB := Aside0.mk (below_drew1 HB.out); have p176 : 0 ≤ ((ji29) : Int) := oa; have q176 : (ji29) < (l0_0.length : Int) := oa; obtain ⟨ad176, e176, hx176_0, hx176_1⟩ := at_T117 HR0_0.out (ji29) p176 q176; have hw176_1 := hx176_1; have hw176_0 := hx176_0; obtain rfl : ad173 = ad176 := (by injection e176); replace hx176_0 := cb HB hx176_0; replace hx176_1 := cb HB hx176_1; replace p176 := eq_true p176; replace q176 := eq_true q176; refine start_ (n := 30) (S := fun w' => w'.cell? ⟨gb174, 0, none⟩ = some (.string ((rd_T117 l0_0 x3_2).f0)) ∧ w'.cell? ⟨gb174, 1, none⟩ = some (.int .i64 ((rd_T117 l0_0 x3_2).f1)) ∧ w'.cell? ⟨gb171, 0, none⟩ = some (.slice (some ad173) l0_0.length c0_0) ∧ w'.cell? ⟨gb171, 1, none⟩ = some (.slice A0_1 l0_1.length c0_1) ∧ w'.cell? (ad173.add (((ji29)).toNat * 2)) = some (.string ((rd_T117 l0_0 (ji29)).f0)) ∧ w'.cell? ⟨(ad173.add (((ji29)).toNat * 2)).block, (ad173.add (((ji29)).toNat * 2)).off + 1, none⟩ = some (.int .i64 ((rd_T117 l0_0 (ji29)).f1))) (ds := []) #[false, false, false, false, false, false, false, false, false, false, false, false, false, false, false, false, false, false, false, false, false, false, false, false, false, false, false, false, false, false] (by kernel_rfl) rfl rfl ⟨(blk_cell BK174.out 0).trans rfl, (blk_cell BK174.out 1).trans rfl, (blk_cell BK171.out 0).trans rfl, (blk_cell BK171.out 1).trans rfl, ((cb HB hw176_0).trans rfl), ((cb HB hw176_1).trans rfl)⟩ (fun hHeld => ?_); refine with_tabW spec_BookRight.tab7 spec_BookRight.bits7 (fun HT_ HW_ => ?_)
                              generalize w37.drew = w38 at BK171 BK174 HB hx176_0 hx176_1 hHeld ⊢
                              refine pA 0 27 HT_ ?_; refine tA 1 28 HT_ HW_ hHeld ?_; refine oA 2 29 HT_ (fun K hK => ?_); refine gA Try.func118 #[.string ((rd_T117 l0_0 x3_2).f0)] ?_; (with_reducible refine (spec_l01Name.calls k2 ((rd_T117 l0_0 x3_2).f0) true _ A12.out).mono ?_); rintro e w' ⟨rfl, ⟨nd, rfl⟩⟩; refine ⟨_, rfl, ?_⟩; refine hK.out _ _ ⟨(blk_cell BK174.out 0).trans rfl, (blk_cell BK174.out 1).trans rfl, (blk_cell BK171.out 0).trans rfl, (blk_cell BK171.out 1).trans rfl, ((cb HB hw176_0).trans rfl), ((cb HB hw176_1).trans rfl)⟩ (fun hHeld => ?_); clear hK K; refine nA 29 ?_; refine pA 3 30 HT_ ?_; refine pA 4 31 HT_ ?_; refine pA 5 32 HT_ ?_; refine tA 6 33 HT_ HW_ hHeld ?_; refine pA 7 34 HT_ ?_; refine pA 8 35 HT_ ?_; refine pA 9 36 HT_ ?_; refine pA 10 37 HT_ ?_; refine tA 11 38 HT_ HW_ hHeld ?_; refine pA 12 39 HT_ ?_; refine pA 13 40 HT_ ?_; refine pA 14 41 HT_ ?_; refine pA 15 42 HT_ ?_; refine pA 16 43 HT_ ?_; refine pA 17 44 HT_ ?_; refine pA 18 45 HT_ ?_; refine pA 20 47 HT_ ?_; refine pA 22 49 HT_ ?_; refine pA 23 50 HT_ ?_; refine tA 19 46 HT_ HW_ hHeld ?_; refine tA 21 48 HT_ HW_ hHeld ?_; refine pA 24 51 HT_ ?_; refine pA 25 52 HT_ ?_; refine tA 26 53 HT_ HW_ hHeld ?_; refine pA 27 54 HT_ ?_; refine pA 28 55 HT_ ?_; refine pA 29 56 HT_ ?_; refine done_ (done_of HT_.out (by kernel_rfl)) ?_
                              try go_wp2
                              go_roundg k2
                              case measure => have := HJ1.out; have := HK2.out; omega
                              case rel => exact ⟨(wrap64 (x3_2 + 1)), fg, H', ⟨by have := HJ1.out; have := HK2.out; omega⟩, ⟨ks BK171⟩, ⟨bs HB⟩⟩
                            · rw [if_neg c32] at H
                              have c32b0 : (Op.bytesLess (((rd_T117 l0_0 (ji29)).f0).toList) (((rd_T117 l0_0 x3_2).f0).toList)) = false := by simpa using c32
                              clear c32; obtain rfl := Option.some.inj H; obtain ⟨hcz39_0, hcz39_1, hfz39_0, hfz39_1⟩ := cf2 BK171; have p173 : 0 ≤ (x3_2 : Int) := oa; have q173 : x3_2 < (l0_0.length : Int) := oa; obtain ⟨ad173, e173, hx173_0, hx173_1⟩ := at_T117 HR0_0.out x3_2 p173 q173
                              cases e173
                              replace hx173_0 := cb HB hx173_0; replace hx173_1 := cb HB hx173_1; replace p173 := eq_true p173; replace q173 := eq_true q173
                              try go_wp2_with (first | ((with_reducible refine gate_dst (N := 4) rfl ?_); refine bx 4 (cs := #[.string (⟨#[]⟩ : ByteArray), .int .i64 0]) (t := 117) ?_; intro gb174 hg w40 hbox hb; have BK174 := Aside0.mk (hbox); have GW174 := Aside0.mk ((gs hg (bs HB))); have GE174 := Aside0.mk ((gs hg (bs HB))); replace HB := Aside0.mk (below_step (bs HB) hb); have NB171_174 := Aside0.mk ((gn hg (ks BK171))); have NB174_171 := Aside0.mk ((gm hg (ks BK171))); replace BK171 := Aside0.mk (blk_below (ks BK171) hb); clear hb hbox hg; have hnb41 := NB174_171.out; have hnc41 := NB171_174.out; obtain ⟨hcz42_0, hcz42_1, hfz42_0, hfz42_1⟩ := cf2 BK174))
                              have n0_ : Aside0 (((w40.setCell ⟨gb174, 0, none⟩ (.string ((rd_T117 l0_0 x3_2).f0))).setCell ⟨gb174, 1, none⟩ (.int .i64 ((rd_T117 l0_0 x3_2).f1))).heap[gb171]? = some (.cells #[.slice (some ad173) l0_0.length c0_0, .slice A0_1 l0_1.length c0_1] 47 (0, 0))) := ⟨ks BK171⟩; have n1_ : Aside0 (((w40.setCell ⟨gb174, 0, none⟩ (.string ((rd_T117 l0_0 x3_2).f0))).setCell ⟨gb174, 1, none⟩ (.int .i64 ((rd_T117 l0_0 x3_2).f1))).heap[gb174]? = some (.cells #[.string ((rd_T117 l0_0 x3_2).f0), .int .i64 ((rd_T117 l0_0 x3_2).f1)] 117 (0, 0))) := ⟨kp BK174⟩; have n2_ : Aside0 (Below w.heap.size w ((w40.setCell ⟨gb174, 0, none⟩ (.string ((rd_T117 l0_0 x3_2).f0))).setCell ⟨gb174, 1, none⟩ (.int .i64 ((rd_T117 l0_0 x3_2).f1)))) := ⟨bs HB⟩; (try clear BK171); (try clear BK174); (try clear HB)
                              generalize ((w40.setCell ⟨gb174, 0, none⟩ (.string ((rd_T117 l0_0 x3_2).f0))).setCell ⟨gb174, 1, none⟩ (.int .i64 ((rd_T117 l0_0 x3_2).f1))) = w43 at n0_ n1_ n2_ ⊢
                              have BK171 := n0_; have BK174 := n1_; have HB := n2_; clear n0_ n1_ n2_; replace BK171 := Aside0.mk (blk_drew BK171.out); replace BK174 := Aside0.mk (blk_drew BK174.out); replace HB := Aside0.mk (below_drew1 HB.out); have p176 : 0 ≤ ((ji29) : Int) := oa; have q176 : (ji29) < (l0_0.length : Int) := oa; obtain ⟨ad176, e176, hx176_0, hx176_1⟩ := at_T117 HR0_0.out (ji29) p176 q176; have hw176_1 := hx176_1; have hw176_0 := hx176_0; obtain rfl : ad173 = ad176 := (by injection e176); replace hx176_0 := cb HB hx176_0; replace hx176_1 := cb HB hx176_1; replace p176 := eq_true p176; replace q176 := eq_true q176; refine start_ (n := 30) (S := fun w' => w'.cell? ⟨gb174, 0, none⟩ = some (.string ((rd_T117 l0_0 x3_2).f0)) ∧ w'.cell? ⟨gb174, 1, none⟩ = some (.int .i64 ((rd_T117 l0_0 x3_2).f1)) ∧ w'.cell? ⟨gb171, 0, none⟩ = some (.slice (some ad173) l0_0.length c0_0) ∧ w'.cell? ⟨gb171, 1, none⟩ = some (.slice A0_1 l0_1.length c0_1) ∧ w'.cell? (ad173.add (((ji29)).toNat * 2)) = some (.string ((rd_T117 l0_0 (ji29)).f0)) ∧ w'.cell? ⟨(ad173.add (((ji29)).toNat * 2)).block, (ad173.add (((ji29)).toNat * 2)).off + 1, none⟩ = some (.int .i64 ((rd_T117 l0_0 (ji29)).f1))) (ds := []) #[false, false, false, false, false, false, false, false, false, false, false, false, false, false, false, false, false, false, false, false, false, false, false, false, false, false, false, false, false, false] (by kernel_rfl) rfl rfl ⟨(blk_cell BK174.out 0).trans rfl, (blk_cell BK174.out 1).trans rfl, (blk_cell BK171.out 0).trans rfl, (blk_cell BK171.out 1).trans rfl, ((cb HB hw176_0).trans rfl), ((cb HB hw176_1).trans rfl)⟩ (fun hHeld => ?_); refine with_tabW spec_BookRight.tab7 spec_BookRight.bits7 (fun HT_ HW_ => ?_)
                              generalize w43.drew = w44 at BK171 BK174 HB hx176_0 hx176_1 hHeld ⊢
                              refine pA 0 27 HT_ ?_; refine tA 1 28 HT_ HW_ hHeld ?_; refine oA 2 29 HT_ (fun K hK => ?_); refine gA Try.func118 #[.string ((rd_T117 l0_0 x3_2).f0)] ?_; (with_reducible refine (spec_l01Name.calls k2 ((rd_T117 l0_0 x3_2).f0) true _ A12.out).mono ?_); rintro e w' ⟨rfl, ⟨nd, rfl⟩⟩; refine ⟨_, rfl, ?_⟩; refine hK.out _ _ ⟨(blk_cell BK174.out 0).trans rfl, (blk_cell BK174.out 1).trans rfl, (blk_cell BK171.out 0).trans rfl, (blk_cell BK171.out 1).trans rfl, ((cb HB hw176_0).trans rfl), ((cb HB hw176_1).trans rfl)⟩ (fun hHeld => ?_); clear hK K; refine nA 29 ?_; refine pA 3 30 HT_ ?_; refine pA 4 31 HT_ ?_; refine pA 5 32 HT_ ?_; refine tA 6 33 HT_ HW_ hHeld ?_; refine pA 7 34 HT_ ?_; refine pA 8 35 HT_ ?_; refine pA 9 36 HT_ ?_; refine pA 10 37 HT_ ?_; refine tA 11 38 HT_ HW_ hHeld ?_; refine pA 12 39 HT_ ?_; refine pA 13 40 HT_ ?_; refine pA 14 41 HT_ ?_; refine pA 15 42 HT_ ?_; refine pA 16 43 HT_ ?_; refine pA 17 44 HT_ ?_; refine pA 18 45 HT_ ?_; refine pA 20 47 HT_ ?_; refine pA 22 49 HT_ ?_; refine pA 23 50 HT_ ?_; refine tA 19 46 HT_ HW_ hHeld ?_; refine tA 21 48 HT_ HW_ hHeld ?_; refine pA 24 51 HT_ ?_; refine pA 25 52 HT_ ?_; refine tA 26 53 HT_ HW_ hHeld ?_; refine pA 27 54 HT_ ?_; refine pA 28 55 HT_ ?_; refine pA 29 56 HT_ ?_; refine done_ (done_of HT_.out (by kernel_rfl)) ?_
                              try go_wp2
                              go_ret
                              exact ⟨by first | rfl | (simp [errW_none, errW_some] <;> rfl) | (simp only [← hji29]; first | rfl | (simp [errW_none, errW_some] <;> rfl)) | (simp [*, errW_none, errW_some] <;> rfl), bs HB⟩
                          · rw [if_neg c31] at H
                            exact absurd H (by simp)
                        · rw [if_neg c30] at H
                          exact absurd H (by simp)
                      · rw [if_neg c28] at H; have c28b0 : decide (0 < x3_2) = false := decide_eq_false c28; clear c28; have H' := Aside0.mk H; clear H; obtain ⟨hcz45_0, hcz45_1, hfz45_0, hfz45_1⟩ := cf2 BK171; have p173 : 0 ≤ (x3_2 : Int) := oa; have q173 : x3_2 < (l0_0.length : Int) := oa; obtain ⟨ad173, e173, hx173_0, hx173_1⟩ := at_T117 HR0_0.out x3_2 p173 q173
                        cases e173
                        replace hx173_0 := cb HB hx173_0; replace hx173_1 := cb HB hx173_1; replace p173 := eq_true p173; replace q173 := eq_true q173
                        try go_wp2_with (first | ((with_reducible refine gate_dst (N := 4) rfl ?_); refine bx 4 (cs := #[.string (⟨#[]⟩ : ByteArray), .int .i64 0]) (t := 117) ?_; intro gb174 hg w46 hbox hb; have BK174 := Aside0.mk (hbox); have GW174 := Aside0.mk ((gs hg (bs HB))); have GE174 := Aside0.mk ((gs hg (bs HB))); replace HB := Aside0.mk (below_step (bs HB) hb); have NB171_174 := Aside0.mk ((gn hg (ks BK171))); have NB174_171 := Aside0.mk ((gm hg (ks BK171))); replace BK171 := Aside0.mk (blk_below (ks BK171) hb); clear hb hbox hg; have hnb47 := NB174_171.out; have hnc47 := NB171_174.out; obtain ⟨hcz48_0, hcz48_1, hfz48_0, hfz48_1⟩ := cf2 BK174))
                        have n0_ : Aside0 (((w46.setCell ⟨gb174, 0, none⟩ (.string ((rd_T117 l0_0 x3_2).f0))).setCell ⟨gb174, 1, none⟩ (.int .i64 ((rd_T117 l0_0 x3_2).f1))).heap[gb171]? = some (.cells #[.slice (some ad173) l0_0.length c0_0, .slice A0_1 l0_1.length c0_1] 47 (0, 0))) := ⟨ks BK171⟩; have n1_ : Aside0 (((w46.setCell ⟨gb174, 0, none⟩ (.string ((rd_T117 l0_0 x3_2).f0))).setCell ⟨gb174, 1, none⟩ (.int .i64 ((rd_T117 l0_0 x3_2).f1))).heap[gb174]? = some (.cells #[.string ((rd_T117 l0_0 x3_2).f0), .int .i64 ((rd_T117 l0_0 x3_2).f1)] 117 (0, 0))) := ⟨kp BK174⟩; have n2_ : Aside0 (Below w.heap.size w ((w46.setCell ⟨gb174, 0, none⟩ (.string ((rd_T117 l0_0 x3_2).f0))).setCell ⟨gb174, 1, none⟩ (.int .i64 ((rd_T117 l0_0 x3_2).f1)))) := ⟨bs HB⟩; (try clear BK171); (try clear BK174); (try clear HB)
                        generalize ((w46.setCell ⟨gb174, 0, none⟩ (.string ((rd_T117 l0_0 x3_2).f0))).setCell ⟨gb174, 1, none⟩ (.int .i64 ((rd_T117 l0_0 x3_2).f1))) = w49 at n0_ n1_ n2_ ⊢
                        have BK171 := n0_; have BK174 := n1_; have HB := n2_; clear n0_ n1_ n2_; replace BK171 := Aside0.mk (blk_drew BK171.out); replace BK174 := Aside0.mk (blk_drew BK174.out); replace HB := Aside0.mk (below_drew1 HB.out); refine start_ (n := 30) (S := fun w' => w'.cell? ⟨gb174, 0, none⟩ = some (.string ((rd_T117 l0_0 x3_2).f0)) ∧ w'.cell? ⟨gb174, 1, none⟩ = some (.int .i64 ((rd_T117 l0_0 x3_2).f1))) (ds := []) #[false, false, false, false, false, false, false, false, false, false, false, false, false, false, false, false, false, false, false, false, false, false, false, false, false, false, false, false, false, false] (by kernel_rfl) rfl rfl ⟨(blk_cell BK174.out 0).trans rfl, (blk_cell BK174.out 1).trans rfl⟩ (fun hHeld => ?_); refine with_tabW spec_BookRight.tab7 spec_BookRight.bits7 (fun HT_ HW_ => ?_)
                        generalize w49.drew = w50 at BK171 BK174 HB hHeld ⊢
                        refine pA 0 27 HT_ ?_; refine tA 1 28 HT_ HW_ hHeld ?_; refine oA 2 29 HT_ (fun K hK => ?_); refine gA Try.func118 #[.string ((rd_T117 l0_0 x3_2).f0)] ?_; (with_reducible refine (spec_l01Name.calls k2 ((rd_T117 l0_0 x3_2).f0) true _ A12.out).mono ?_); rintro e w' ⟨rfl, ⟨nd, rfl⟩⟩; refine ⟨_, rfl, ?_⟩; refine hK.out _ _ ⟨(blk_cell BK174.out 0).trans rfl, (blk_cell BK174.out 1).trans rfl⟩ (fun hHeld => ?_); clear hK K; refine nA 29 ?_; refine pA 3 30 HT_ ?_; refine pA 4 31 HT_ ?_; refine pA 5 32 HT_ ?_; refine tA 6 33 HT_ HW_ hHeld ?_; refine pA 7 34 HT_ ?_; refine pA 8 35 HT_ ?_; refine pA 9 36 HT_ ?_; refine pA 10 37 HT_ ?_; refine tA 11 38 HT_ HW_ hHeld ?_; refine pA 12 39 HT_ ?_; refine pA 13 40 HT_ ?_; refine pA 14 41 HT_ ?_; refine pA 15 42 HT_ ?_; refine pA 16 43 HT_ ?_; refine pA 17 44 HT_ ?_; refine pB 18 45 HT_ ?_; refine pB 19 46 HT_ ?_; refine pB 20 47 HT_ ?_; refine pB 21 48 HT_ ?_; refine pB 22 49 HT_ ?_; refine pB 23 50 HT_ ?_; refine pB 24 51 HT_ ?_; refine pB 25 52 HT_ ?_; refine pB 26 53 HT_ ?_; refine pB 27 54 HT_ ?_; refine pA 28 55 HT_ ?_; refine pA 29 56 HT_ ?_; refine done_ (done_of HT_.out (by kernel_rfl)) ?_
                        try go_wp2
                        go_roundg k2
                        case measure => have := HJ1.out; have := HK2.out; omega
                        case rel => exact ⟨(wrap64 (x3_2 + 1)), fg, H', ⟨by have := HJ1.out; have := HK2.out; omega⟩, ⟨ks BK171⟩, ⟨bs HB⟩⟩
                · replace c13 := Bool.eq_false_iff.mpr c13; subst c13
                  have H1 : (some false) = some r := by rw [if_neg (show ¬ (false = true) by decide)] at H; exact H
                  clear H; have H := H1; clear H1; obtain rfl := Option.some.inj H; obtain ⟨hcz51_0, hcz51_1, hfz51_0, hfz51_1⟩ := cf2 BK171; have p173 : 0 ≤ (x3_2 : Int) := oa; have q173 : x3_2 < (l0_0.length : Int) := oa; obtain ⟨ad173, e173, hx173_0, hx173_1⟩ := at_T117 HR0_0.out x3_2 p173 q173
                  cases e173
                  replace hx173_0 := cb HB hx173_0; replace hx173_1 := cb HB hx173_1; replace p173 := eq_true p173; replace q173 := eq_true q173
                  try go_wp2_with (first | ((with_reducible refine gate_dst (N := 4) rfl ?_); refine bx 4 (cs := #[.string (⟨#[]⟩ : ByteArray), .int .i64 0]) (t := 117) ?_; intro gb174 hg w52 hbox hb; have BK174 := Aside0.mk (hbox); have GW174 := Aside0.mk ((gs hg (bs HB))); have GE174 := Aside0.mk ((gs hg (bs HB))); replace HB := Aside0.mk (below_step (bs HB) hb); have NB171_174 := Aside0.mk ((gn hg (ks BK171))); have NB174_171 := Aside0.mk ((gm hg (ks BK171))); replace BK171 := Aside0.mk (blk_below (ks BK171) hb); clear hb hbox hg; have hnb53 := NB174_171.out; have hnc53 := NB171_174.out; obtain ⟨hcz54_0, hcz54_1, hfz54_0, hfz54_1⟩ := cf2 BK174))
                  have n0_ : Aside0 (((w52.setCell ⟨gb174, 0, none⟩ (.string ((rd_T117 l0_0 x3_2).f0))).setCell ⟨gb174, 1, none⟩ (.int .i64 ((rd_T117 l0_0 x3_2).f1))).heap[gb171]? = some (.cells #[.slice (some ad173) l0_0.length c0_0, .slice A0_1 l0_1.length c0_1] 47 (0, 0))) := ⟨ks BK171⟩; have n1_ : Aside0 (((w52.setCell ⟨gb174, 0, none⟩ (.string ((rd_T117 l0_0 x3_2).f0))).setCell ⟨gb174, 1, none⟩ (.int .i64 ((rd_T117 l0_0 x3_2).f1))).heap[gb174]? = some (.cells #[.string ((rd_T117 l0_0 x3_2).f0), .int .i64 ((rd_T117 l0_0 x3_2).f1)] 117 (0, 0))) := ⟨kp BK174⟩; have n2_ : Aside0 (Below w.heap.size w ((w52.setCell ⟨gb174, 0, none⟩ (.string ((rd_T117 l0_0 x3_2).f0))).setCell ⟨gb174, 1, none⟩ (.int .i64 ((rd_T117 l0_0 x3_2).f1)))) := ⟨bs HB⟩; (try clear BK171); (try clear BK174); (try clear HB)
                  generalize ((w52.setCell ⟨gb174, 0, none⟩ (.string ((rd_T117 l0_0 x3_2).f0))).setCell ⟨gb174, 1, none⟩ (.int .i64 ((rd_T117 l0_0 x3_2).f1))) = w55 at n0_ n1_ n2_ ⊢
                  have BK171 := n0_; have BK174 := n1_; have HB := n2_; clear n0_ n1_ n2_; replace BK171 := Aside0.mk (blk_drew BK171.out); replace BK174 := Aside0.mk (blk_drew BK174.out); replace HB := Aside0.mk (below_drew1 HB.out); refine start_ (n := 30) (S := fun w' => w'.cell? ⟨gb174, 0, none⟩ = some (.string ((rd_T117 l0_0 x3_2).f0)) ∧ w'.cell? ⟨gb174, 1, none⟩ = some (.int .i64 ((rd_T117 l0_0 x3_2).f1))) (ds := []) #[false, false, false, false, false, false, false, false, false, false, false, false, false, false, false, false, false, false, false, false, false, false, false, false, false, false, false, false, false, false] (by kernel_rfl) rfl rfl ⟨(blk_cell BK174.out 0).trans rfl, (blk_cell BK174.out 1).trans rfl⟩ (fun hHeld => ?_); refine with_tabW spec_BookRight.tab7 spec_BookRight.bits7 (fun HT_ HW_ => ?_)
                  generalize w55.drew = w56 at BK171 BK174 HB hHeld ⊢
                  refine pA 0 27 HT_ ?_; refine tA 1 28 HT_ HW_ hHeld ?_; refine oA 2 29 HT_ (fun K hK => ?_); refine gA Try.func118 #[.string ((rd_T117 l0_0 x3_2).f0)] ?_; (with_reducible refine (spec_l01Name.calls k2 ((rd_T117 l0_0 x3_2).f0) false _ A12.out).mono ?_); rintro e w' ⟨rfl, ⟨nd, rfl⟩⟩; refine ⟨_, rfl, ?_⟩; refine hK.out _ _ ⟨(blk_cell BK174.out 0).trans rfl, (blk_cell BK174.out 1).trans rfl⟩ (fun hHeld => ?_); clear hK K; refine nA 29 ?_; refine pA 3 30 HT_ ?_; refine pA 4 31 HT_ ?_; refine pB 5 32 HT_ ?_; refine pB 6 33 HT_ ?_; refine pB 7 34 HT_ ?_; refine pA 8 35 HT_ ?_; refine pA 9 36 HT_ ?_; refine pB 10 37 HT_ ?_; refine pB 11 38 HT_ ?_; refine pB 12 39 HT_ ?_; refine pA 13 40 HT_ ?_; refine pA 14 41 HT_ ?_; refine pB 15 42 HT_ ?_; refine pB 16 43 HT_ ?_; refine pB 17 44 HT_ ?_; refine pB 18 45 HT_ ?_; refine pB 19 46 HT_ ?_; refine pB 20 47 HT_ ?_; refine pB 21 48 HT_ ?_; refine pB 22 49 HT_ ?_; refine pB 23 50 HT_ ?_; refine pB 24 51 HT_ ?_; refine pB 25 52 HT_ ?_; refine pB 26 53 HT_ ?_; refine pB 27 54 HT_ ?_; refine pB 28 55 HT_ ?_; refine pA 29 56 HT_ ?_; refine done_ (done_of HT_.out (by kernel_rfl)) ?_
                  try go_wp2
                  go_ret
                  exact ⟨ff, bs HB⟩
              · rw [if_neg c11] at H
                exact absurd H (by simp)
            · rw [if_neg c10] at H; have c10b0 : decide (x3_2 < (l0_0.length : Int)) = false := decide_eq_false c10; clear c10; obtain rfl := Option.some.inj H; obtain ⟨hcz57_0, hcz57_1, hfz57_0, hfz57_1⟩ := cf2 BK171
              go_wp2
              go_ret
              exact ⟨ff, bs HB⟩
end Go.Proofs.Ytefmkmhjbfpelaa.QM
namespace Go.Proofs.Ytefmkmhjbfpelaa.QM
open Go.RowKit Go.Proofs.YtefmkmhjbfpelaaW.PrintWords Go.Proofs.YtefmkmhjbfpelaaW.PrintLast Go.Proofs.YtefmkmhjbfpelaaW.PrintMore
attribute [local go_sem] max2_int min2_int max_two min_two max_three min_three max_four min_four   -- for this text's walks alone
set_option linter.unusedVariables false
set_option linter.unusedSimpArgs false
set_option maxHeartbeats 8000000 in
set_option maxRecDepth 100000 in
theorem spec_l10Stock.calls (k : Nat) (A0_0 : Option Addr) (c0_0 : Nat) (l0_0 : List (S117)) (A0_1 : Option Addr) (c0_1 : Nat) (l0_1 : List (S54)) (a1 : ByteArray) (r : Int) (w : World) (hr0_0 : Kd.C k117 w A0_0 l0_0.length l0_0) (hc0_0 : l0_0.length ≤ c0_0) (hr0_1 : Kd.C k54 w A0_1 l0_1.length l0_1) (hc0_1 : l0_1.length ≤ c0_1) (h : spec_l10Stock.f k l0_0 l0_1 a1 = some r) :
    Calls Try.prog 90 #[.agg #[.slice A0_0 l0_0.length c0_0, .slice A0_1 l0_1.length c0_1], .string a1] w fun e w' => e = .returned (.int .i64 r) ∧ Below w.heap.size w w' := by
  have hu47 := Try.underlying47; have HR0_0 := Aside0.mk hr0_0; have HC0_0 := Aside0.mk hc0_0; clear hr0_0 hc0_0; have HR0_1 := Aside0.mk hr0_1; have HC0_1 := Aside0.mk hc0_1; clear hr0_1 hc0_1; have HB := Aside0.mk (Below.refl w.heap.size w); have H : (spec_l10Stock.l0 k a1 0 l0_0 l0_1) = some r := h; clear h; have H' := Aside0.mk H; clear H
  go_enter Try.func90, Try.ntmps90
  go_wp2_with (first | ((with_reducible refine gate_dst (N := 2) rfl ?_); refine bx 2 (cs := #[.slice A0_0 l0_0.length c0_0, .slice A0_1 l0_1.length c0_1]) (t := 47) ?_; intro gb177 hg w3 hbox hb; have BK177 := Aside0.mk (hbox); have GW177 := Aside0.mk ((gs hg (bs HB))); have GE177 := Aside0.mk ((gs hg (bs HB))); replace HB := Aside0.mk (below_step (bs HB) hb); clear hb hbox hg))
  go_loopg [5] k (fun kq v5 w' => ∃ (x5_1 : Int), v5 = .int .i64 x5_1 ∧ Aside0 (spec_l10Stock.l0 kq a1 x5_1 l0_0 l0_1 = some r) ∧ Aside0 (kq ≤ k) ∧ Aside0 (w'.heap[gb177]? = some (.cells #[(.slice A0_0 l0_0.length c0_0), (.slice A0_1 l0_1.length c0_1)] 47 (0, 0))) ∧ Aside0 (Below w.heap.size w w'))
  case atStart => exact ⟨(0), fg, H', ⟨Nat.le_refl _⟩, ⟨ks BK177⟩, ⟨bs HB⟩⟩
  case round =>
    clear H'
    try clear p2
    obtain ⟨x5_1, rfl, HA, HK1, BK177, HB⟩ := hrel
    cases gk with
    | zero => exact absurd HA.out (by simp [spec_l10Stock.l0])
    | succ k1 =>
      have H := HA.out; clear HA; simp only [spec_l10Stock.l0] at H
      by_cases c4 : x5_1 < (l0_0.length : Int)
      · rw [if_pos c4] at H; have c4b0 : decide (x5_1 < (l0_0.length : Int)) = true := decide_eq_true c4; clear c4
        by_cases c5 : 0 ≤ x5_1
        · rw [if_pos c5] at H; have c5b0 : decide (0 ≤ x5_1) = true := decide_eq_true c5; clear c5
          by_cases c6 : ((rd_T117 l0_0 x5_1).f0).toList = a1.toList
          · rw [if_pos c6] at H; have c6b0 : (((rd_T117 l0_0 x5_1).f0).toList == a1.toList) = true := beq_iff_eq.mpr c6; have c6b1 : (((rd_T117 l0_0 x5_1).f0).toList != a1.toList) = false := bne_eq_false_iff_eq.mpr c6; clear c6; obtain rfl := Option.some.inj H; obtain ⟨hcz7_0, hcz7_1, hfz7_0, hfz7_1⟩ := cf2 BK177; have p178 : 0 ≤ (x5_1 : Int) := oa; have q178 : x5_1 < (l0_0.length : Int) := oa; obtain ⟨ad178, e178, hx178_0, hx178_1⟩ := at_T117 HR0_0.out x5_1 p178 q178
            cases e178
            replace hx178_0 := cb HB hx178_0; replace hx178_1 := cb HB hx178_1; replace p178 := eq_true p178; replace q178 := eq_true q178
            go_wp2
            go_ret
            exact ⟨ff, bs HB⟩
          · rw [if_neg c6] at H; have c6b0 : (((rd_T117 l0_0 x5_1).f0).toList == a1.toList) = false := beq_eq_false_iff_ne.mpr c6; have c6b1 : (((rd_T117 l0_0 x5_1).f0).toList != a1.toList) = true := bne_iff_ne.mpr c6; have H' := Aside0.mk H; clear H; obtain ⟨hcz8_0, hcz8_1, hfz8_0, hfz8_1⟩ := cf2 BK177; have p178 : 0 ≤ (x5_1 : Int) := oa; have q178 : x5_1 < (l0_0.length : Int) := oa; obtain ⟨ad178, e178, hx178_0, hx178_1⟩ := at_T117 HR0_0.out x5_1 p178 q178
            cases e178
            replace hx178_0 := cb HB hx178_0; replace hx178_1 := cb HB hx178_1; replace p178 := eq_true p178; replace q178 := eq_true q178
            go_wp2
            go_roundg k1
            case measure => have := HK1.out; omega
            case rel => exact ⟨(wrap64 (x5_1 + 1)), fg, H', ⟨by have := HK1.out; omega⟩, ⟨ks BK177⟩, ⟨bs HB⟩⟩
        · rw [if_neg c5] at H
          exact absurd H (by simp)
      · rw [if_neg c4] at H; have c4b0 : decide (x5_1 < (l0_0.length : Int)) = false := decide_eq_false c4; clear c4; obtain rfl := Option.some.inj H; obtain ⟨hcz9_0, hcz9_1, hfz9_0, hfz9_1⟩ := cf2 BK177
        go_wp2
        go_ret
        exact ⟨ff, bs HB⟩
end Go.Proofs.Ytefmkmhjbfpelaa.QM
namespace Go.Proofs.Ytefmkmhjbfpelaa.QM
open Go.RowKit Go.Proofs.YtefmkmhjbfpelaaW.PrintWords Go.Proofs.YtefmkmhjbfpelaaW.PrintLast Go.Proofs.YtefmkmhjbfpelaaW.PrintMore
attribute [local go_sem] max2_int min2_int max_two min_two max_three min_three max_four min_four   -- for this text's walks alone
set_option linter.unusedVariables false
set_option linter.unusedSimpArgs false
def spec_BookHand.T3 : Bool × List (List Nat × List Nat) := (true, [([], []), ([0], [0]), ([], []), ([], []), ([2, 3], [2, 3]), ([1, 4], [1, 4]), ([5], [5]), ([6], [6]), ([7, 4, 0, 1, 2, 3, 4, 5, 6, 7], [7])])
def spec_BookHand.B3 : List Nat := [0, 1, 0, 0, 12, 31, 63, 127, 255]
theorem spec_BookHand.tab3 : rtab .any (opsOf Try.f29 3) = spec_BookHand.T3 := by kernel_rfl
theorem spec_BookHand.bits3 : waitsOk spec_BookHand.T3.2 spec_BookHand.B3 = true := by kernel_rfl
set_option maxHeartbeats 8000000 in
set_option maxRecDepth 100000 in
theorem spec_BookHand.calls (k : Nat) (A0_0 : Option Addr) (c0_0 : Nat) (l0_0 : List (S117)) (A0_1 : Option Addr) (c0_1 : Nat) (l0_1 : List (S54)) (a1 : ByteArray) (r : Int) (w : World) (hr0_0 : Kd.C k117 w A0_0 l0_0.length l0_0) (hc0_0 : l0_0.length ≤ c0_0) (hr0_1 : Kd.C k54 w A0_1 l0_1.length l0_1) (hc0_1 : l0_1.length ≤ c0_1) (h : spec_BookHand.f k l0_0 l0_1 a1 = some r) :
    Calls Try.prog 29 #[.agg #[.slice A0_0 l0_0.length c0_0, .slice A0_1 l0_1.length c0_1], .string a1] w fun e w' => e = .returned (.int .i64 r) ∧ Below w.heap.size w w' := by
  have hu47 := Try.underlying47; have HR0_0 := Aside0.mk hr0_0; have HC0_0 := Aside0.mk hc0_0; clear hr0_0 hc0_0; have HR0_1 := Aside0.mk hr0_1; have HC0_1 := Aside0.mk hc0_1; clear hr0_1 hc0_1; have HB := Aside0.mk (Below.refl w.heap.size w); have H : (if (a1.size : Int) > 20000 then (some 0) else ((spec_BookRight.f k l0_0 l0_1).bind fun t180 => (if t180 = true then ((spec_l10Stock.f k l0_0 l0_1 a1).bind fun t181 => (if t181 < 0 then (some 0) else ((spec_l10Stock.f k l0_0 l0_1 a1).bind fun t182 => (if 0 ≤ t182 then (if t182 < (l0_0.length : Int) then (some ((rd_T117 l0_0 t182).f1)) else (none)) else (none))))) else (some 0)))) = some r := h; clear h
  by_cases c3 : (a1.size : Int) > 20000
  · rw [if_pos c3] at H; have c3b0 : decide (20000 < (a1.size : Int)) = true := decide_eq_true c3; have c3b1 : decide (20000 < a1.size) = true := decide_eq_true (by omega); clear c3; obtain rfl := Option.some.inj H
    go_enter Try.func29, Try.ntmps29
    go_wp2_with (first | ((with_reducible refine gate_dst (N := 2) rfl ?_); refine bx 2 (cs := #[.slice A0_0 l0_0.length c0_0, .slice A0_1 l0_1.length c0_1]) (t := 47) ?_; intro gb179 hg w4 hbox hb; have BK179 := Aside0.mk (hbox); have GW179 := Aside0.mk ((gs hg (bs HB))); have GE179 := Aside0.mk ((gs hg (bs HB))); replace HB := Aside0.mk (below_step (bs HB) hb); clear hb hbox hg))
    go_ret
    exact ⟨ff, bs HB⟩
  · rw [if_neg c3] at H; have c3b0 : decide (20000 < (a1.size : Int)) = false := decide_eq_false c3; have c3b1 : decide (20000 < a1.size) = false := decide_eq_false (by omega); clear c3; replace H := Option.bind_eq_some_iff.mp H; obtain ⟨t180, A50, H⟩ := H; replace H : (if t180 = true then ((spec_l10Stock.f k l0_0 l0_1 a1).bind fun t181 => (if t181 < 0 then (some 0) else ((spec_l10Stock.f k l0_0 l0_1 a1).bind fun t182 => (if 0 ≤ t182 then (if t182 < (l0_0.length : Int) then (some ((rd_T117 l0_0 t182).f1)) else (none)) else (none))))) else (some 0)) = some r := H; have A5 := Aside0.mk A50; clear A50
    go_enter Try.func29, Try.ntmps29
    try go_wp2_with (first | ((with_reducible refine gate_dst (N := 2) rfl ?_); refine bx 2 (cs := #[.slice A0_0 l0_0.length c0_0, .slice A0_1 l0_1.length c0_1]) (t := 47) ?_; intro gb179 hg w6 hbox hb; have BK179 := Aside0.mk (hbox); have GW179 := Aside0.mk ((gs hg (bs HB))); have GE179 := Aside0.mk ((gs hg (bs HB))); replace HB := Aside0.mk (below_step (bs HB) hb); clear hb hbox hg; obtain ⟨hcz7_0, hcz7_1, hfz7_0, hfz7_1⟩ := cf2 BK179))
    go_at_call 60; (with_reducible refine (spec_BookRight.calls k _ _ l0_0 _ _ l0_1 t180 _ (Kd.C_below HR0_0.out (bs HB)) HC0_0.out (Kd.C_below HR0_1.out (bs HB)) HC0_1.out A5.out).mono ?_); rintro e w8 ⟨rfl, hb⟩; replace BK179 := Aside0.mk (blk_below (ks BK179) hb); replace HB := Aside0.mk (below_step (bs HB) hb); (try clear hb); (try clear hb2); (try clear hk); (try clear hi)
    by_cases c9 : t180 = true
    · subst c9
      have H1 : ((spec_l10Stock.f k l0_0 l0_1 a1).bind fun t181 => (if t181 < 0 then (some 0) else ((spec_l10Stock.f k l0_0 l0_1 a1).bind fun t182 => (if 0 ≤ t182 then (if t182 < (l0_0.length : Int) then (some ((rd_T117 l0_0 t182).f1)) else (none)) else (none))))) = some r := by rw [if_pos rfl] at H; exact H
      clear H; have H := H1; clear H1; replace H := Option.bind_eq_some_iff.mp H; obtain ⟨t181, A100, H⟩ := H; replace H : (if t181 < 0 then (some 0) else ((spec_l10Stock.f k l0_0 l0_1 a1).bind fun t182 => (if 0 ≤ t182 then (if t182 < (l0_0.length : Int) then (some ((rd_T117 l0_0 t182).f1)) else (none)) else (none)))) = some r := H; have A10 := Aside0.mk A100; clear A100; obtain ⟨hcz11_0, hcz11_1, hfz11_0, hfz11_1⟩ := cf2 BK179
      try go_wp2_with (fail)
      go_at_call 90; (with_reducible refine (spec_l10Stock.calls k _ _ l0_0 _ _ l0_1 a1 t181 _ (Kd.C_below HR0_0.out (bs HB)) HC0_0.out (Kd.C_below HR0_1.out (bs HB)) HC0_1.out A10.out).mono ?_); rintro e w12 ⟨rfl, hb⟩; replace BK179 := Aside0.mk (blk_below (ks BK179) hb); replace HB := Aside0.mk (below_step (bs HB) hb); (try clear hb); (try clear hb2); (try clear hk); (try clear hi)
      by_cases c13 : t181 < 0
      · rw [if_pos c13] at H; have c13b0 : decide (t181 < 0) = true := decide_eq_true c13; clear c13; obtain rfl := Option.some.inj H
        go_wp2
        go_ret
        exact ⟨ff, bs HB⟩
      · rw [if_neg c13] at H; have c13b0 : decide (t181 < 0) = false := decide_eq_false c13; clear c13; replace H := Option.bind_eq_some_iff.mp H; obtain ⟨t182, A140, H⟩ := H; replace H : (if 0 ≤ t182 then (if t182 < (l0_0.length : Int) then (some ((rd_T117 l0_0 t182).f1)) else (none)) else (none)) = some r := H; have A14 := Aside0.mk A140; clear A140
        by_cases c15 : 0 ≤ t182
        · rw [if_pos c15] at H; have c15b0 : decide (0 ≤ t182) = true := decide_eq_true c15; clear c15
          by_cases c16 : t182 < (l0_0.length : Int)
          · rw [if_pos c16] at H; have c16b0 : decide (t182 < (l0_0.length : Int)) = true := decide_eq_true c16; clear c16; obtain rfl := Option.some.inj H
            try go_wp2
            replace BK179 := Aside0.mk (blk_drew BK179.out); replace HB := Aside0.mk (below_drew1 HB.out); have p183 : 0 ≤ (t182 : Int) := oa; have q183 : t182 < (l0_0.length : Int) := oa; obtain ⟨ad183, e183, hx183_0, hx183_1⟩ := at_T117 HR0_0.out t182 p183 q183; have hw183_1 := hx183_1; have hw183_0 := hx183_0
            cases e183
            replace hx183_0 := cb HB hx183_0; replace hx183_1 := cb HB hx183_1; replace p183 := eq_true p183; replace q183 := eq_true q183; refine start_ (n := 9) (S := fun w' => w'.cell? ⟨gb179, 0, none⟩ = some (.slice (some ad183) l0_0.length c0_0) ∧ w'.cell? ⟨gb179, 1, none⟩ = some (.slice A0_1 l0_1.length c0_1) ∧ w'.cell? (ad183.add ((t182).toNat * 2)) = some (.string ((rd_T117 l0_0 t182).f0)) ∧ w'.cell? ⟨(ad183.add ((t182).toNat * 2)).block, (ad183.add ((t182).toNat * 2)).off + 1, none⟩ = some (.int .i64 ((rd_T117 l0_0 t182).f1))) (ds := []) #[false, false, false, false, false, false, false, false, false] (by kernel_rfl) rfl rfl ⟨(blk_cell BK179.out 0).trans rfl, (blk_cell BK179.out 1).trans rfl, ((cb HB hw183_0).trans rfl), ((cb HB hw183_1).trans rfl)⟩ (fun hHeld => ?_); refine with_tabW spec_BookHand.tab3 spec_BookHand.bits3 (fun HT_ HW_ => ?_)
            generalize w12.drew = w17 at BK179 HB hx183_0 hx183_1 hHeld ⊢
            refine pA 0 19 HT_ ?_; refine pA 3 22 HT_ ?_; refine tA 1 20 HT_ HW_ hHeld ?_; refine tA 2 21 HT_ HW_ hHeld ?_; refine oA 4 23 HT_ (fun K hK => ?_); refine gA Try.func90 #[.agg #[.slice (some ad183) l0_0.length c0_0, .slice A0_1 l0_1.length c0_1], .string a1] ?_; (with_reducible refine (spec_l10Stock.calls k _ _ l0_0 _ _ l0_1 a1 t182 _ ?side1 ?side2 ?side3 ?side4 A14.out).mono ?_)
            (case side1 => repeat (first | exact (Kd.C_below HR0_0.out HB.out) | (with_reducible refine Kd.C_alloc ?_ _) | (with_reducible refine Kd.C_drewN ?_ _) | (with_reducible refine Kd.C_drew ?_)))
            (case side2 => exact HC0_0.out)
            (case side3 => repeat (first | exact (Kd.C_below HR0_1.out HB.out) | (with_reducible refine Kd.C_alloc ?_ _) | (with_reducible refine Kd.C_drewN ?_ _) | (with_reducible refine Kd.C_drew ?_)))
            (case side4 => exact HC0_1.out)
            rintro e w18 ⟨rfl, hb⟩; refine ⟨_, rfl, ?_⟩; replace BK179 := Aside0.mk (blk_below (ks BK179) hb); replace HB := Aside0.mk (below_step (bs HB) hb); (try clear hb); (try clear hb2); (try clear hk); (try clear hi); refine hK.out _ _ ⟨(blk_cell BK179.out 0).trans rfl, (blk_cell BK179.out 1).trans rfl, ((cb HB hw183_0).trans rfl), ((cb HB hw183_1).trans rfl)⟩ (fun hHeld => ?_); clear hK K; refine nA 23 ?_; refine pA 5 24 HT_ ?_; refine pA 6 25 HT_ ?_; refine tA 7 26 HT_ HW_ hHeld ?_; refine pA 8 4 HT_ ?_; refine done_ (done_of HT_.out (by kernel_rfl)) ?_
            try go_wp2
            go_ret
            exact ⟨ff, bs HB⟩
          · rw [if_neg c16] at H
            exact absurd H (by simp)
        · rw [if_neg c15] at H
          exact absurd H (by simp)
    · replace c9 := Bool.eq_false_iff.mpr c9; subst c9
      have H1 : (some 0) = some r := by rw [if_neg (show ¬ (false = true) by decide)] at H; exact H
      clear H; have H := H1; clear H1; obtain rfl := Option.some.inj H
      go_wp2
      go_ret
      exact ⟨ff, bs HB⟩
end Go.Proofs.Ytefmkmhjbfpelaa.QM
