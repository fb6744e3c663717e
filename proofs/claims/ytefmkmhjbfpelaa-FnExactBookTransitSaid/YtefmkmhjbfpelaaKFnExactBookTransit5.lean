-- Merged by a program of this session (wip/tool/pack.py) out of its own texts for this claim.
import Derived.Test.YtefmkmhjbfpelaaKFnExactBookTransit0
import Derived.Test.YtefmkmhjbfpelaaKFnExactBookTransit1
import Derived.Test.YtefmkmhjbfpelaaKFnExactBookTransit2
import Derived.Test.YtefmkmhjbfpelaaKFnExactBookTransit3
import Derived.Test.YtefmkmhjbfpelaaKFnExactBookTransit4
namespace Go.Proofs.Ytefmkmhjbfpelaa.QT
open Go.RowKit Go.Proofs.YtefmkmhjbfpelaaW.PrintWords Go.Proofs.YtefmkmhjbfpelaaW.PrintLast Go.Proofs.YtefmkmhjbfpelaaW.PrintMore
attribute [local go_sem] max2_int min2_int max_two min_two max_three min_three max_four min_four   -- for this text's walks alone
set_option linter.unusedVariables false
set_option linter.unusedSimpArgs false
def spec_BookRight.T7 : Bool × List (List Nat × List Nat) := (true, [([], []), ([0], [0]), ([1], [1]), ([2], [2]), ([3, 2], [3]), ([4], [4]), ([5, 4], [4, 5]), ([6, 4], [4, 6]), ([4, 7], [4, 7]), ([8, 4], [8]), ([9], [9]), ([10, 9], [9, 10]), ([11, 9], [9, 11]), ([9, 12], [9, 12]), ([13, 9], [13]), ([14], [14]), ([15, 14], [14, 15]), ([16, 14, 14], [14, 16]), ([17], [17]), ([18, 17], [17, 18]), ([17], [17]), ([20, 17], [17, 20]), ([17], [17]), ([22, 17], [17, 22]), ([21, 23, 17], [17, 21, 23]), ([24, 17], [17, 24]), ([25, 17], [17, 25]), ([19, 26, 17], [17, 19, 26]), ([17, 27, 14], [14, 17, 27]), ([14, 28], [14, 28])])
def spec_BookRight.B7 : List Nat := [0, 1, 3, 7, 15, 31, 63, 127, 255, 511, 1023, 2047, 4095, 8191, 16383, 32767, 65535, 131071, 262143, 524287, 262143, 1310719, 262143, 4456447, 15990783, 32767999, 66322431, 134217727, 268435455, 536870911]
theorem spec_BookRight.tab7 : rtab .any (opsOf Try.f60 7) = spec_BookRight.T7 := by kernel_rfl
theorem spec_BookRight.bits7 : waitsOk spec_BookRight.T7.2 spec_BookRight.B7 = true := by kernel_rfl
set_option maxHeartbeats 8000000 in
set_option maxRecDepth 100000 in
theorem spec_BookRight.calls (k : Nat) (A0_0 : Option Addr) (c0_0 : Nat) (l0_0 : List (S117)) (A0_1 : Option Addr) (c0_1 : Nat) (l0_1 : List (S54)) (r : Bool) (w : World) (hr0_0 : Kd.C k117 w A0_0 l0_0.length l0_0) (hc0_0 : l0_0.length ≤ c0_0) (hr0_1 : Kd.C k54 w A0_1 l0_1.length l0_1) (hc0_1 : l0_1.length ≤ c0_1) (h : spec_BookRight.f k l0_0 l0_1 = some r) :
    Calls Try.prog 60 #[.agg #[.slice A0_0 l0_0.length c0_0, .slice A0_1 l0_1.length c0_1]] w fun e w' => e = .returned (.bool r) ∧ Below w.heap.size w w' := by
  have hu47 := Try.underlying47; have hu117 := Try.underlying117; have HR0_0 := Aside0.mk hr0_0; have HC0_0 := Aside0.mk hc0_0; clear hr0_0 hc0_0; have HR0_1 := Aside0.mk hr0_1; have HC0_1 := Aside0.mk hc0_1; clear hr0_1 hc0_1; have HB := Aside0.mk (Below.refl w.heap.size w); have H : (if (l0_0.length : Int) > 100 then (spec_BookRight.j0 k true l0_0 l0_1) else ((spec_LinesRight.f k l0_1).bind fun t158 => (spec_BookRight.j0 k (!t158) l0_0 l0_1))) = some r := h; clear h; have HC2 := Aside0.mk H; clear H
  go_enter Try.func60, Try.ntmps60
  go_upto_region 1 with (first | ((with_reducible refine gate_dst (N := 1) rfl ?_); refine bx 1 (cs := #[.slice A0_0 l0_0.length c0_0, .slice A0_1 l0_1.length c0_1]) (t := 47) ?_; intro gb157 hg w3 hbox hb; have BK157 := Aside0.mk (hbox); have GW157 := Aside0.mk ((gs hg (bs HB))); have GE157 := Aside0.mk ((gs hg (bs HB))); replace HB := Aside0.mk (below_step (bs HB) hb); clear hb hbox hg))
  (try simp only [Act.put, List.setIfInBounds_toArray, List.set_cons_zero, List.set_cons_succ])
  go_cut [14] (fun v14 wc => ∃ (kq : Nat) (x14_1 : Bool), v14 = .bool x14_1 ∧ Aside0 (spec_BookRight.j0 kq x14_1 l0_0 l0_1 = some r) ∧ Aside0 (kq ≤ k) ∧ Aside0 (wc.heap[gb157]? = some (.cells #[(.slice A0_0 l0_0.length c0_0), (.slice A0_1 l0_1.length c0_1)] 47 (0, 0))) ∧ Aside0 (Below w.heap.size w wc))
  case first =>
    have H := HC2.out; clear HC2
    by_cases c4 : (l0_0.length : Int) > 100
    · rw [if_pos c4] at H; have c4b0 : decide (100 < (l0_0.length : Int)) = true := decide_eq_true c4; have c4b1 : decide (100 < l0_0.length) = true := decide_eq_true (by omega); clear c4
      (first | rw [c4b0] | (simp only [i64_w, i32_w]; rw [c4b0]) | skip)
      have H' := Aside0.mk H; clear H; obtain ⟨hcz5_0, hcz5_1, hfz5_0, hfz5_1⟩ := cf2 BK157
      go_wp2
      go_meet
      case rel => exact ⟨_, (true), fg, H', ⟨fl⟩, ⟨ks BK157⟩, ⟨bs HB⟩⟩
    · rw [if_neg c4] at H; have c4b0 : decide (100 < (l0_0.length : Int)) = false := decide_eq_false c4; have c4b1 : decide (100 < l0_0.length) = false := decide_eq_false (by omega); clear c4
      (first | rw [c4b0] | (simp only [i64_w, i32_w]; rw [c4b0]) | skip)
      replace H := Option.bind_eq_some_iff.mp H; obtain ⟨t158, A60, H⟩ := H; replace H : (spec_BookRight.j0 k (!t158) l0_0 l0_1) = some r := H; have A6 := Aside0.mk A60; clear A60; have H' := Aside0.mk H; clear H; obtain ⟨hcz7_0, hcz7_1, hfz7_0, hfz7_1⟩ := cf2 BK157
      go_wp2_with (first | (go_at_call 34; (with_reducible refine (spec_LinesRight.calls k _ _ l0_1 t158 _ (Kd.C_below HR0_1.out (bs HB)) HC0_1.out A6.out).mono ?_); rintro e w8 ⟨rfl, hb⟩; replace BK157 := Aside0.mk (blk_below (ks BK157) hb); replace HB := Aside0.mk (below_step (bs HB) hb); (try clear hb); (try clear hb2); (try clear hk); (try clear hi)))
      go_meet
      case rel => exact ⟨_, (!t158), fg, H', ⟨fl⟩, ⟨ks BK157⟩, ⟨bs HB⟩⟩
  case rest =>
    clear HC2
    try clear p2
    try clear c4
    try clear c4b0
    try clear c4b1
    try clear c6
    try clear hcz5_0
    try clear hcz5_1
    try clear hcz7_0
    try clear hcz7_1
    try clear hfz5_0
    try clear hfz5_1
    try clear hfz7_0
    try clear hfz7_1
    obtain ⟨kq, x14_1, rfl, HA, HJ1, BK157, HB⟩ := hcut
    cases kq with
    | zero => exact absurd HA.out (by simp [spec_BookRight.j0])
    | succ kj1 =>
      have H := HA.out; clear HA; simp only [spec_BookRight.j0] at H
      by_cases c9 : x14_1 = true
      · subst c9
        have H1 : (some false) = some r := by rw [if_pos rfl] at H; exact H
        clear H; have H := H1; clear H1; obtain rfl := Option.some.inj H
        go_wp2
        go_ret
        exact ⟨ff, bs HB⟩
      · replace c9 := Bool.eq_false_iff.mpr c9; subst c9
        have H1 : (spec_BookRight.l0 kj1 0 l0_0 l0_1) = some r := by rw [if_neg (show ¬ (false = true) by decide)] at H; exact H
        clear H; have H := H1; clear H1; have H' := Aside0.mk H; clear H
        go_wp2
        go_loopg [3] kj1 (fun kq v3 w' => ∃ (x3_2 : Int), v3 = .int .i64 x3_2 ∧ Aside0 (spec_BookRight.l0 kq x3_2 l0_0 l0_1 = some r) ∧ Aside0 (kq ≤ kj1) ∧ Aside0 (w'.heap[gb157]? = some (.cells #[(.slice A0_0 l0_0.length c0_0), (.slice A0_1 l0_1.length c0_1)] 47 (0, 0))) ∧ Aside0 (Below w.heap.size w w'))
        case atStart => exact ⟨(0), fg, H', ⟨Nat.le_refl _⟩, ⟨ks BK157⟩, ⟨bs HB⟩⟩
        case round =>
          clear H'
          try clear p2
          try clear c4
          try clear c4b0
          try clear c4b1
          try clear c6
          try clear c9
          try clear hcz5_0
          try clear hcz5_1
          try clear hcz7_0
          try clear hcz7_1
          try clear hfz5_0
          try clear hfz5_1
          try clear hfz7_0
          try clear hfz7_1
          try clear p2
          obtain ⟨x3_2, rfl, HA, HK2, BK157, HB⟩ := hrel
          cases gk with
          | zero => exact absurd HA.out (by simp [spec_BookRight.l0])
          | succ k2 =>
            have H := HA.out; clear HA; simp only [spec_BookRight.l0] at H
            by_cases c10 : x3_2 < (l0_0.length : Int)
            · rw [if_pos c10] at H; have c10b0 : decide (x3_2 < (l0_0.length : Int)) = true := decide_eq_true c10; clear c10
              by_cases c11 : 0 ≤ x3_2
              · rw [if_pos c11] at H; have c11b0 : decide (0 ≤ x3_2) = true := decide_eq_true c11; clear c11; replace H := Option.bind_eq_some_iff.mp H; obtain ⟨t161, A120, H⟩ := H; replace H : (if t161 = true then (if ((rd_T117 l0_0 x3_2).f1) < 0 then (some false) else (if ((rd_T117 l0_0 x3_2).f1) > 1000000000 then (some false) else (if x3_2 > 0 then (if 0 ≤ (wrap64 (x3_2 - 1)) then (if (wrap64 (x3_2 - 1)) < (l0_0.length : Int) then (if ((Op.bytesLess (((rd_T117 l0_0 (wrap64 (x3_2 - 1))).f0).toList) (((rd_T117 l0_0 x3_2).f0).toList)) = true) then (spec_BookRight.l0 k2 (wrap64 (x3_2 + 1)) l0_0 l0_1) else (some false)) else (none)) else (none)) else (spec_BookRight.l0 k2 (wrap64 (x3_2 + 1)) l0_0 l0_1)))) else (some false)) = some r := H; have A12 := Aside0.mk A120; clear A120
                by_cases c13 : t161 = true
                · subst c13
                  have H1 : (if ((rd_T117 l0_0 x3_2).f1) < 0 then (some false) else (if ((rd_T117 l0_0 x3_2).f1) > 1000000000 then (some false) else (if x3_2 > 0 then (if 0 ≤ (wrap64 (x3_2 - 1)) then (if (wrap64 (x3_2 - 1)) < (l0_0.length : Int) then (if ((Op.bytesLess (((rd_T117 l0_0 (wrap64 (x3_2 - 1))).f0).toList) (((rd_T117 l0_0 x3_2).f0).toList)) = true) then (spec_BookRight.l0 k2 (wrap64 (x3_2 + 1)) l0_0 l0_1) else (some false)) else (none)) else (none)) else (spec_BookRight.l0 k2 (wrap64 (x3_2 + 1)) l0_0 l0_1)))) = some r := by rw [if_pos rfl] at H; exact H
                  clear H; have H := H1; clear H1
                  by_cases c14 : ((rd_T117 l0_0 x3_2).f1) < 0
                  · rw [if_pos c14] at H; have c14b0 : decide (((rd_T117 l0_0 x3_2).f1) < 0) = true := decide_eq_true c14; clear c14; obtain rfl := Option.some.inj H; obtain ⟨hcz15_0, hcz15_1, hfz15_0, hfz15_1⟩ := cf2 BK157; have p159 : 0 ≤ (x3_2 : Int) := oa; have q159 : x3_2 < (l0_0.length : Int) := oa; obtain ⟨ad159, e159, hx159_0, hx159_1⟩ := at_T117 HR0_0.out x3_2 p159 q159
                    cases e159
                    replace hx159_0 := cb HB hx159_0; replace hx159_1 := cb HB hx159_1; replace p159 := eq_true p159; replace q159 := eq_true q159
                    try go_wp2_with (first | ((with_reducible refine gate_dst (N := 4) rfl ?_); refine bx 4 (cs := #[.string (⟨#[]⟩ : ByteArray), .int .i64 0]) (t := 117) ?_; intro gb160 hg w16 hbox hb; have BK160 := Aside0.mk (hbox); have GW160 := Aside0.mk ((gs hg (bs HB))); have GE160 := Aside0.mk ((gs hg (bs HB))); replace HB := Aside0.mk (below_step (bs HB) hb); have NB157_160 := Aside0.mk ((gn hg (ks BK157))); have NB160_157 := Aside0.mk ((gm hg (ks BK157))); replace BK157 := Aside0.mk (blk_below (ks BK157) hb); clear hb hbox hg; have hnb17 := NB160_157.out; have hnc17 := NB157_160.out; obtain ⟨hcz18_0, hcz18_1, hfz18_0, hfz18_1⟩ := cf2 BK160))
                    have n0_ : Aside0 (((w16.setCell ⟨gb160, 0, none⟩ (.string ((rd_T117 l0_0 x3_2).f0))).setCell ⟨gb160, 1, none⟩ (.int .i64 ((rd_T117 l0_0 x3_2).f1))).heap[gb157]? = some (.cells #[.slice (some ad159) l0_0.length c0_0, .slice A0_1 l0_1.length c0_1] 47 (0, 0))) := ⟨ks BK157⟩; have n1_ : Aside0 (((w16.setCell ⟨gb160, 0, none⟩ (.string ((rd_T117 l0_0 x3_2).f0))).setCell ⟨gb160, 1, none⟩ (.int .i64 ((rd_T117 l0_0 x3_2).f1))).heap[gb160]? = some (.cells #[.string ((rd_T117 l0_0 x3_2).f0), .int .i64 ((rd_T117 l0_0 x3_2).f1)] 117 (0, 0))) := ⟨kp BK160⟩; have n2_ : Aside0 (Below w.heap.size w ((w16.setCell ⟨gb160, 0, none⟩ (.string ((rd_T117 l0_0 x3_2).f0))).setCell ⟨gb160, 1, none⟩ (.int .i64 ((rd_T117 l0_0 x3_2).f1)))) := ⟨bs HB⟩; (try clear BK157); (try clear BK160); (try clear HB)
                    generalize ((w16.setCell ⟨gb160, 0, none⟩ (.string ((rd_T117 l0_0 x3_2).f0))).setCell ⟨gb160, 1, none⟩ (.int .i64 ((rd_T117 l0_0 x3_2).f1))) = w19 at n0_ n1_ n2_ ⊢
                    have BK157 := n0_; have BK160 := n1_; have HB := n2_; clear n0_ n1_ n2_; replace BK157 := Aside0.mk (blk_drew BK157.out); replace BK160 := Aside0.mk (blk_drew BK160.out); replace HB := Aside0.mk (below_drew1 HB.out); refine start_ (n := 30) (S := fun w' => w'.cell? ⟨gb160, 0, none⟩ = some (.string ((rd_T117 l0_0 x3_2).f0)) ∧ w'.cell? ⟨gb160, 1, none⟩ = some (.int .i64 ((rd_T117 l0_0 x3_2).f1))) (ds := []) #[false, false, false, false, false, false, false, false, false, false, false, false, false, false, false, false, false, false, false, false, false, false, false, false, false, false, false, false, false, false] (by kernel_rfl) rfl rfl ⟨(blk_cell BK160.out 0).trans rfl, (blk_cell BK160.out 1).trans rfl⟩ (fun hHeld => ?_); refine with_tabW spec_BookRight.tab7 spec_BookRight.bits7 (fun HT_ HW_ => ?_)
                    generalize w19.drew = w20 at BK157 BK160 HB hHeld ⊢
                    refine pA 0 27 HT_ ?_; refine tA 1 28 HT_ HW_ hHeld ?_; refine oA 2 29 HT_ (fun K hK => ?_); refine gA Try.func118 #[.string ((rd_T117 l0_0 x3_2).f0)] ?_; (with_reducible refine (spec_l01Name.calls k2 ((rd_T117 l0_0 x3_2).f0) true _ A12.out).mono ?_); rintro e w' ⟨rfl, ⟨nd, rfl⟩⟩; refine ⟨_, rfl, ?_⟩; refine hK.out _ _ ⟨(blk_cell BK160.out 0).trans rfl, (blk_cell BK160.out 1).trans rfl⟩ (fun hHeld => ?_); clear hK K; refine nA 29 ?_; refine pA 3 30 HT_ ?_; refine pA 4 31 HT_ ?_; refine pA 5 32 HT_ ?_; refine tA 6 33 HT_ HW_ hHeld ?_; refine pA 7 34 HT_ ?_; refine pA 8 35 HT_ ?_; refine pA 9 36 HT_ ?_; refine pB 10 37 HT_ ?_; refine pB 11 38 HT_ ?_; refine pB 12 39 HT_ ?_; refine pA 13 40 HT_ ?_; refine pA 14 41 HT_ ?_; refine pB 15 42 HT_ ?_; refine pB 16 43 HT_ ?_; refine pB 17 44 HT_ ?_; refine pB 18 45 HT_ ?_; refine pB 19 46 HT_ ?_; refine pB 20 47 HT_ ?_; refine pB 21 48 HT_ ?_; refine pB 22 49 HT_ ?_; refine pB 23 50 HT_ ?_; refine pB 24 51 HT_ ?_; refine pB 25 52 HT_ ?_; refine pB 26 53 HT_ ?_; refine pB 27 54 HT_ ?_; refine pB 28 55 HT_ ?_; refine pA 29 56 HT_ ?_; refine done_ (done_of HT_.out (by kernel_rfl)) ?_
                    try go_wp2
                    go_ret
                    exact ⟨ff, bs HB⟩
                  · rw [if_neg c14] at H; have c14b0 : decide (((rd_T117 l0_0 x3_2).f1) < 0) = false := decide_eq_false c14; clear c14
                    by_cases c21 : ((rd_T117 l0_0 x3_2).f1) > 1000000000
                    · rw [if_pos c21] at H; have c21b0 : decide (1000000000 < ((rd_T117 l0_0 x3_2).f1)) = true := decide_eq_true c21; clear c21; obtain rfl := Option.some.inj H; obtain ⟨hcz22_0, hcz22_1, hfz22_0, hfz22_1⟩ := cf2 BK157; have p159 : 0 ≤ (x3_2 : Int) := oa; have q159 : x3_2 < (l0_0.length : Int) := oa; obtain ⟨ad159, e159, hx159_0, hx159_1⟩ := at_T117 HR0_0.out x3_2 p159 q159
                      cases e159
                      replace hx159_0 := cb HB hx159_0; replace hx159_1 := cb HB hx159_1; replace p159 := eq_true p159; replace q159 := eq_true q159
                      try go_wp2_with (first | ((with_reducible refine gate_dst (N := 4) rfl ?_); refine bx 4 (cs := #[.string (⟨#[]⟩ : ByteArray), .int .i64 0]) (t := 117) ?_; intro gb160 hg w23 hbox hb; have BK160 := Aside0.mk (hbox); have GW160 := Aside0.mk ((gs hg (bs HB))); have GE160 := Aside0.mk ((gs hg (bs HB))); replace HB := Aside0.mk (below_step (bs HB) hb); have NB157_160 := Aside0.mk ((gn hg (ks BK157))); have NB160_157 := Aside0.mk ((gm hg (ks BK157))); replace BK157 := Aside0.mk (blk_below (ks BK157) hb); clear hb hbox hg; have hnb24 := NB160_157.out; have hnc24 := NB157_160.out; obtain ⟨hcz25_0, hcz25_1, hfz25_0, hfz25_1⟩ := cf2 BK160))
                      have n0_ : Aside0 (((w23.setCell ⟨gb160, 0, none⟩ (.string ((rd_T117 l0_0 x3_2).f0))).setCell ⟨gb160, 1, none⟩ (.int .i64 ((rd_T117 l0_0 x3_2).f1))).heap[gb157]? = some (.cells #[.slice (some ad159) l0_0.length c0_0, .slice A0_1 l0_1.length c0_1] 47 (0, 0))) := ⟨ks BK157⟩; have n1_ : Aside0 (((w23.setCell ⟨gb160, 0, none⟩ (.string ((rd_T117 l0_0 x3_2).f0))).setCell ⟨gb160, 1, none⟩ (.int .i64 ((rd_T117 l0_0 x3_2).f1))).heap[gb160]? = some (.cells #[.string ((rd_T117 l0_0 x3_2).f0), .int .i64 ((rd_T117 l0_0 x3_2).f1)] 117 (0, 0))) := ⟨kp BK160⟩; have n2_ : Aside0 (Below w.heap.size w ((w23.setCell ⟨gb160, 0, none⟩ (.string ((rd_T117 l0_0 x3_2).f0))).setCell ⟨gb160, 1, none⟩ (.int .i64 ((rd_T117 l0_0 x3_2).f1)))) := ⟨bs HB⟩; (try clear BK157); (try clear BK160); (try clear HB)
                      generalize ((w23.setCell ⟨gb160, 0, none⟩ (.string ((rd_T117 l0_0 x3_2).f0))).setCell ⟨gb160, 1, none⟩ (.int .i64 ((rd_T117 l0_0 x3_2).f1))) = w26 at n0_ n1_ n2_ ⊢
                      have BK157 := n0_; have BK160 := n1_; have HB := n2_; clear n0_ n1_ n2_; replace BK157 := Aside0.mk (blk_drew BK157.out); replace BK160 := Aside0.mk (blk_drew BK160.out); replace HB := Aside0.mk (below_drew1 HB.out); refine start_ (n := 30) (S := fun w' => w'.cell? ⟨gb160, 0, none⟩ = some (.string ((rd_T117 l0_0 x3_2).f0)) ∧ w'.cell? ⟨gb160, 1, none⟩ = some (.int .i64 ((rd_T117 l0_0 x3_2).f1))) (ds := []) #[false, false, false, false, false, false, false, false, false, false, false, false, false, false, false, false, false, false, false, false, false, false, false, false, false, false, false, false, false, false] (by kernel_rfl) rfl rfl ⟨(blk_cell BK160.out 0).trans rfl, (blk_cell BK160.out 1).trans rfl⟩ (fun hHeld => ?_); refine with_tabW spec_BookRight.tab7 spec_BookRight.bits7 (fun HT_ HW_ => ?_)
                      generalize w26.drew = w27 at BK157 BK160 HB hHeld ⊢
                      refine pA 0 27 HT_ ?_; refine tA 1 28 HT_ HW_ hHeld ?_; refine oA 2 29 HT_ (fun K hK => ?_); refine gA Try.func118 #[.string ((rd_T117 l0_0 x3_2).f0)] ?_; (with_reducible refine (spec_l01Name.calls k2 ((rd_T117 l0_0 x3_2).f0) true _ A12.out).mono ?_); rintro e w' ⟨rfl, ⟨nd, rfl⟩⟩; refine ⟨_, rfl, ?_⟩; refine hK.out _ _ ⟨(blk_cell BK160.out 0).trans rfl, (blk_cell BK160.out 1).trans rfl⟩ (fun hHeld => ?_); clear hK K; refine nA 29 ?_; refine pA 3 30 HT_ ?_; refine pA 4 31 HT_ ?_; refine pA 5 32 HT_ ?_; refine tA 6 33 HT_ HW_ hHeld ?_; refine pA 7 34 HT_ ?_; refine pA 8 35 HT_ ?_; refine pA 9 36 HT_ ?_; refine pA 10 37 HT_ ?_; refine tA 11 38 HT_ HW_ hHeld ?_; refine pA 12 39 HT_ ?_; refine pA 13 40 HT_ ?_; refine pA 14 41 HT_ ?_; refine pB 15 42 HT_ ?_; refine pB 16 43 HT_ ?_; refine pB 17 44 HT_ ?_; refine pB 18 45 HT_ ?_; refine pB 19 46 HT_ ?_; refine pB 20 47 HT_ ?_; refine pB 21 48 HT_ ?_; refine pB 22 49 HT_ ?_; refine pB 23 50 HT_ ?_; refine pB 24 51 HT_ ?_; refine pB 25 52 HT_ ?_; refine pB 26 53 HT_ ?_; refine pB 27 54 HT_ ?_; refine pB 28 55 HT_ ?_; refine pA 29 56 HT_ ?_; refine done_ (done_of HT_.out (by kernel_rfl)) ?_
                      try go_wp2
                      go_ret
                      exact ⟨ff, bs HB⟩
                    · rw [if_neg c21] at H; have c21b0 : decide (1000000000 < ((rd_T117 l0_0 x3_2).f1)) = false := decide_eq_false c21; clear c21
                      by_cases c28 : x3_2 > 0
                      · rw [if_pos c28] at H; have c28b0 : decide (0 < x3_2) = true := decide_eq_true c28; clear c28; obtain ⟨ji29, hji29⟩ : ∃ j_ : Int, (wrap64 (x3_2 - 1)) = j_ := ⟨_, rfl⟩
                        replace H : (if 0 ≤ (ji29) then (if (ji29) < (l0_0.length : Int) then (if ((Op.bytesLess (((rd_T117 l0_0 (ji29)).f0).toList) (((rd_T117 l0_0 x3_2).f0).toList)) = true) then (spec_BookRight.l0 k2 (wrap64 (x3_2 + 1)) l0_0 l0_1) else (some false)) else (none)) else (none)) = some r := by first | (rw [hji29] at H; exact H) | (simp only [hji29] at H ⊢; exact H)
                        (try rw [hji29] at A12)
                        have hji29w : (IntKind.i64.wrap (x3_2 - 1)) = ji29 := (i64_w _).trans hji29
                        by_cases c30 : 0 ≤ (ji29)
                        · rw [if_pos c30] at H; have c30b0 : decide (0 ≤ (ji29)) = true := decide_eq_true c30; clear c30
                          by_cases c31 : (ji29) < (l0_0.length : Int)
                          · rw [if_pos c31] at H; have c31b0 : decide ((ji29) < (l0_0.length : Int)) = true := decide_eq_true c31; clear c31
                            by_cases c32 : ((Op.bytesLess (((rd_T117 l0_0 (ji29)).f0).toList) (((rd_T117 l0_0 x3_2).f0).toList)) = true)
                            · rw [if_pos c32] at H; have c32b0 : (Op.bytesLess (((rd_T117 l0_0 (ji29)).f0).toList) (((rd_T117 l0_0 x3_2).f0).toList)) = true := c32; clear c32; have H' := Aside0.mk H; clear H; obtain ⟨hcz33_0, hcz33_1, hfz33_0, hfz33_1⟩ := cf2 BK157; have p159 : 0 ≤ (x3_2 : Int) := oa; have q159 : x3_2 < (l0_0.length : Int) := oa; obtain ⟨ad159, e159, hx159_0, hx159_1⟩ := at_T117 HR0_0.out x3_2 p159 q159
                              cases e159
                              replace hx159_0 := cb HB hx159_0; replace hx159_1 := cb HB hx159_1; replace p159 := eq_true p159; replace q159 := eq_true q159
                              try go_wp2_with (first | ((with_reducible refine gate_dst (N := 4) rfl ?_); refine bx 4 (cs := #[.string (⟨#[]⟩ : ByteArray), .int .i64 0]) (t := 117) ?_; intro gb160 hg w34 hbox hb; have BK160 := Aside0.mk (hbox); have GW160 := Aside0.mk ((gs hg (bs HB))); have GE160 := Aside0.mk ((gs hg (bs HB))); replace HB := Aside0.mk (below_step (bs HB) hb); have NB157_160 := Aside0.mk ((gn hg (ks BK157))); have NB160_157 := Aside0.mk ((gm hg (ks BK157))); replace BK157 := Aside0.mk (blk_below (ks BK157) hb); clear hb hbox hg; have hnb35 := NB160_157.out; have hnc35 := NB157_160.out; obtain ⟨hcz36_0, hcz36_1, hfz36_0, hfz36_1⟩ := cf2 BK160))
                              have n0_ : Aside0 (((w34.setCell ⟨gb160, 0, none⟩ (.string ((rd_T117 l0_0 x3_2).f0))).setCell ⟨gb160, 1, none⟩ (.int .i64 ((rd_T117 l0_0 x3_2).f1))).heap[gb157]? = some (.cells #[.slice (some ad159) l0_0.length c0_0, .slice A0_1 l0_1.length c0_1] 47 (0, 0))) := ⟨ks BK157⟩; have n1_ : Aside0 (((w34.setCell ⟨gb160, 0, none⟩ (.string ((rd_T117 l0_0 x3_2).f0))).setCell ⟨gb160, 1, none⟩ (.int .i64 ((rd_T117 l0_0 x3_2).f1))).heap[gb160]? = some (.cells #[.string ((rd_T117 l0_0 x3_2).f0), .int .i64 ((rd_T117 l0_0 x3_2).f1)] 117 (0, 0))) := ⟨kp BK160⟩; have n2_ : Aside0 (Below w.heap.size w ((w34.setCell ⟨gb160, 0, none⟩ (.string ((rd_T117 l0_0 x3_2).f0))).setCell ⟨gb160, 1, none⟩ (.int .i64 ((rd_T117 l0_0 x3_2).f1)))) := ⟨bs HB⟩; (try clear BK157); (try clear BK160); (try clear HB)
                              generalize ((w34.setCell ⟨gb160, 0, none⟩ (.string ((rd_T117 l0_0 x3_2).f0))).setCell ⟨gb160, 1, none⟩ (.int .i64 ((rd_T117 l0_0 x3_2).f1))) = w37 at n0_ n1_ n2_ ⊢
                              have BK157 := n0_; have BK160 := n1_; have HB := n2_; clear n0_ n1_ n2_; replace BK157 := Aside0.mk (blk_drew BK157.out); replace BK160 := Aside0.mk (blk_drew BK160.out); replace HB := Aside0.mk (below_drew1 HB.out); have p162 : 0 ≤ ((ji29) : Int) := oa; have q162 : (ji29) < (l0_0.length : Int) := oa; obtain ⟨ad162, e162, hx162_0, hx162_1⟩ := at_T117 HR0_0.out (ji29) p162 q162; have hw162_1 := hx162_1; have hw162_0 := hx162_0; obtain rfl : ad159 = ad162 := (by injection e162); replace hx162_0 := cb HB hx162_0; replace hx162_1 := cb HB hx162_1; replace p162 := eq_true p162; replace q162 := eq_true q162; refine start_ (n := 30) (S := fun w' => w'.cell? ⟨gb160, 0, none⟩ = some (.string ((rd_T117 l0_0 x3_2).f0)) ∧ w'.cell? ⟨gb160, 1, none⟩ = some (.int .i64 ((rd_T117 l0_0 x3_2).f1)) ∧ w'.cell? ⟨gb157, 0, none⟩ = some (.slice (some ad159) l0_0.length c0_0) ∧ w'.cell? ⟨gb157, 1, none⟩ = some (.slice A0_1 l0_1.length c0_1) ∧ w'.cell? (ad159.add (((ji29)).toNat * 2)) = some (.string ((rd_T117 l0_0 (ji29)).f0)) ∧ w'.cell? ⟨(ad159.add (((ji29)).toNat * 2)).block, (ad159.add (((ji29)).toNat * 2)).off + 1, none⟩ = some (.int .i64 ((rd_T117 l0_0 (ji29)).f1))) (ds := []) #[false, false, false, false, false, false, false, false, false, false, false, false, false, false, false, false, false, false, false, false, false, false, false, false, false, false, false, false, false, false] (by kernel_rfl) rfl rfl ⟨(blk_cell BK160.out 0).trans rfl, (blk_cell BK160.out 1).trans rfl, (blk_cell BK157.out 0).trans rfl, (blk_cell BK157.out 1).trans rfl, ((cb HB hw162_0).trans rfl), ((cb HB hw162_1).trans rfl)⟩ (fun hHeld => ?_); refine with_tabW spec_BookRight.tab7 spec_BookRight.bits7 (fun HT_ HW_ => ?_)
                              generalize w37.drew = w38 at BK157 BK160 HB hx162_0 hx162_1 hHeld ⊢
                              refine pA 0 27 HT_ ?_; refine tA 1 28 HT_ HW_ hHeld ?_; refine oA 2 29 HT_ (fun K hK => ?_); refine gA Try.func118 #[.string ((rd_T117 l0_0 x3_2).f0)] ?_; (with_reducible refine (spec_l01Name.calls k2 ((rd_T117 l0_0 x3_2).f0) true _ A12.out).mono ?_); rintro e w' ⟨rfl, ⟨nd, rfl⟩⟩; refine ⟨_, rfl, ?_⟩; refine hK.out _ _ ⟨(blk_cell BK160.out 0).trans rfl, (blk_cell BK160.out 1).trans rfl, (blk_cell BK157.out 0).trans rfl, (blk_cell BK157.out 1).trans rfl, ((cb HB hw162_0).trans rfl), ((cb HB hw162_1).trans rfl)⟩ (fun hHeld => ?_); clear hK K; refine nA 29 ?_; refine pA 3 30 HT_ ?_; refine pA 4 31 HT_ ?_; refine pA 5 32 HT_ ?_; refine tA 6 33 HT_ HW_ hHeld ?_; refine pA 7 34 HT_ ?_; refine pA 8 35 HT_ ?_; refine pA 9 36 HT_ ?_; refine pA 10 37 HT_ ?_; refine tA 11 38 HT_ HW_ hHeld ?_; refine pA 12 39 HT_ ?_; refine pA 13 40 HT_ ?_; refine pA 14 41 HT_ ?_; refine pA 15 42 HT_ ?_; refine pA 16 43 HT_ ?_; refine pA 17 44 HT_ ?_; refine pA 18 45 HT_ ?_; refine pA 20 47 HT_ ?_; refine pA 22 49 HT_ ?_; refine pA 23 50 HT_ ?_; refine tA 19 46 HT_ HW_ hHeld ?_; refine tA 21 48 HT_ HW_ hHeld ?_; refine pA 24 51 HT_ ?_; refine pA 25 52 HT_ ?_; refine tA 26 53 HT_ HW_ hHeld ?_; refine pA 27 54 HT_ ?_; refine pA 28 55 HT_ ?_; refine pA 29 56 HT_ ?_; refine done_ (done_of HT_.out (by kernel_rfl)) ?_
                              try go_wp2
                              go_roundg k2
                              case measure => have := HJ1.out; have := HK2.out; omega
                              case rel => exact ⟨(wrap64 (x3_2 + 1)), fg, H', ⟨by have := HJ1.out; have := HK2.out; omega⟩, ⟨ks BK157⟩, ⟨bs HB⟩⟩
                            · rw [if_neg c32] at H
                              have c32b0 : (Op.bytesLess (((rd_T117 l0_0 (ji29)).f0).toList) (((rd_T117 l0_0 x3_2).f0).toList)) = false := by simpa using c32
                              clear c32; obtain rfl := Option.some.inj H; obtain ⟨hcz39_0, hcz39_1, hfz39_0, hfz39_1⟩ := cf2 BK157; have p159 : 0 ≤ (x3_2 : Int) := oa; have q159 : x3_2 < (l0_0.length : Int) := oa; obtain ⟨ad159, e159, hx159_0, hx159_1⟩ := at_T117 HR0_0.out x3_2 p159 q159
                              cases e159
                              replace hx159_0 := cb HB hx159_0; replace hx159_1 := cb HB hx159_1; replace p159 := eq_true p159; replace q159 := eq_true q159
                              try go_wp2_with (first | ((with_reducible refine gate_dst (N := 4) rfl ?_); refine bx 4 (cs := #[.string (⟨#[]⟩ : ByteArray), .int .i64 0]) (t := 117) ?_; intro gb160 hg w40 hbox hb; have BK160 := Aside0.mk (hbox); have GW160 := Aside0.mk ((gs hg (bs HB))); have GE160 := Aside0.mk ((gs hg (bs HB))); replace HB := Aside0.mk (below_step (bs HB) hb); have NB157_160 := Aside0.mk ((gn hg (ks BK157))); have NB160_157 := Aside0.mk ((gm hg (ks BK157))); replace BK157 := Aside0.mk (blk_below (ks BK157) hb); clear hb hbox hg; have hnb41 := NB160_157.out; have hnc41 := NB157_160.out; obtain ⟨hcz42_0, hcz42_1, hfz42_0, hfz42_1⟩ := cf2 BK160))
                              have n0_ : Aside0 (((w40.setCell ⟨gb160, 0, none⟩ (.string ((rd_T117 l0_0 x3_2).f0))).setCell ⟨gb160, 1, none⟩ (.int .i64 ((rd_T117 l0_0 x3_2).f1))).heap[gb157]? = some (.cells #[.slice (some ad159) l0_0.length c0_0, .slice A0_1 l0_1.length c0_1] 47 (0, 0))) := ⟨ks BK157⟩; have n1_ : Aside0 (((w40.setCell ⟨gb160, 0, none⟩ (.string ((rd_T117 l0_0 x3_2).f0))).setCell ⟨gb160, 1, none⟩ (.int .i64 ((rd_T117 l0_0 x3_2).f1))).heap[gb160]? = some (.cells #[.string ((rd_T117 l0_0 x3_2).f0), .int .i64 ((rd_T117 l0_0 x3_2).f1)] 117 (0, 0))) := ⟨kp BK160⟩; have n2_ : Aside0 (Below w.heap.size w ((w40.setCell ⟨gb160, 0, none⟩ (.string ((rd_T117 l0_0 x3_2).f0))).setCell ⟨gb160, 1, none⟩ (.int .i64 ((rd_T117 l0_0 x3_2).f1)))) := ⟨bs HB⟩; (try clear BK157); (try clear BK160); (try clear HB)
                              generalize ((w40.setCell ⟨gb160, 0, none⟩ (.string ((rd_T117 l0_0 x3_2).f0))).setCell ⟨gb160, 1, none⟩ (.int .i64 ((rd_T117 l0_0 x3_2).f1))) = w43 at n0_ n1_ n2_ ⊢
                              have BK157 := n0_; have BK160 := n1_; have HB := n2_; clear n0_ n1_ n2_; replace BK157 := Aside0.mk (blk_drew BK157.out); replace BK160 := Aside0.mk (blk_drew BK160.out); replace HB := Aside0.mk (below_drew1 HB.out); have p162 : 0 ≤ ((ji29) : Int) := oa; have q162 : (ji29) < (l0_0.length : Int) := oa; obtain ⟨ad162, e162, hx162_0, hx162_1⟩ := at_T117 HR0_0.out (ji29) p162 q162; have hw162_1 := hx162_1; have hw162_0 := hx162_0; obtain rfl : ad159 = ad162 := (by injection e162); replace hx162_0 := cb HB hx162_0; replace hx162_1 := cb HB hx162_1; replace p162 := eq_true p162; replace q162 := eq_true q162; refine start_ (n := 30) (S := fun w' => w'.cell? ⟨gb160, 0, none⟩ = some (.string ((rd_T117 l0_0 x3_2).f0)) ∧ w'.cell? ⟨gb160, 1, none⟩ = some (.int .i64 ((rd_T117 l0_0 x3_2).f1)) ∧ w'.cell? ⟨gb157, 0, none⟩ = some (.slice (some ad159) l0_0.length c0_0) ∧ w'.cell? ⟨gb157, 1, none⟩ = some (.slice A0_1 l0_1.length c0_1) ∧ w'.cell? (ad159.add (((ji29)).toNat * 2)) = some (.string ((rd_T117 l0_0 (ji29)).f0)) ∧ w'.cell? ⟨(ad159.add (((ji29)).toNat * 2)).block, (ad159.add (((ji29)).toNat * 2)).off + 1, none⟩ = some (.int .i64 ((rd_T117 l0_0 (ji29)).f1))) (ds := []) #[false, false, false, false, false, false, false, false, false, false, false, false, false, false, false, false, false, false, false, false, false, false, false, false, false, false, false, false, false, false] (by kernel_rfl) rfl rfl ⟨(blk_cell BK160.out 0).trans rfl, (blk_cell BK160.out 1).trans rfl, (blk_cell BK157.out 0).trans rfl, (blk_cell BK157.out 1).trans rfl, ((cb HB hw162_0).trans rfl), ((cb HB hw162_1).trans rfl)⟩ (fun hHeld => ?_); refine with_tabW spec_BookRight.tab7 spec_BookRight.bits7 (fun HT_ HW_ => ?_)
                              generalize w43.drew = w44 at BK157 BK160 HB hx162_0 hx162_1 hHeld ⊢
                              refine pA 0 27 HT_ ?_; refine tA 1 28 HT_ HW_ hHeld ?_; refine oA 2 29 HT_ (fun K hK => ?_); refine gA Try.func118 #[.string ((rd_T117 l0_0 x3_2).f0)] ?_; (with_reducible refine (spec_l01Name.calls k2 ((rd_T117 l0_0 x3_2).f0) true _ A12.out).mono ?_); rintro e w' ⟨rfl, ⟨nd, rfl⟩⟩; refine ⟨_, rfl, ?_⟩; refine hK.out _ _ ⟨(blk_cell BK160.out 0).trans rfl, (blk_cell BK160.out 1).trans rfl, (blk_cell BK157.out 0).trans rfl, (blk_cell BK157.out 1).trans rfl, ((cb HB hw162_0).trans rfl), ((cb HB hw162_1).trans rfl)⟩ (fun hHeld => ?_); clear hK K; refine nA 29 ?_; refine pA 3 30 HT_ ?_; refine pA 4 31 HT_ ?_; refine pA 5 32 HT_ ?_; refine tA 6 33 HT_ HW_ hHeld ?_; refine pA 7 34 HT_ ?_; refine pA 8 35 HT_ ?_; refine pA 9 36 HT_ ?_; refine pA 10 37 HT_ ?_; refine tA 11 38 HT_ HW_ hHeld ?_; refine pA 12 39 HT_ ?_; refine pA 13 40 HT_ ?_; refine pA 14 41 HT_ ?_; refine pA 15 42 HT_ ?_; refine pA 16 43 HT_ ?_; refine pA 17 44 HT_ ?_; refine pA 18 45 HT_ ?_; refine pA 20 47 HT_ ?_; refine pA 22 49 HT_ ?_; refine pA 23 50 HT_ ?_; refine tA 19 46 HT_ HW_ hHeld ?_; refine tA 21 48 HT_ HW_ hHeld ?_; refine pA 24 51 HT_ ?_; refine pA 25 52 HT_ ?_; refine tA 26 53 HT_ HW_ hHeld ?_; refine pA 27 54 HT_ ?_; refine pA 28 55 HT_ ?_; refine pA 29 56 HT_ ?_; refine done_ (done_of HT_.out (by kernel_rfl)) ?_
                              try go_wp2
                              go_ret
                              exact ⟨by first | rfl | (simp [errW_none, errW_some] <;> rfl) | (simp only [← hji29]; first | rfl | (simp [errW_none, errW_some] <;> rfl)) | (simp [*, errW_none, errW_some] <;> rfl), bs HB⟩
                          · rw [if_neg c31] at H
                            exact absurd H (by simp)
                        · rw [if_neg c30] at H
                          exact absurd H (by simp)
                      · rw [if_neg c28] at H; have c28b0 : decide (0 < x3_2) = false := decide_eq_false c28; clear c28; have H' := Aside0.mk H; clear H; obtain ⟨hcz45_0, hcz45_1, hfz45_0, hfz45_1⟩ := cf2 BK157; have p159 : 0 ≤ (x3_2 : Int) := oa; have q159 : x3_2 < (l0_0.length : Int) := oa; obtain ⟨ad159, e159, hx159_0, hx159_1⟩ := at_T117 HR0_0.out x3_2 p159 q159
                        cases e159
                        replace hx159_0 := cb HB hx159_0; replace hx159_1 := cb HB hx159_1; replace p159 := eq_true p159; replace q159 := eq_true q159
                        try go_wp2_with (first | ((with_reducible refine gate_dst (N := 4) rfl ?_); refine bx 4 (cs := #[.string (⟨#[]⟩ : ByteArray), .int .i64 0]) (t := 117) ?_; intro gb160 hg w46 hbox hb; have BK160 := Aside0.mk (hbox); have GW160 := Aside0.mk ((gs hg (bs HB))); have GE160 := Aside0.mk ((gs hg (bs HB))); replace HB := Aside0.mk (below_step (bs HB) hb); have NB157_160 := Aside0.mk ((gn hg (ks BK157))); have NB160_157 := Aside0.mk ((gm hg (ks BK157))); replace BK157 := Aside0.mk (blk_below (ks BK157) hb); clear hb hbox hg; have hnb47 := NB160_157.out; have hnc47 := NB157_160.out; obtain ⟨hcz48_0, hcz48_1, hfz48_0, hfz48_1⟩ := cf2 BK160))
                        have n0_ : Aside0 (((w46.setCell ⟨gb160, 0, none⟩ (.string ((rd_T117 l0_0 x3_2).f0))).setCell ⟨gb160, 1, none⟩ (.int .i64 ((rd_T117 l0_0 x3_2).f1))).heap[gb157]? = some (.cells #[.slice (some ad159) l0_0.length c0_0, .slice A0_1 l0_1.length c0_1] 47 (0, 0))) := ⟨ks BK157⟩; have n1_ : Aside0 (((w46.setCell ⟨gb160, 0, none⟩ (.string ((rd_T117 l0_0 x3_2).f0))).setCell ⟨gb160, 1, none⟩ (.int .i64 ((rd_T117 l0_0 x3_2).f1))).heap[gb160]? = some (.cells #[.string ((rd_T117 l0_0 x3_2).f0), .int .i64 ((rd_T117 l0_0 x3_2).f1)] 117 (0, 0))) := ⟨kp BK160⟩; have n2_ : Aside0 (Below w.heap.size w ((w46.setCell ⟨gb160, 0, none⟩ (.string ((rd_T117 l0_0 x3_2).f0))).setCell ⟨gb160, 1, none⟩ (.int .i64 ((rd_T117 l0_0 x3_2).f1)))) := ⟨bs HB⟩; (try clear BK157); (try clear BK160); (try clear HB)
                        generalize ((w46.setCell ⟨gb160, 0, none⟩ (.string ((rd_T117 l0_0 x3_2).f0))).setCell ⟨gb160, 1, none⟩ (.int .i64 ((rd_T117 l0_0 x3_2).f1))) = w49 at n0_ n1_ n2_ ⊢
                        have BK157 := n0_; have BK160 := n1_; have HB := n2_; clear n0_ n1_ n2_; replace BK157 := Aside0.mk (blk_drew BK157.out); replace BK160 := Aside0.mk (blk_drew BK160.out); replace HB := Aside0.mk (below_drew1 HB.out); refine start_ (n := 30) (S := fun w' => w'.cell? ⟨gb160, 0, none⟩ = some (.string ((rd_T117 l0_0 x3_2).f0)) ∧ w'.cell? ⟨gb160, 1, none⟩ = some (.int .i64 ((rd_T117 l0_0 x3_2).f1))) (ds := []) #[false, false, false, false, false, false, false, false, false, false, false, false, false, false, false, false, false, false, false, false, false, false, false, false, false, false, false, false, false, false] (by kernel_rfl) rfl rfl ⟨(blk_cell BK160.out 0).trans rfl, (blk_cell BK160.out 1).trans rfl⟩ (fun hHeld => ?_); refine with_tabW spec_BookRight.tab7 spec_BookRight.bits7 (fun HT_ HW_ => ?_)
                        generalize w49.drew = w50 at BK157 BK160 HB hHeld ⊢
                        refine pA 0 27 HT_ ?_; refine tA 1 28 HT_ HW_ hHeld ?_; refine oA 2 29 HT_ (fun K hK => ?_); refine gA Try.func118 #[.string ((rd_T117 l0_0 x3_2).f0)] ?_; (with_reducible refine (spec_l01Name.calls k2 ((rd_T117 l0_0 x3_2).f0) true _ A12.out).mono ?_); rintro e w' ⟨rfl, ⟨nd, rfl⟩⟩; refine ⟨_, rfl, ?_⟩; refine hK.out _ _ ⟨(blk_cell BK160.out 0).trans rfl, (blk_cell BK160.out 1).trans rfl⟩ (fun hHeld => ?_); clear hK K; refine nA 29 ?_; refine pA 3 30 HT_ ?_; refine pA 4 31 HT_ ?_; refine pA 5 32 HT_ ?_; refine tA 6 33 HT_ HW_ hHeld ?_; refine pA 7 34 HT_ ?_; refine pA 8 35 HT_ ?_; refine pA 9 36 HT_ ?_; refine pA 10 37 HT_ ?_; refine tA 11 38 HT_ HW_ hHeld ?_; refine pA 12 39 HT_ ?_; refine pA 13 40 HT_ ?_; refine pA 14 41 HT_ ?_; refine pA 15 42 HT_ ?_; refine pA 16 43 HT_ ?_; refine pA 17 44 HT_ ?_; refine pB 18 45 HT_ ?_; refine pB 19 46 HT_ ?_; refine pB 20 47 HT_ ?_; refine pB 21 48 HT_ ?_; refine pB 22 49 HT_ ?_; refine pB 23 50 HT_ ?_; refine pB 24 51 HT_ ?_; refine pB 25 52 HT_ ?_; refine pB 26 53 HT_ ?_; refine pB 27 54 HT_ ?_; refine pA 28 55 HT_ ?_; refine pA 29 56 HT_ ?_; refine done_ (done_of HT_.out (by kernel_rfl)) ?_
                        try go_wp2
                        go_roundg k2
                        case measure => have := HJ1.out; have := HK2.out; omega
                        case rel => exact ⟨(wrap64 (x3_2 + 1)), fg, H', ⟨by have := HJ1.out; have := HK2.out; omega⟩, ⟨ks BK157⟩, ⟨bs HB⟩⟩
                · replace c13 := Bool.eq_false_iff.mpr c13; subst c13
                  have H1 : (some false) = some r := by rw [if_neg (show ¬ (false = true) by decide)] at H; exact H
                  clear H; have H := H1; clear H1; obtain rfl := Option.some.inj H; obtain ⟨hcz51_0, hcz51_1, hfz51_0, hfz51_1⟩ := cf2 BK157; have p159 : 0 ≤ (x3_2 : Int) := oa; have q159 : x3_2 < (l0_0.length : Int) := oa; obtain ⟨ad159, e159, hx159_0, hx159_1⟩ := at_T117 HR0_0.out x3_2 p159 q159
                  cases e159
                  replace hx159_0 := cb HB hx159_0; replace hx159_1 := cb HB hx159_1; replace p159 := eq_true p159; replace q159 := eq_true q159
                  try go_wp2_with (first | ((with_reducible refine gate_dst (N := 4) rfl ?_); refine bx 4 (cs := #[.string (⟨#[]⟩ : ByteArray), .int .i64 0]) (t := 117) ?_; intro gb160 hg w52 hbox hb; have BK160 := Aside0.mk (hbox); have GW160 := Aside0.mk ((gs hg (bs HB))); have GE160 := Aside0.mk ((gs hg (bs HB))); replace HB := Aside0.mk (below_step (bs HB) hb); have NB157_160 := Aside0.mk ((gn hg (ks BK157))); have NB160_157 := Aside0.mk ((gm hg (ks BK157))); replace BK157 := Aside0.mk (blk_below (ks BK157) hb); clear hb hbox hg; have hnb53 := NB160_157.out; have hnc53 := NB157_160.out; obtain ⟨hcz54_0, hcz54_1, hfz54_0, hfz54_1⟩ := cf2 BK160))
                  have n0_ : Aside0 (((w52.setCell ⟨gb160, 0, none⟩ (.string ((rd_T117 l0_0 x3_2).f0))).setCell ⟨gb160, 1, none⟩ (.int .i64 ((rd_T117 l0_0 x3_2).f1))).heap[gb157]? = some (.cells #[.slice (some ad159) l0_0.length c0_0, .slice A0_1 l0_1.length c0_1] 47 (0, 0))) := ⟨ks BK157⟩; have n1_ : Aside0 (((w52.setCell ⟨gb160, 0, none⟩ (.string ((rd_T117 l0_0 x3_2).f0))).setCell ⟨gb160, 1, none⟩ (.int .i64 ((rd_T117 l0_0 x3_2).f1))).heap[gb160]? = some (.cells #[.string ((rd_T117 l0_0 x3_2).f0), .int .i64 ((rd_T117 l0_0 x3_2).f1)] 117 (0, 0))) := ⟨kp BK160⟩; have n2_ : Aside0 (Below w.heap.size w ((w52.setCell ⟨gb160, 0, none⟩ (.string ((rd_T117 l0_0 x3_2).f0))).setCell ⟨gb160, 1, none⟩ (.int .i64 ((rd_T117 l0_0 x3_2).f1)))) := ⟨bs HB⟩; (try clear BK157); (try clear BK160); (try clear HB)
                  generalize ((w52.setCell ⟨gb160, 0, none⟩ (.string ((rd_T117 l0_0 x3_2).f0))).setCell ⟨gb160, 1, none⟩ (.int .i64 ((rd_T117 l0_0 x3_2).f1))) = w55 at n0_ n1_ n2_ ⊢
                  have BK157 := n0_; have BK160 := n1_; have HB := n2_; clear n0_ n1_ n2_; replace BK157 := Aside0.mk (blk_drew BK157.out); replace BK160 := Aside0.mk (blk_drew BK160.out); replace HB := Aside0.mk (below_drew1 HB.out); refine start_ (n := 30) (S := fun w' => w'.cell? ⟨gb160, 0, none⟩ = some (.string ((rd_T117 l0_0 x3_2).f0)) ∧ w'.cell? ⟨gb160, 1, none⟩ = some (.int .i64 ((rd_T117 l0_0 x3_2).f1))) (ds := []) #[false, false, false, false, false, false, false, false, false, false, false, false, false, false, false, false, false, false, false, false, false, false, false, false, false, false, false, false, false, false] (by kernel_rfl) rfl rfl ⟨(blk_cell BK160.out 0).trans rfl, (blk_cell BK160.out 1).trans rfl⟩ (fun hHeld => ?_); refine with_tabW spec_BookRight.tab7 spec_BookRight.bits7 (fun HT_ HW_ => ?_)
                  generalize w55.drew = w56 at BK157 BK160 HB hHeld ⊢
                  refine pA 0 27 HT_ ?_; refine tA 1 28 HT_ HW_ hHeld ?_; refine oA 2 29 HT_ (fun K hK => ?_); refine gA Try.func118 #[.string ((rd_T117 l0_0 x3_2).f0)] ?_; (with_reducible refine (spec_l01Name.calls k2 ((rd_T117 l0_0 x3_2).f0) false _ A12.out).mono ?_); rintro e w' ⟨rfl, ⟨nd, rfl⟩⟩; refine ⟨_, rfl, ?_⟩; refine hK.out _ _ ⟨(blk_cell BK160.out 0).trans rfl, (blk_cell BK160.out 1).trans rfl⟩ (fun hHeld => ?_); clear hK K; refine nA 29 ?_; refine pA 3 30 HT_ ?_; refine pA 4 31 HT_ ?_; refine pB 5 32 HT_ ?_; refine pB 6 33 HT_ ?_; refine pB 7 34 HT_ ?_; refine pA 8 35 HT_ ?_; refine pA 9 36 HT_ ?_; refine pB 10 37 HT_ ?_; refine pB 11 38 HT_ ?_; refine pB 12 39 HT_ ?_; refine pA 13 40 HT_ ?_; refine pA 14 41 HT_ ?_; refine pB 15 42 HT_ ?_; refine pB 16 43 HT_ ?_; refine pB 17 44 HT_ ?_; refine pB 18 45 HT_ ?_; refine pB 19 46 HT_ ?_; refine pB 20 47 HT_ ?_; refine pB 21 48 HT_ ?_; refine pB 22 49 HT_ ?_; refine pB 23 50 HT_ ?_; refine pB 24 51 HT_ ?_; refine pB 25 52 HT_ ?_; refine pB 26 53 HT_ ?_; refine pB 27 54 HT_ ?_; refine pB 28 55 HT_ ?_; refine pA 29 56 HT_ ?_; refine done_ (done_of HT_.out (by kernel_rfl)) ?_
                  try go_wp2
                  go_ret
                  exact ⟨ff, bs HB⟩
              · rw [if_neg c11] at H
                exact absurd H (by simp)
            · rw [if_neg c10] at H; have c10b0 : decide (x3_2 < (l0_0.length : Int)) = false := decide_eq_false c10; clear c10; obtain rfl := Option.some.inj H; obtain ⟨hcz57_0, hcz57_1, hfz57_0, hfz57_1⟩ := cf2 BK157
              go_wp2
              go_ret
              exact ⟨ff, bs HB⟩
end Go.Proofs.Ytefmkmhjbfpelaa.QT
namespace Go.Proofs.Ytefmkmhjbfpelaa.QT
open Go.RowKit Go.Proofs.YtefmkmhjbfpelaaW.PrintWords Go.Proofs.YtefmkmhjbfpelaaW.PrintLast Go.Proofs.YtefmkmhjbfpelaaW.PrintMore
attribute [local go_sem] max2_int min2_int max_two min_two max_three min_three max_four min_four   -- for this text's walks alone
set_option linter.unusedVariables false
set_option linter.unusedSimpArgs false
set_option maxHeartbeats 8000000 in
set_option maxRecDepth 100000 in
theorem spec_LineTransit.calls (k : Nat) (a0_0 : ByteArray) (a0_1 : ByteArray) (a0_2 : Int) (a0_3 : ByteArray) (a0_4 : Int) (a0_5 : Int) (a0_6 : Int) (a0_7 : Int) (r : Int) (w : World) (h : spec_LineTransit.f k a0_0 a0_1 a0_2 a0_3 a0_4 a0_5 a0_6 a0_7 = some r) :
    Calls Try.prog 88 #[.agg #[.string a0_0, .string a0_1, .int .i64 a0_2, .string a0_3, .int .i64 a0_4, .int .i64 a0_5, .int .i64 a0_6, .int .i64 a0_7]] w fun e w' => e = .returned (.int .i64 r) ∧ Below w.heap.size w w' := by
  have hu54 := Try.underlying54; have HB := Aside0.mk (Below.refl w.heap.size w); have H : ((spec_LineRight.f k a0_0 a0_1 a0_2 a0_3 a0_4 a0_5 a0_6 a0_7).bind fun t164 => (if t164 = true then (some (wrap64 (a0_5 - a0_6))) else (some 0))) = some r := h; clear h; replace H := Option.bind_eq_some_iff.mp H; obtain ⟨t164, A20, H⟩ := H; replace H : (if t164 = true then (some (wrap64 (a0_5 - a0_6))) else (some 0)) = some r := H; have A2 := Aside0.mk A20; clear A20
  go_enter Try.func88, Try.ntmps88
  try go_wp2_with (first | ((with_reducible refine gate_dst (N := 1) rfl ?_); refine bx 1 (cs := #[.string a0_0, .string a0_1, .int .i64 a0_2, .string a0_3, .int .i64 a0_4, .int .i64 a0_5, .int .i64 a0_6, .int .i64 a0_7]) (t := 54) ?_; intro gb163 hg w3 hbox hb; have BK163 := Aside0.mk (hbox); have GW163 := Aside0.mk ((gs hg (bs HB))); have GE163 := Aside0.mk ((gs hg (bs HB))); replace HB := Aside0.mk (below_step (bs HB) hb); clear hb hbox hg; obtain ⟨hcz4_0, hcz4_1, hcz4_2, hcz4_3, hcz4_4, hcz4_5, hcz4_6, hcz4_7, hfz4_0, hfz4_1, hfz4_2, hfz4_3, hfz4_4, hfz4_5, hfz4_6, hfz4_7⟩ := cf8 BK163))
  go_at_call 101; (with_reducible refine (spec_LineRight.calls k a0_0 a0_1 a0_2 a0_3 a0_4 a0_5 a0_6 a0_7 t164 _ A2.out).mono ?_); rintro e w5 ⟨rfl, hb⟩; replace BK163 := Aside0.mk (blk_below (ks BK163) hb); replace HB := Aside0.mk (below_step (bs HB) hb); (try clear hb); (try clear hb2); (try clear hk); (try clear hi)
  by_cases c6 : t164 = true
  · subst c6
    have H1 : (some (wrap64 (a0_5 - a0_6))) = some r := by rw [if_pos rfl] at H; exact H
    clear H; have H := H1; clear H1; obtain rfl := Option.some.inj H; obtain ⟨hcz7_0, hcz7_1, hcz7_2, hcz7_3, hcz7_4, hcz7_5, hcz7_6, hcz7_7, hfz7_0, hfz7_1, hfz7_2, hfz7_3, hfz7_4, hfz7_5, hfz7_6, hfz7_7⟩ := cf8 BK163
    go_wp2
    go_ret
    exact ⟨ff, bs HB⟩
  · replace c6 := Bool.eq_false_iff.mpr c6; subst c6
    have H1 : (some 0) = some r := by rw [if_neg (show ¬ (false = true) by decide)] at H; exact H
    clear H; have H := H1; clear H1; obtain rfl := Option.some.inj H
    go_wp2
    go_ret
    exact ⟨ff, bs HB⟩
end Go.Proofs.Ytefmkmhjbfpelaa.QT
namespace Go.Proofs.Ytefmkmhjbfpelaa.QT
open Go.RowKit Go.Proofs.YtefmkmhjbfpelaaW.PrintWords Go.Proofs.YtefmkmhjbfpelaaW.PrintLast Go.Proofs.YtefmkmhjbfpelaaW.PrintMore
attribute [local go_sem] max2_int min2_int max_two min_two max_three min_three max_four min_four   -- for this text's walks alone
set_option linter.unusedVariables false
set_option linter.unusedSimpArgs false
set_option maxHeartbeats 8000000 in
set_option maxRecDepth 100000 in
theorem spec_BookTransit.calls (k : Nat) (A0_0 : Option Addr) (c0_0 : Nat) (l0_0 : List (S117)) (A0_1 : Option Addr) (c0_1 : Nat) (l0_1 : List (S54)) (a1 : ByteArray) (a2 : ByteArray) (r : Int) (w : World) (hr0_0 : Kd.C k117 w A0_0 l0_0.length l0_0) (hc0_0 : l0_0.length ≤ c0_0) (hr0_1 : Kd.C k54 w A0_1 l0_1.length l0_1) (hc0_1 : l0_1.length ≤ c0_1) (h : spec_BookTransit.f k l0_0 l0_1 a1 a2 = some r) :
    Calls Try.prog 27 #[.agg #[.slice A0_0 l0_0.length c0_0, .slice A0_1 l0_1.length c0_1], .string a1, .string a2] w fun e w' => e = .returned (.int .i64 r) ∧ Below w.heap.size w w' := by
  have hu47 := Try.underlying47; have hu54 := Try.underlying54; have HR0_0 := Aside0.mk hr0_0; have HC0_0 := Aside0.mk hc0_0; clear hr0_0 hc0_0; have HR0_1 := Aside0.mk hr0_1; have HC0_1 := Aside0.mk hc0_1; clear hr0_1 hc0_1; have HB := Aside0.mk (Below.refl w.heap.size w); have H : (if (a1.size : Int) > 20000 then (spec_BookTransit.j0 k a1 a2 0 true l0_0 l0_1) else (if (a2.size : Int) > 20000 then (spec_BookTransit.j0 k a1 a2 0 true l0_0 l0_1) else ((spec_BookRight.f k l0_0 l0_1).bind fun t166 => (spec_BookTransit.j0 k a1 a2 0 (!t166) l0_0 l0_1)))) = some r := h; clear h; have HC4 := Aside0.mk H; clear H
  go_enter Try.func27, Try.ntmps27
  go_upto_region 2 with (first | ((with_reducible refine gate_dst (N := 3) rfl ?_); (try (refine gate_guard (by rfl) ?_; dsimp only)); refine bx 3 (cs := #[.slice A0_0 l0_0.length c0_0, .slice A0_1 l0_1.length c0_1]) (t := 47) ?_; intro gb165 hg w5 hbox hb; have BK165 := Aside0.mk (hbox); have GW165 := Aside0.mk ((gs hg (bs HB))); have GE165 := Aside0.mk ((gs hg (bs HB))); replace HB := Aside0.mk (below_step (bs HB) hb); clear hb hbox hg))
  (try simp only [Act.put, List.setIfInBounds_toArray, List.set_cons_zero, List.set_cons_succ])
  go_cut [21] (fun v21 wc => ∃ (kq : Nat) (x21_3 : Bool), v21 = .bool x21_3 ∧ Aside0 (spec_BookTransit.j0 kq a1 a2 0 x21_3 l0_0 l0_1 = some r) ∧ Aside0 (kq ≤ k) ∧ Aside0 (wc.heap[gb165]? = some (.cells #[(.slice A0_0 l0_0.length c0_0), (.slice A0_1 l0_1.length c0_1)] 47 (0, 0))) ∧ Aside0 (Below w.heap.size w wc))
  case first =>
    have H := HC4.out; clear HC4
    by_cases c6 : (a1.size : Int) > 20000
    · rw [if_pos c6] at H; have c6b0 : decide (20000 < (a1.size : Int)) = true := decide_eq_true c6; have c6b1 : decide (20000 < a1.size) = true := decide_eq_true (by omega); clear c6
      (first | rw [c6b0] | (simp only [i64_w, i32_w]; rw [c6b0]) | skip)
      have H' := Aside0.mk H; clear H
      go_wp2
      go_meet
      case rel => exact ⟨_, (true), fg, H', ⟨fl⟩, ⟨ks BK165⟩, ⟨bs HB⟩⟩
    · rw [if_neg c6] at H; have c6b0 : decide (20000 < (a1.size : Int)) = false := decide_eq_false c6; have c6b1 : decide (20000 < a1.size) = false := decide_eq_false (by omega); clear c6
      (first | rw [c6b0] | (simp only [i64_w, i32_w]; rw [c6b0]) | skip)
      by_cases c7 : (a2.size : Int) > 20000
      · rw [if_pos c7] at H; have c7b0 : decide (20000 < (a2.size : Int)) = true := decide_eq_true c7; have c7b1 : decide (20000 < a2.size) = true := decide_eq_true (by omega); clear c7; have H' := Aside0.mk H; clear H
        go_wp2
        go_meet
        case rel => exact ⟨_, (true), fg, H', ⟨fl⟩, ⟨ks BK165⟩, ⟨bs HB⟩⟩
      · rw [if_neg c7] at H; have c7b0 : decide (20000 < (a2.size : Int)) = false := decide_eq_false c7; have c7b1 : decide (20000 < a2.size) = false := decide_eq_false (by omega); clear c7; replace H := Option.bind_eq_some_iff.mp H; obtain ⟨t166, A80, H⟩ := H; replace H : (spec_BookTransit.j0 k a1 a2 0 (!t166) l0_0 l0_1) = some r := H; have A8 := Aside0.mk A80; clear A80; have H' := Aside0.mk H; clear H; obtain ⟨hcz9_0, hcz9_1, hfz9_0, hfz9_1⟩ := cf2 BK165
        go_wp2_with (first | (go_at_call 60; (with_reducible refine (spec_BookRight.calls k _ _ l0_0 _ _ l0_1 t166 _ (Kd.C_below HR0_0.out (bs HB)) HC0_0.out (Kd.C_below HR0_1.out (bs HB)) HC0_1.out A8.out).mono ?_); rintro e w10 ⟨rfl, hb⟩; replace BK165 := Aside0.mk (blk_below (ks BK165) hb); replace HB := Aside0.mk (below_step (bs HB) hb); (try clear hb); (try clear hb2); (try clear hk); (try clear hi)))
        go_meet
        case rel => exact ⟨_, (!t166), fg, H', ⟨fl⟩, ⟨ks BK165⟩, ⟨bs HB⟩⟩
  case rest =>
    clear HC4
    try clear c2
    try clear p2
    try clear c6
    try clear c6b0
    try clear c6b1
    try clear c7
    try clear c7b0
    try clear c7b1
    try clear hcz9_0
    try clear hcz9_1
    try clear hfz9_0
    try clear hfz9_1
    obtain ⟨kq, x21_3, rfl, HA, HJ3, BK165, HB⟩ := hcut
    cases kq with
    | zero => exact absurd HA.out (by simp [spec_BookTransit.j0])
    | succ kj3 =>
      have H := HA.out; clear HA; simp only [spec_BookTransit.j0] at H
      by_cases c11 : x21_3 = true
      · subst c11
        have H1 : (some 0) = some r := by rw [if_pos rfl] at H; exact H
        clear H; have H := H1; clear H1; obtain rfl := Option.some.inj H
        go_wp2
        go_ret
        exact ⟨ff, bs HB⟩
      · replace c11 := Bool.eq_false_iff.mpr c11; subst c11
        have H1 : (spec_BookTransit.l0 kj3 a1 a2 0 0 l0_0 l0_1) = some r := by rw [if_neg (show ¬ (false = true) by decide)] at H; exact H
        clear H; have H := H1; clear H1; have H' := Aside0.mk H; clear H
        go_wp2
        go_loopg [7, 8] kj3 (fun kq v7 v8 w' => ∃ (x7_2 : Int) (x8_2 : Int), v7 = .int .i64 x7_2 ∧ v8 = .int .i64 x8_2 ∧ Aside0 (spec_BookTransit.l0 kq a1 a2 x7_2 x8_2 l0_0 l0_1 = some r) ∧ Aside0 (kq ≤ kj3) ∧ Aside0 (w'.heap[gb165]? = some (.cells #[(.slice A0_0 l0_0.length c0_0), (.slice A0_1 l0_1.length c0_1)] 47 (0, 0))) ∧ Aside0 (Below w.heap.size w w'))
        case atStart => exact ⟨(0), (0), fg, fg, H', ⟨Nat.le_refl _⟩, ⟨ks BK165⟩, ⟨bs HB⟩⟩
        case round =>
          clear H'
          try clear c1
          try clear c2
          try clear p2
          try clear c6
          try clear c6b0
          try clear c6b1
          try clear c7
          try clear c7b0
          try clear c7b1
          try clear c11
          try clear hcz9_0
          try clear hcz9_1
          try clear hfz9_0
          try clear hfz9_1
          try clear p2
          obtain ⟨x7_2, x8_2, rfl, rfl, HA, HK2, BK165, HB⟩ := hrel
          cases gk with
          | zero => exact absurd HA.out (by simp [spec_BookTransit.l0])
          | succ k2 =>
            have H := HA.out; clear HA; simp only [spec_BookTransit.l0] at H
            by_cases c12 : x8_2 < (l0_1.length : Int)
            · rw [if_pos c12] at H; have c12b0 : decide (x8_2 < (l0_1.length : Int)) = true := decide_eq_true c12; clear c12
              by_cases c13 : a1.toList = ([] : List UInt8)
              · rw [if_pos c13] at H; have c13b0 : (a1.toList == ([] : List UInt8)) = true := beq_iff_eq.mpr c13; have c13b1 : (a1.toList != ([] : List UInt8)) = false := bne_eq_false_iff_eq.mpr c13; clear c13
                by_cases c14 : 0 ≤ x8_2
                · rw [if_pos c14] at H; have c14b0 : decide (0 ≤ x8_2) = true := decide_eq_true c14; clear c14
                  by_cases c15 : ((rd_T54 l0_1 x8_2).f3).toList = a2.toList
                  · rw [if_pos c15] at H; have c15b0 : (((rd_T54 l0_1 x8_2).f3).toList == a2.toList) = true := beq_iff_eq.mpr c15; have c15b1 : (((rd_T54 l0_1 x8_2).f3).toList != a2.toList) = false := bne_eq_false_iff_eq.mpr c15; clear c15; replace H := Option.bind_eq_some_iff.mp H; obtain ⟨t169, A160, H⟩ := H; replace H : (spec_BookTransit.l0 k2 a1 a2 (wrap64 (x7_2 + t169)) (wrap64 (x8_2 + 1)) l0_0 l0_1) = some r := H; have A16 := Aside0.mk A160; clear A160; have H' := Aside0.mk H; clear H; obtain ⟨hcz17_0, hcz17_1, hfz17_0, hfz17_1⟩ := cf2 BK165; have p167 : 0 ≤ (x8_2 : Int) := oa; have q167 : x8_2 < (l0_1.length : Int) := oa; obtain ⟨ad167, e167, hx167_0, hx167_1, hx167_2, hx167_3, hx167_4, hx167_5, hx167_6, hx167_7⟩ := at_T54 HR0_1.out x8_2 p167 q167
                    cases e167
                    replace hx167_0 := cb HB hx167_0; replace hx167_1 := cb HB hx167_1; replace hx167_2 := cb HB hx167_2; replace hx167_3 := cb HB hx167_3; replace hx167_4 := cb HB hx167_4; replace hx167_5 := cb HB hx167_5; replace hx167_6 := cb HB hx167_6; replace hx167_7 := cb HB hx167_7; replace p167 := eq_true p167; replace q167 := eq_true q167; have p168 : 0 ≤ (x8_2 : Int) := oa; have q168 : x8_2 < (l0_1.length : Int) := oa; obtain ⟨ad168, e168, hx168_0, hx168_1, hx168_2, hx168_3, hx168_4, hx168_5, hx168_6, hx168_7⟩ := at_T54 HR0_1.out x8_2 p168 q168; obtain rfl : ad167 = ad168 := (by injection e168); replace hx168_0 := cb HB hx168_0; replace hx168_1 := cb HB hx168_1; replace hx168_2 := cb HB hx168_2; replace hx168_3 := cb HB hx168_3; replace hx168_4 := cb HB hx168_4; replace hx168_5 := cb HB hx168_5; replace hx168_6 := cb HB hx168_6; replace hx168_7 := cb HB hx168_7; replace p168 := eq_true p168; replace q168 := eq_true q168
                    go_wp2_with (first | ((first | ((with_reducible refine gate_callee (f := 88) rfl ?_); refine goesL_ (some 58) rfl rfl Try.func88 (by kernel_rfl) rfl #[.agg #[.string ((rd_T54 l0_1 x8_2).f0), .string ((rd_T54 l0_1 x8_2).f1), .int .i64 ((rd_T54 l0_1 x8_2).f2), .string ((rd_T54 l0_1 x8_2).f3), .int .i64 ((rd_T54 l0_1 x8_2).f4), .int .i64 ((rd_T54 l0_1 x8_2).f5), .int .i64 ((rd_T54 l0_1 x8_2).f6), .int .i64 ((rd_T54 l0_1 x8_2).f7)]] rfl (by (try simp only [List.map_toArray, List.map_cons, List.map_nil]); first | done | rfl | (simp only [List.length_drop, List.length_take]; rfl)) ?_; (with_reducible refine (spec_LineTransit.calls k2 ((rd_T54 l0_1 x8_2).f0) ((rd_T54 l0_1 x8_2).f1) ((rd_T54 l0_1 x8_2).f2) ((rd_T54 l0_1 x8_2).f3) ((rd_T54 l0_1 x8_2).f4) ((rd_T54 l0_1 x8_2).f5) ((rd_T54 l0_1 x8_2).f6) ((rd_T54 l0_1 x8_2).f7) t169 _ A16.out).mono ?_); rintro e w18 ⟨rfl, hb⟩; refine ⟨_, rfl, ?_⟩) | (go_at_call 88; (with_reducible refine (spec_LineTransit.calls k2 ((rd_T54 l0_1 x8_2).f0) ((rd_T54 l0_1 x8_2).f1) ((rd_T54 l0_1 x8_2).f2) ((rd_T54 l0_1 x8_2).f3) ((rd_T54 l0_1 x8_2).f4) ((rd_T54 l0_1 x8_2).f5) ((rd_T54 l0_1 x8_2).f6) ((rd_T54 l0_1 x8_2).f7) t169 _ A16.out).mono ?_); rintro e w18 ⟨rfl, hb⟩)); replace BK165 := Aside0.mk (blk_below (ks BK165) hb); replace HB := Aside0.mk (below_step (bs HB) hb); (try clear hb); (try clear hb2); (try clear hk); (try clear hi)))
                    go_roundg k2
                    case measure => have := HJ3.out; have := HK2.out; omega
                    case rel => exact ⟨(wrap64 (x7_2 + t169)), (wrap64 (x8_2 + 1)), fg, fg, H', ⟨by have := HJ3.out; have := HK2.out; omega⟩, ⟨ks BK165⟩, ⟨bs HB⟩⟩
                  · rw [if_neg c15] at H; have c15b0 : (((rd_T54 l0_1 x8_2).f3).toList == a2.toList) = false := beq_eq_false_iff_ne.mpr c15; have c15b1 : (((rd_T54 l0_1 x8_2).f3).toList != a2.toList) = true := bne_iff_ne.mpr c15; have H' := Aside0.mk H; clear H; obtain ⟨hcz19_0, hcz19_1, hfz19_0, hfz19_1⟩ := cf2 BK165; have p167 : 0 ≤ (x8_2 : Int) := oa; have q167 : x8_2 < (l0_1.length : Int) := oa; obtain ⟨ad167, e167, hx167_0, hx167_1, hx167_2, hx167_3, hx167_4, hx167_5, hx167_6, hx167_7⟩ := at_T54 HR0_1.out x8_2 p167 q167
                    cases e167
                    replace hx167_0 := cb HB hx167_0; replace hx167_1 := cb HB hx167_1; replace hx167_2 := cb HB hx167_2; replace hx167_3 := cb HB hx167_3; replace hx167_4 := cb HB hx167_4; replace hx167_5 := cb HB hx167_5; replace hx167_6 := cb HB hx167_6; replace hx167_7 := cb HB hx167_7; replace p167 := eq_true p167; replace q167 := eq_true q167
                    go_wp2
                    go_roundg k2
                    case measure => have := HJ3.out; have := HK2.out; omega
                    case rel => exact ⟨(x7_2), (wrap64 (x8_2 + 1)), fg, fg, H', ⟨by have := HJ3.out; have := HK2.out; omega⟩, ⟨ks BK165⟩, ⟨bs HB⟩⟩
                · rw [if_neg c14] at H
                  exact absurd H (by simp)
              · rw [if_neg c13] at H; have c13b0 : (a1.toList == ([] : List UInt8)) = false := beq_eq_false_iff_ne.mpr c13; have c13b1 : (a1.toList != ([] : List UInt8)) = true := bne_iff_ne.mpr c13
                by_cases c20 : 0 ≤ x8_2
                · rw [if_pos c20] at H; have c20b0 : decide (0 ≤ x8_2) = true := decide_eq_true c20; clear c20
                  by_cases c21 : ((rd_T54 l0_1 x8_2).f0).toList = a1.toList
                  · rw [if_pos c21] at H; have c21b0 : (((rd_T54 l0_1 x8_2).f0).toList == a1.toList) = true := beq_iff_eq.mpr c21; have c21b1 : (((rd_T54 l0_1 x8_2).f0).toList != a1.toList) = false := bne_eq_false_iff_eq.mpr c21; clear c21
                    by_cases c22 : ((rd_T54 l0_1 x8_2).f3).toList = a2.toList
                    · rw [if_pos c22] at H; have c22b0 : (((rd_T54 l0_1 x8_2).f3).toList == a2.toList) = true := beq_iff_eq.mpr c22; have c22b1 : (((rd_T54 l0_1 x8_2).f3).toList != a2.toList) = false := bne_eq_false_iff_eq.mpr c22; clear c22; replace H := Option.bind_eq_some_iff.mp H; obtain ⟨t173, A230, H⟩ := H; replace H : (spec_BookTransit.l0 k2 a1 a2 (wrap64 (x7_2 + t173)) (wrap64 (x8_2 + 1)) l0_0 l0_1) = some r := H; have A23 := Aside0.mk A230; clear A230; have H' := Aside0.mk H; clear H; obtain ⟨hcz24_0, hcz24_1, hfz24_0, hfz24_1⟩ := cf2 BK165; have p170 : 0 ≤ (x8_2 : Int) := oa; have q170 : x8_2 < (l0_1.length : Int) := oa; obtain ⟨ad170, e170, hx170_0, hx170_1, hx170_2, hx170_3, hx170_4, hx170_5, hx170_6, hx170_7⟩ := at_T54 HR0_1.out x8_2 p170 q170
                      cases e170
                      replace hx170_0 := cb HB hx170_0; replace hx170_1 := cb HB hx170_1; replace hx170_2 := cb HB hx170_2; replace hx170_3 := cb HB hx170_3; replace hx170_4 := cb HB hx170_4; replace hx170_5 := cb HB hx170_5; replace hx170_6 := cb HB hx170_6; replace hx170_7 := cb HB hx170_7; replace p170 := eq_true p170; replace q170 := eq_true q170; have p171 : 0 ≤ (x8_2 : Int) := oa; have q171 : x8_2 < (l0_1.length : Int) := oa; obtain ⟨ad171, e171, hx171_0, hx171_1, hx171_2, hx171_3, hx171_4, hx171_5, hx171_6, hx171_7⟩ := at_T54 HR0_1.out x8_2 p171 q171; obtain rfl : ad170 = ad171 := (by injection e171); replace hx171_0 := cb HB hx171_0; replace hx171_1 := cb HB hx171_1; replace hx171_2 := cb HB hx171_2; replace hx171_3 := cb HB hx171_3; replace hx171_4 := cb HB hx171_4; replace hx171_5 := cb HB hx171_5; replace hx171_6 := cb HB hx171_6; replace hx171_7 := cb HB hx171_7; replace p171 := eq_true p171; replace q171 := eq_true q171; have p172 : 0 ≤ (x8_2 : Int) := oa; have q172 : x8_2 < (l0_1.length : Int) := oa; obtain ⟨ad172, e172, hx172_0, hx172_1, hx172_2, hx172_3, hx172_4, hx172_5, hx172_6, hx172_7⟩ := at_T54 HR0_1.out x8_2 p172 q172; obtain rfl : ad170 = ad172 := (by injection e172); replace hx172_0 := cb HB hx172_0; replace hx172_1 := cb HB hx172_1; replace hx172_2 := cb HB hx172_2; replace hx172_3 := cb HB hx172_3; replace hx172_4 := cb HB hx172_4; replace hx172_5 := cb HB hx172_5; replace hx172_6 := cb HB hx172_6; replace hx172_7 := cb HB hx172_7; replace p172 := eq_true p172; replace q172 := eq_true q172
                      go_wp2_with (first | ((first | ((with_reducible refine gate_callee (f := 88) rfl ?_); refine goesL_ (some 58) rfl rfl Try.func88 (by kernel_rfl) rfl #[.agg #[.string ((rd_T54 l0_1 x8_2).f0), .string ((rd_T54 l0_1 x8_2).f1), .int .i64 ((rd_T54 l0_1 x8_2).f2), .string ((rd_T54 l0_1 x8_2).f3), .int .i64 ((rd_T54 l0_1 x8_2).f4), .int .i64 ((rd_T54 l0_1 x8_2).f5), .int .i64 ((rd_T54 l0_1 x8_2).f6), .int .i64 ((rd_T54 l0_1 x8_2).f7)]] rfl (by (try simp only [List.map_toArray, List.map_cons, List.map_nil]); first | done | rfl | (simp only [List.length_drop, List.length_take]; rfl)) ?_; (with_reducible refine (spec_LineTransit.calls k2 ((rd_T54 l0_1 x8_2).f0) ((rd_T54 l0_1 x8_2).f1) ((rd_T54 l0_1 x8_2).f2) ((rd_T54 l0_1 x8_2).f3) ((rd_T54 l0_1 x8_2).f4) ((rd_T54 l0_1 x8_2).f5) ((rd_T54 l0_1 x8_2).f6) ((rd_T54 l0_1 x8_2).f7) t173 _ A23.out).mono ?_); rintro e w25 ⟨rfl, hb⟩; refine ⟨_, rfl, ?_⟩) | (go_at_call 88; (with_reducible refine (spec_LineTransit.calls k2 ((rd_T54 l0_1 x8_2).f0) ((rd_T54 l0_1 x8_2).f1) ((rd_T54 l0_1 x8_2).f2) ((rd_T54 l0_1 x8_2).f3) ((rd_T54 l0_1 x8_2).f4) ((rd_T54 l0_1 x8_2).f5) ((rd_T54 l0_1 x8_2).f6) ((rd_T54 l0_1 x8_2).f7) t173 _ A23.out).mono ?_); rintro e w25 ⟨rfl, hb⟩)); replace BK165 := Aside0.mk (blk_below (ks BK165) hb); replace HB := Aside0.mk (below_step (bs HB) hb); (try clear hb); (try clear hb2); (try clear hk); (try clear hi)))
                      go_roundg k2
                      case measure => have := HJ3.out; have := HK2.out; omega
                      case rel => exact ⟨(wrap64 (x7_2 + t173)), (wrap64 (x8_2 + 1)), fg, fg, H', ⟨by have := HJ3.out; have := HK2.out; omega⟩, ⟨ks BK165⟩, ⟨bs HB⟩⟩
                    · rw [if_neg c22] at H; have c22b0 : (((rd_T54 l0_1 x8_2).f3).toList == a2.toList) = false := beq_eq_false_iff_ne.mpr c22; have c22b1 : (((rd_T54 l0_1 x8_2).f3).toList != a2.toList) = true := bne_iff_ne.mpr c22; have H' := Aside0.mk H; clear H; obtain ⟨hcz26_0, hcz26_1, hfz26_0, hfz26_1⟩ := cf2 BK165; have p170 : 0 ≤ (x8_2 : Int) := oa; have q170 : x8_2 < (l0_1.length : Int) := oa; obtain ⟨ad170, e170, hx170_0, hx170_1, hx170_2, hx170_3, hx170_4, hx170_5, hx170_6, hx170_7⟩ := at_T54 HR0_1.out x8_2 p170 q170
                      cases e170
                      replace hx170_0 := cb HB hx170_0; replace hx170_1 := cb HB hx170_1; replace hx170_2 := cb HB hx170_2; replace hx170_3 := cb HB hx170_3; replace hx170_4 := cb HB hx170_4; replace hx170_5 := cb HB hx170_5; replace hx170_6 := cb HB hx170_6; replace hx170_7 := cb HB hx170_7; replace p170 := eq_true p170; replace q170 := eq_true q170; have p171 : 0 ≤ (x8_2 : Int) := oa; have q171 : x8_2 < (l0_1.length : Int) := oa; obtain ⟨ad171, e171, hx171_0, hx171_1, hx171_2, hx171_3, hx171_4, hx171_5, hx171_6, hx171_7⟩ := at_T54 HR0_1.out x8_2 p171 q171; obtain rfl : ad170 = ad171 := (by injection e171); replace hx171_0 := cb HB hx171_0; replace hx171_1 := cb HB hx171_1; replace hx171_2 := cb HB hx171_2; replace hx171_3 := cb HB hx171_3; replace hx171_4 := cb HB hx171_4; replace hx171_5 := cb HB hx171_5; replace hx171_6 := cb HB hx171_6; replace hx171_7 := cb HB hx171_7; replace p171 := eq_true p171; replace q171 := eq_true q171
                      go_wp2
                      go_roundg k2
                      case measure => have := HJ3.out; have := HK2.out; omega
                      case rel => exact ⟨(x7_2), (wrap64 (x8_2 + 1)), fg, fg, H', ⟨by have := HJ3.out; have := HK2.out; omega⟩, ⟨ks BK165⟩, ⟨bs HB⟩⟩
                  · rw [if_neg c21] at H; have c21b0 : (((rd_T54 l0_1 x8_2).f0).toList == a1.toList) = false := beq_eq_false_iff_ne.mpr c21; have c21b1 : (((rd_T54 l0_1 x8_2).f0).toList != a1.toList) = true := bne_iff_ne.mpr c21; have H' := Aside0.mk H; clear H; obtain ⟨hcz27_0, hcz27_1, hfz27_0, hfz27_1⟩ := cf2 BK165; have p170 : 0 ≤ (x8_2 : Int) := oa; have q170 : x8_2 < (l0_1.length : Int) := oa; obtain ⟨ad170, e170, hx170_0, hx170_1, hx170_2, hx170_3, hx170_4, hx170_5, hx170_6, hx170_7⟩ := at_T54 HR0_1.out x8_2 p170 q170
                    cases e170
                    replace hx170_0 := cb HB hx170_0; replace hx170_1 := cb HB hx170_1; replace hx170_2 := cb HB hx170_2; replace hx170_3 := cb HB hx170_3; replace hx170_4 := cb HB hx170_4; replace hx170_5 := cb HB hx170_5; replace hx170_6 := cb HB hx170_6; replace hx170_7 := cb HB hx170_7; replace p170 := eq_true p170; replace q170 := eq_true q170
                    go_wp2
                    go_roundg k2
                    case measure => have := HJ3.out; have := HK2.out; omega
                    case rel => exact ⟨(x7_2), (wrap64 (x8_2 + 1)), fg, fg, H', ⟨by have := HJ3.out; have := HK2.out; omega⟩, ⟨ks BK165⟩, ⟨bs HB⟩⟩
                · rw [if_neg c20] at H
                  exact absurd H (by simp)
            · rw [if_neg c12] at H; have c12b0 : decide (x8_2 < (l0_1.length : Int)) = false := decide_eq_false c12; clear c12; obtain rfl := Option.some.inj H; obtain ⟨hcz28_0, hcz28_1, hfz28_0, hfz28_1⟩ := cf2 BK165
              go_wp2
              go_ret
              exact ⟨ff, bs HB⟩
end Go.Proofs.Ytefmkmhjbfpelaa.QT
