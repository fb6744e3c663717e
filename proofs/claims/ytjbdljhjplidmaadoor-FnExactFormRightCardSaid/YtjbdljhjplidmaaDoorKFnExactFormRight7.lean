-- Merged by a program of this session (wip/tool/pack.py) out of its own texts for this claim.
import Derived.Test.YtjbdljhjplidmaaDoorKFnExactFormRight0
import Derived.Test.YtjbdljhjplidmaaDoorKFnExactFormRight1
import Derived.Test.YtjbdljhjplidmaaDoorKFnExactFormRight2
import Derived.Test.YtjbdljhjplidmaaDoorKFnExactFormRight5
import Derived.Test.YtjbdljhjplidmaaDoorKFnExactFormRight6
namespace Go.Proofs.YtjbdljhjplidmaaDoor.QE
open Go.RowKit Go.Proofs.YtjbdljhjplidmaaDoorW.PrintWords Go.Proofs.YtjbdljhjplidmaaDoorW.PrintLast Go.Proofs.YtjbdljhjplidmaaDoorW.PrintMore
attribute [local go_sem] max2_int min2_int max_two min_two max_three min_three max_four min_four   -- for this text's walks alone
set_option linter.unusedVariables false
set_option linter.unusedSimpArgs false
def impl_FormRight.T14 : Bool × List (List Nat × List Nat) := (true, [([], []), ([], []), ([1], [1]), ([0, 2], [0, 2]), ([3], [3]), ([4], [4]), ([5, 4], [4, 5]), ([6, 4], [4, 6]), ([7, 4], [4, 7]), ([4, 8], [4, 8]), ([9, 4], [9]), ([10], [10]), ([10], [10]), ([11, 12, 10], [10, 11, 12]), ([10], [10]), ([14, 10], [10, 14]), ([15, 10], [10, 15]), ([16, 10], [10, 16]), ([13, 17, 10, 10], [10, 13, 17]), ([18, 10], [10, 18]), ([10, 19], [10, 19])])
def impl_FormRight.B14 : List Nat := [0, 0, 2, 7, 15, 31, 63, 127, 255, 511, 1023, 2047, 2047, 8191, 2047, 18431, 51199, 116735, 262143, 524287, 1048575]
theorem impl_FormRight.tab14 : rtab .any (opsOf Tryd.f14 14) = impl_FormRight.T14 := by kernel_rfl
theorem impl_FormRight.bits14 : waitsOk impl_FormRight.T14.2 impl_FormRight.B14 = true := by kernel_rfl
set_option maxHeartbeats 8000000 in
set_option maxRecDepth 100000 in
theorem impl_FormRight.calls (k : Nat) (a0 : ByteArray) (a1_0 : ByteArray) (A1_1 : Option Addr) (c1_1 : Nat) (l1_1 : List (S65)) (r : Int) (w : World) (hr1_1 : Kd.C k65 w A1_1 l1_1.length l1_1) (hc1_1 : l1_1.length ≤ c1_1) (hTC : TbC w) (hTP : TbP w) (h : impl_FormRight.f k a0 a1_0 l1_1 = some r) :
    Calls Tryd.prog 14 #[.string a0, .agg #[.string a1_0, .slice A1_1 l1_1.length c1_1]] w fun e w' => e = .returned (.int .i64 r) ∧ Below w.heap.size w w' := by
  have HTC := Aside0.mk hTC; clear hTC; have HTP := Aside0.mk hTP; clear hTP
  have hu36 := Tryd.underlying36; have hu65 := Tryd.underlying65; have HR1_1 := Aside0.mk hr1_1; have HC1_1 := Aside0.mk hc1_1; clear hr1_1 hc1_1; have HB := Aside0.mk (Below.refl w.heap.size w); have H : ((strings_Cut.f a0 (⟨#[63]⟩ : ByteArray)).bind fun bt194 => (if bt194.1.size + bt194.2.1.size ≤ 9223372036854775807 then (impl_FormRight.l0 k a0 bt194.1 (bt194.1 ++ bt194.2.1) ((bt194.1 ++ bt194.2.1).size : Int) 0 a1_0 l1_1) else (none))) = some r := h; clear h; replace H := Option.bind_eq_some_iff.mp H; obtain ⟨⟨t194, t195, t196⟩, A30, H⟩ := H; replace H : (if t194.size + t195.size ≤ 9223372036854775807 then (impl_FormRight.l0 k a0 t194 (t194 ++ t195) ((t194 ++ t195).size : Int) 0 a1_0 l1_1) else (none)) = some r := H; have A3 := Aside0.mk A30; clear A30
  by_cases c4 : t194.size + t195.size ≤ 9223372036854775807
  · rw [if_pos c4] at H; have c4b0 := eq_true c4; have c4b1 : decide (t194.size + t195.size ≤ 9223372036854775807) = true := decide_eq_true c4
    try have c4b2 : (9223372036854775807 < t194.size + t195.size) = False := eq_false (Nat.not_lt.2 c4)
    have H' := Aside0.mk H; clear H
    go_enter Tryd.func14, Tryd.ntmps14
    go_wp2_with (first | ((with_reducible refine gate_dst (N := 3) rfl ?_); (try (refine gate_guard (by rfl) ?_; dsimp only)); refine bx 3 (cs := #[.string a1_0, .slice A1_1 l1_1.length c1_1]) (t := 36) ?_; intro gb193 hg w5 hbox hb; have BK193 := Aside0.mk (hbox); have GW193 := Aside0.mk ((gs hg (bs HB))); have GE193 := Aside0.mk ((gs hg (bs HB))); replace HB := Aside0.mk (below_step (bs HB) hb); clear hb hbox hg) | ((first | ((with_reducible refine gate_callee (f := 32) rfl ?_); refine goesL_ (some 14) rfl rfl Tryd.func32 (by kernel_rfl) rfl #[.string a0, .string (⟨#[63]⟩ : ByteArray)] rfl (by (try simp only [List.map_toArray, List.map_cons, List.map_nil]); first | done | rfl | (simp only [List.length_drop, List.length_take]; rfl)) ?_; (with_reducible refine (strings_Cut.calls a0 (⟨#[63]⟩ : ByteArray) t194 t195 t196 _ (tbC HTC (bs HB)) A3.out).mono ?_); rintro e w6 ⟨rfl, hb⟩; refine ⟨_, rfl, ?_⟩) | (go_at_call 32; (with_reducible refine (strings_Cut.calls a0 (⟨#[63]⟩ : ByteArray) t194 t195 t196 _ (tbC HTC (bs HB)) A3.out).mono ?_); rintro e w6 ⟨rfl, hb⟩)); replace BK193 := Aside0.mk (blk_below (ks BK193) hb); replace HB := Aside0.mk (below_step (bs HB) hb); (try clear hb); (try clear hb2); (try clear hk); (try clear hi)))
    go_loopg [23] k (fun kq v23 w' => ∃ (x23_1 : Int), v23 = .int .i64 x23_1 ∧ Aside0 (impl_FormRight.l0 kq a0 t194 (t194 ++ t195) ((t194 ++ t195).size : Int) x23_1 a1_0 l1_1 = some r) ∧ Aside0 (kq ≤ k) ∧ Aside0 (w'.heap[gb193]? = some (.cells #[.string a1_0, (.slice A1_1 l1_1.length c1_1)] 36 (0, 0))) ∧ Aside0 (Below w.heap.size w w'))
    case atStart => exact ⟨(0), fg, H', ⟨Nat.le_refl _⟩, ⟨ks BK193⟩, ⟨bs HB⟩⟩
    case round =>
      clear H'
      try clear c1
      try clear p2
      try clear c3
      try clear c4
      try clear c4b0
      try clear c4b1
      try clear c4b2
      obtain ⟨x23_1, rfl, HA, HK1, BK193, HB⟩ := hrel
      cases gk with
      | zero => exact absurd HA.out (by simp [impl_FormRight.l0])
      | succ k1 =>
        have H := HA.out; clear HA; simp only [impl_FormRight.l0] at H
        by_cases c7 : x23_1 < ((t194 ++ t195).size : Int)
        · rw [if_pos c7] at H; have c7b0 : decide (x23_1 < ((t194 ++ t195).size : Int)) = true := decide_eq_true c7; (try (have c7b0n := c7b0; simp only [ByteArray.size_append, jsz_mk, List.size_toArray, List.length_cons, List.length_nil, Nat.zero_add, Nat.reduceAdd, Int.natCast_add, Int.cast_ofNat_Int] at c7b0n)); clear c7
          by_cases c8 : 0 ≤ x23_1
          · rw [if_pos c8] at H; have c8b0 : decide (0 ≤ x23_1) = true := decide_eq_true c8; clear c8
            by_cases c9 : x23_1 < ((t194 ++ t195).size : Int)
            · rw [if_pos c9] at H; have c9b0 : decide (x23_1 < ((t194 ++ t195).size : Int)) = true := decide_eq_true c9; (try (have c9b0n := c9b0; simp only [ByteArray.size_append, jsz_mk, List.size_toArray, List.length_cons, List.length_nil, Nat.zero_add, Nat.reduceAdd, Int.natCast_add, Int.cast_ofNat_Int] at c9b0n)); clear c9; replace H := Option.bind_eq_some_iff.mp H; obtain ⟨t197, A110, H⟩ := H; replace H : (if t197 < 0 then (some 0) else (impl_FormRight.l0 k1 a0 t194 (t194 ++ t195) ((t194 ++ t195).size : Int) (wrap64 (x23_1 + 1)) a1_0 l1_1)) = some r := H; have A11 := Aside0.mk A110; clear A110; have p10 : 0 ≤ (x23_1 : Int) := oa; have q10 : x23_1 < ((t194 ++ t195).size : Int) := oa; have hx10 := bt_at (t194 ++ t195) x23_1; replace p10 := eq_true p10; replace q10 := eq_true q10; (try (have q10n := q10; simp only [ByteArray.size_append, jsz_mk, List.size_toArray, List.length_cons, List.length_nil, Nat.zero_add, Nat.reduceAdd, Int.natCast_add, Int.cast_ofNat_Int] at q10n))
              try go_wp2_with (fail)
              go_at_call 33; (with_reducible refine (strings_IndexByte.calls (⟨#[114, 110, 113, 122, 100, 116]⟩ : ByteArray) (bt (t194 ++ t195) x23_1) t197 _ A11.out).mono ?_); rintro e w' ⟨rfl, ⟨nd, rfl⟩⟩
              by_cases c12 : t197 < 0
              · rw [if_pos c12] at H; have c12b0 : decide (t197 < 0) = true := decide_eq_true c12; clear c12; obtain rfl := Option.some.inj H
                go_wp2
                go_ret
                exact ⟨ff, bs HB⟩
              · rw [if_neg c12] at H; have c12b0 : decide (t197 < 0) = false := decide_eq_false c12; clear c12; have H' := Aside0.mk H; clear H
                go_wp2
                go_roundg k1
                case measure => have := HK1.out; omega
                case rel => exact ⟨(wrap64 (x23_1 + 1)), fg, H', ⟨by have := HK1.out; omega⟩, ⟨ks BK193⟩, ⟨bs HB⟩⟩
            · rw [if_neg c9] at H
              exact absurd H (by simp)
          · rw [if_neg c8] at H
            exact absurd H (by simp)
        · rw [if_neg c7] at H; have c7b0 : decide (x23_1 < ((t194 ++ t195).size : Int)) = false := decide_eq_false c7; (try (have c7b0n := c7b0; simp only [ByteArray.size_append, jsz_mk, List.size_toArray, List.length_cons, List.length_nil, Nat.zero_add, Nat.reduceAdd, Int.natCast_add, Int.cast_ofNat_Int] at c7b0n)); clear c7; obtain ⟨y198, hy198⟩ : ∃ y_ : List ByteArray, y_ = (([a0] : List ByteArray)) := ⟨_, rfl⟩
          replace H : ((impl_longText.f k1 y198).bind fun t201 => (if t201 = true then (some 0) else (impl_FormRight.l1 k1 t194 (t194 ++ t195) l1_1 (l1_1.length : Int) 0 a1_0 l1_1))) = some r := by first | (rw [hy198]; with_reducible exact H) | (have H2_ := (Option.bind_some _ _).symm.trans H; rw [hy198]; with_reducible exact H2_) | (have H2_ := (Option.bind_some _ _).symm.trans H; with_reducible exact H2_) | with_reducible exact H | (rw [hy198]; exact H) | exact H
          have Ny198 := Aside0.mk hy198; clear hy198; replace H := Option.bind_eq_some_iff.mp H; obtain ⟨t201, A130, H⟩ := H; replace H : (if t201 = true then (some 0) else (impl_FormRight.l1 k1 t194 (t194 ++ t195) l1_1 (l1_1.length : Int) 0 a1_0 l1_1)) = some r := H; have A13 := Aside0.mk A130; clear A130
          try go_wp2_with (first | ((with_reducible refine gate_dst (N := 33) rfl ?_); (try (refine gate_guard (by rfl) ?_; dsimp only)); refine Kd.R_lit Kd.string _ 9 ?hg (N := 33) ?hd (xs := ([a0] : List ByteArray)) (inner := [.string a0]) (ok := fun _ => True) (okp := fun _ => True) ?hr ?hp (fun _ hk => hk) trivial (Below.refl _ _) (Nat.le_refl _) (by simp) ?_; (case hd => rfl); (case hg => rfl); (case hr => first | (go_simp; done) | (go_simp; rfl)); (case hp => exact (Reps.one (show Kd.M Kd.string _ _ _ a0 [.string a0] from rfl) (Reps.none _ _))); intro v199 w14 ho15 hb hg_ hnew_; clear hg_ hnew_; (first | rw [← Ny198.out] at ho15 | (simp only [Int.reduceToNat] at ho15; rw [← Ny198.out] at ho15)); have HO200 := Aside0.mk (Kd.R_lower ho15 (below_size (bs HB))); replace BK193 := Aside0.mk (blk_below (ks BK193) hb); replace HB := Aside0.mk (below_step (bs HB) hb); clear hb ho15; obtain ⟨Ao16, co16, eo16⟩ := Kd.R_slice HO200.out; subst eo16))
          go_at_call 34; (with_reducible refine (impl_longText.calls k1 _ _ y198 t201 _ ?side1 ?side2 A13.out).mono ?_); (case side1 => repeat (first | exact (Kd.R_reads' HO200.out).2.2 | (with_reducible refine Kd.C_alloc ?_ _) | (with_reducible refine Kd.C_drewN ?_ _) | (with_reducible refine Kd.C_drew ?_))); (case side2 => exact (Kd.R_reads' HO200.out).2.1); rintro e w' ⟨rfl, ⟨nd, rfl⟩⟩
          by_cases c17 : t201 = true
          · subst c17
            have H1 : (some 0) = some r := by rw [if_pos rfl] at H; exact H
            clear H; have H := H1; clear H1; obtain rfl := Option.some.inj H
            go_wp2
            go_ret
            exact ⟨ff, bs HB⟩
          · replace c17 := Bool.eq_false_iff.mpr c17; subst c17
            have H1 : (impl_FormRight.l1 k1 t194 (t194 ++ t195) l1_1 (l1_1.length : Int) 0 a1_0 l1_1) = some r := by rw [if_neg (show ¬ (false = true) by decide)] at H; exact H
            clear H; have H := H1; clear H1; have H' := Aside0.mk H; clear H; obtain ⟨hcz18_0, hcz18_1, hfz18_0, hfz18_1⟩ := cf2 BK193
            go_wp2
            go_loopg [38] k1 (fun kq v38 w' => ∃ (x38_2 : Int), v38 = .int .i64 x38_2 ∧ Aside0 (impl_FormRight.l1 kq t194 (t194 ++ t195) l1_1 (l1_1.length : Int) x38_2 a1_0 l1_1 = some r) ∧ Aside0 (kq ≤ k1) ∧ Aside0 (w'.heap[gb193]? = some (.cells #[.string a1_0, (.slice A1_1 l1_1.length c1_1)] 36 (0, 0))) ∧ Aside0 (Below w.heap.size w w'))
            case atStart => exact ⟨(0), fg, H', ⟨Nat.le_refl _⟩, ⟨ks BK193⟩, ⟨bs HB⟩⟩
            case round =>
              clear H'
              try clear c1
              try clear p1
              try clear q1
              try clear hx1
              try clear p2
              try clear c3
              try clear c4
              try clear c4b0
              try clear c4b1
              try clear c4b2
              try clear p6
              try clear c7
              try clear c7b0
              try clear c8
              try clear c8b0
              try clear c9
              try clear c9b0
              try clear p10
              try clear q10
              try clear hx10
              try clear c12
              try clear c12b0
              try clear c14
              try clear c17
              try clear hcz18_0
              try clear hcz18_1
              try clear hfz18_0
              try clear hfz18_1
              try clear p10
              try clear p2
              try clear q10
              obtain ⟨x38_2, rfl, HA, HK2, BK193, HB⟩ := hrel
              cases gk with
              | zero => exact absurd HA.out (by simp [impl_FormRight.l1])
              | succ k2 =>
                have H := HA.out; clear HA; simp only [impl_FormRight.l1] at H
                by_cases c19 : x38_2 < (l1_1.length : Int)
                · rw [if_pos c19] at H; have c19b0 : decide (x38_2 < (l1_1.length : Int)) = true := decide_eq_true c19; clear c19
                  by_cases c20 : 0 ≤ x38_2
                  · rw [if_pos c20] at H; have c20b0 : decide (0 ≤ x38_2) = true := decide_eq_true c20; clear c20
                    by_cases c21 : x38_2 < (l1_1.length : Int)
                    · rw [if_pos c21] at H; have c21b0 : decide (x38_2 < (l1_1.length : Int)) = true := decide_eq_true c21; clear c21
                      by_cases c22 : x38_2 = ((t194 ++ t195).size : Int)
                      · rw [if_pos c22] at H; have c22b0 : (x38_2 == ((t194 ++ t195).size : Int)) = true := beq_iff_eq.mpr c22; (try (have c22b0n := c22b0; simp only [ByteArray.size_append, jsz_mk, List.size_toArray, List.length_cons, List.length_nil, Nat.zero_add, Nat.reduceAdd, Int.natCast_add, Int.cast_ofNat_Int] at c22b0n)); have c22b1 : (x38_2 != ((t194 ++ t195).size : Int)) = false := bne_eq_false_iff_eq.mpr c22; (try (have c22b1n := c22b1; simp only [ByteArray.size_append, jsz_mk, List.size_toArray, List.length_cons, List.length_nil, Nat.zero_add, Nat.reduceAdd, Int.natCast_add, Int.cast_ofNat_Int] at c22b1n)); clear c22; obtain rfl := Option.some.inj H; have p202 : 0 ≤ (x38_2 : Int) := oa; have q202 : x38_2 < (l1_1.length : Int) := oa; obtain ⟨ad202, A202_0, c202_0, e202, hx202_0, hl202_0, hi202_0⟩ := at_T65 HR1_1.out x38_2 p202 q202
                        cases e202
                        replace hx202_0 := cb HB hx202_0; have HR202_0 := Aside0.mk hi202_0; have HC202_0 := Aside0.mk hl202_0; clear hi202_0 hl202_0; replace p202 := eq_true p202; replace q202 := eq_true q202
                        try go_wp2_with (first | ((with_reducible refine gate_dst (N := 11) rfl ?_); (try (refine gate_guard (by rfl) ?_; dsimp only)); refine bx 11 (cs := #[.slice none 0 0]) (t := 65) ?_; intro gb203 hg w23 hbox hb; have BK203 := Aside0.mk (hbox); have GW203 := Aside0.mk ((gs hg (bs HB))); have GE203 := Aside0.mk ((gs hg (bs HB))); replace HB := Aside0.mk (below_step (bs HB) hb); have NB193_203 := Aside0.mk ((gn hg (ks BK193))); have NB203_193 := Aside0.mk ((gm hg (ks BK193))); replace BK193 := Aside0.mk (blk_below (ks BK193) hb); clear hb hbox hg; have hnb24 := NB203_193.out; have hnc24 := NB193_203.out; obtain ⟨hcz25_0, hfz25_0⟩ := cf1 BK203))
                        have n0_ : Aside0 ((w23.setCell ⟨gb203, 0, none⟩ (.slice A202_0 ((rd_T65 l1_1 x38_2).f0).length c202_0)).heap[gb193]? = some (.cells #[.string a1_0, .slice (some ad202) l1_1.length c1_1] 36 (0, 0))) := ⟨ks BK193⟩; have n1_ : Aside0 ((w23.setCell ⟨gb203, 0, none⟩ (.slice A202_0 ((rd_T65 l1_1 x38_2).f0).length c202_0)).heap[gb203]? = some (.cells #[.slice A202_0 ((rd_T65 l1_1 x38_2).f0).length c202_0] 65 (0, 0))) := ⟨kp BK203⟩; have n2_ : Aside0 (Below w.heap.size w (w23.setCell ⟨gb203, 0, none⟩ (.slice A202_0 ((rd_T65 l1_1 x38_2).f0).length c202_0))) := ⟨bs HB⟩; (try clear BK193); (try clear BK203); (try clear HB)
                        generalize (w23.setCell ⟨gb203, 0, none⟩ (.slice A202_0 ((rd_T65 l1_1 x38_2).f0).length c202_0)) = w26 at n0_ n1_ n2_ ⊢
                        have BK193 := n0_; have BK203 := n1_; have HB := n2_; clear n0_ n1_ n2_; replace BK193 := Aside0.mk (blk_drew BK193.out); replace BK203 := Aside0.mk (blk_drew BK203.out); replace HB := Aside0.mk (below_drew1 HB.out); refine start_ (n := 21) (S := fun w' => True) (ds := []) #[false, false, false, false, false, false, false, false, false, false, false, false, false, false, false, false, false, false, false, false, false] (by kernel_rfl) rfl rfl trivial (fun hHeld => ?_); refine with_tabW impl_FormRight.tab14 impl_FormRight.bits14 (fun HT_ HW_ => ?_)
                        generalize w26.drew = w27 at BK193 BK203 HB hHeld ⊢
                        refine pA 0 43 HT_ ?_; refine pA 1 44 HT_ ?_; refine pA 2 45 HT_ ?_; refine pA 3 46 HT_ ?_; refine pA 4 47 HT_ ?_; refine pB 5 48 HT_ ?_; refine pB 6 49 HT_ ?_; refine pB 7 50 HT_ ?_; refine pB 8 51 HT_ ?_; refine pA 9 52 HT_ ?_; refine pA 10 53 HT_ ?_; refine pB 11 54 HT_ ?_; refine pB 12 55 HT_ ?_; refine pB 13 56 HT_ ?_; refine pB 14 57 HT_ ?_; refine pB 15 58 HT_ ?_; refine pB 16 59 HT_ ?_; refine pB 17 60 HT_ ?_; refine pB 18 61 HT_ ?_; refine pB 19 62 HT_ ?_; refine pA 20 63 HT_ ?_; refine done_ (done_of HT_.out (by kernel_rfl)) ?_
                        try go_wp2
                        go_ret
                        exact ⟨ff, bs HB⟩
                      · rw [if_neg c22] at H; have c22b0 : (x38_2 == ((t194 ++ t195).size : Int)) = false := beq_eq_false_iff_ne.mpr c22; (try (have c22b0n := c22b0; simp only [ByteArray.size_append, jsz_mk, List.size_toArray, List.length_cons, List.length_nil, Nat.zero_add, Nat.reduceAdd, Int.natCast_add, Int.cast_ofNat_Int] at c22b0n)); have c22b1 : (x38_2 != ((t194 ++ t195).size : Int)) = true := bne_iff_ne.mpr c22; (try (have c22b1n := c22b1; simp only [ByteArray.size_append, jsz_mk, List.size_toArray, List.length_cons, List.length_nil, Nat.zero_add, Nat.reduceAdd, Int.natCast_add, Int.cast_ofNat_Int] at c22b1n))
                        by_cases c28 : (((rd_T65 l1_1 x38_2).f0).length : Int) = 1
                        · rw [if_pos c28] at H; have c28b0 : ((((rd_T65 l1_1 x38_2).f0).length : Int) == 1) = true := beq_iff_eq.mpr c28; have c28b1 : ((((rd_T65 l1_1 x38_2).f0).length : Int) != 1) = false := bne_eq_false_iff_eq.mpr c28; clear c28
                          by_cases c29 : x38_2 < ((t194 ++ t195).size : Int)
                          · rw [if_pos c29] at H; have c29b0 : decide (x38_2 < ((t194 ++ t195).size : Int)) = true := decide_eq_true c29; (try (have c29b0n := c29b0; simp only [ByteArray.size_append, jsz_mk, List.size_toArray, List.length_cons, List.length_nil, Nat.zero_add, Nat.reduceAdd, Int.natCast_add, Int.cast_ofNat_Int] at c29b0n)); clear c29
                            by_cases c31 : 0 < (((rd_T65 l1_1 x38_2).f0).length : Int)
                            · rw [if_pos c31] at H; have c31b0 : decide (0 < (((rd_T65 l1_1 x38_2).f0).length : Int)) = true := decide_eq_true c31; have c31b1 : decide (0 < ((rd_T65 l1_1 x38_2).f0).length) = true := decide_eq_true (by omega); clear c31; replace H := Option.bind_eq_some_iff.mp H; obtain ⟨t205, A320, H⟩ := H; replace H : (if t205 = true then (impl_FormRight.l1 k2 t194 (t194 ++ t195) l1_1 (l1_1.length : Int) (wrap64 (x38_2 + 1)) a1_0 l1_1) else (some x38_2)) = some r := H; have A32 := Aside0.mk A320; clear A320
                              by_cases c33 : t205 = true
                              · subst c33
                                have H1 : (impl_FormRight.l1 k2 t194 (t194 ++ t195) l1_1 (l1_1.length : Int) (wrap64 (x38_2 + 1)) a1_0 l1_1) = some r := by rw [if_pos rfl] at H; exact H
                                clear H; have H := H1; clear H1; have H' := Aside0.mk H; clear H; have p202 : 0 ≤ (x38_2 : Int) := oa; have q202 : x38_2 < (l1_1.length : Int) := oa; obtain ⟨ad202, A202_0, c202_0, e202, hx202_0, hl202_0, hi202_0⟩ := at_T65 HR1_1.out x38_2 p202 q202
                                cases e202
                                replace hx202_0 := cb HB hx202_0; have HR202_0 := Aside0.mk hi202_0; have HC202_0 := Aside0.mk hl202_0; clear hi202_0 hl202_0; replace p202 := eq_true p202; replace q202 := eq_true q202
                                try go_wp2_with (first | ((with_reducible refine gate_dst (N := 11) rfl ?_); (try (refine gate_guard (by rfl) ?_; dsimp only)); refine bx 11 (cs := #[.slice none 0 0]) (t := 65) ?_; intro gb203 hg w34 hbox hb; have BK203 := Aside0.mk (hbox); have GW203 := Aside0.mk ((gs hg (bs HB))); have GE203 := Aside0.mk ((gs hg (bs HB))); replace HB := Aside0.mk (below_step (bs HB) hb); have NB193_203 := Aside0.mk ((gn hg (ks BK193))); have NB203_193 := Aside0.mk ((gm hg (ks BK193))); replace BK193 := Aside0.mk (blk_below (ks BK193) hb); clear hb hbox hg; have hnb35 := NB203_193.out; have hnc35 := NB193_203.out; obtain ⟨hcz36_0, hfz36_0⟩ := cf1 BK203))
                                have n0_ : Aside0 ((w34.setCell ⟨gb203, 0, none⟩ (.slice A202_0 ((rd_T65 l1_1 x38_2).f0).length c202_0)).heap[gb193]? = some (.cells #[.string a1_0, .slice (some ad202) l1_1.length c1_1] 36 (0, 0))) := ⟨ks BK193⟩; have n1_ : Aside0 ((w34.setCell ⟨gb203, 0, none⟩ (.slice A202_0 ((rd_T65 l1_1 x38_2).f0).length c202_0)).heap[gb203]? = some (.cells #[.slice A202_0 ((rd_T65 l1_1 x38_2).f0).length c202_0] 65 (0, 0))) := ⟨kp BK203⟩; have n2_ : Aside0 (Below w.heap.size w (w34.setCell ⟨gb203, 0, none⟩ (.slice A202_0 ((rd_T65 l1_1 x38_2).f0).length c202_0))) := ⟨bs HB⟩; (try clear BK193); (try clear BK203); (try clear HB)
                                generalize (w34.setCell ⟨gb203, 0, none⟩ (.slice A202_0 ((rd_T65 l1_1 x38_2).f0).length c202_0)) = w37 at n0_ n1_ n2_ ⊢
                                have BK193 := n0_; have BK203 := n1_; have HB := n2_; clear n0_ n1_ n2_; replace BK193 := Aside0.mk (blk_drew BK193.out); replace BK203 := Aside0.mk (blk_drew BK203.out); replace HB := Aside0.mk (below_drew1 HB.out); have p30 : 0 ≤ (x38_2 : Int) := oa; have q30 : x38_2 < ((t194 ++ t195).size : Int) := oa; have hx30 := bt_at (t194 ++ t195) x38_2; replace p30 := eq_true p30; replace q30 := eq_true q30; (try (have q30n := q30; simp only [ByteArray.size_append, jsz_mk, List.size_toArray, List.length_cons, List.length_nil, Nat.zero_add, Nat.reduceAdd, Int.natCast_add, Int.cast_ofNat_Int] at q30n)); have p204 : 0 ≤ (0 : Int) := (by omega); have q204 : 0 < (((rd_T65 l1_1 x38_2).f0).length : Int) := oa; obtain ⟨ad204, e204, hx204_0⟩ := Kd.at_string HR202_0.out 0 p204 q204; have hw204_0 := hx204_0
                                (try rw [show ((0 : Int)).toNat = 0 from rfl] at hw204_0)
                                (try rw [show 0 * 1 = 0 from rfl] at hw204_0)
                                (try rw [Addr.add_zero'] at hw204_0)
                                cases e204
                                have qi204 : (0 < ((rd_T65 l1_1 x38_2).f0).length) = True := eq_true (by omega)
                                (try rw [show ((0 : Int)).toNat = 0 from rfl] at hx204_0)
                                (try rw [Addr.add_zero'] at hx204_0)
                                replace hx204_0 := cb HB hx204_0; replace p204 := eq_true p204; replace q204 := eq_true q204; refine start_ (n := 21) (S := fun w' => w'.cell? ⟨gb203, 0, none⟩ = some (.slice (some ad204) ((rd_T65 l1_1 x38_2).f0).length c202_0) ∧ w'.cell? ad204 = some (.string (rdOf ByteArray.empty ((rd_T65 l1_1 x38_2).f0) 0))) (ds := []) #[false, false, false, false, false, false, false, false, false, false, false, false, false, false, false, false, false, false, false, false, false] (by kernel_rfl) rfl rfl ⟨(blk_cell BK203.out 0).trans rfl, ((cb HB hw204_0).trans rfl)⟩ (fun hHeld => ?_); refine with_tabW impl_FormRight.tab14 impl_FormRight.bits14 (fun HT_ HW_ => ?_)
                                generalize w37.drew = w38 at BK193 BK203 HB hx204_0 hHeld ⊢
                                refine pA 0 43 HT_ ?_; refine pA 1 44 HT_ ?_; refine pA 2 45 HT_ ?_; refine pA 3 46 HT_ ?_; refine pA 4 47 HT_ ?_; refine pA 5 48 HT_ ?_; refine tA 6 49 HT_ HW_ hHeld ?_; refine pA 7 50 HT_ ?_; refine pA 8 51 HT_ ?_; refine pA 9 52 HT_ ?_; refine pA 10 53 HT_ ?_; refine pA 11 54 HT_ ?_; refine pA 12 55 HT_ ?_; refine pA 14 57 HT_ ?_; refine tA 13 56 HT_ HW_ hHeld ?_; refine tA 15 58 HT_ HW_ hHeld ?_; refine pA 16 59 HT_ ?_; refine tA 17 60 HT_ HW_ hHeld ?_; refine oA 18 61 HT_ (fun K hK => ?_); refine gA Tryd.func35 #[.int .u8 (bt (t194 ++ t195) x38_2), .string (rdOf ByteArray.empty ((rd_T65 l1_1 x38_2).f0) 0)] ?_; (with_reducible refine (impl_isOf.calls k2 (bt (t194 ++ t195) x38_2) (rdOf ByteArray.empty ((rd_T65 l1_1 x38_2).f0) 0) true _ (tbP HTP (bs HB)) A32.out).mono ?_); rintro e w39 ⟨rfl, hb⟩; refine ⟨_, rfl, ?_⟩; replace BK193 := Aside0.mk (blk_below (ks BK193) hb); replace BK203 := Aside0.mk (blk_below (ks BK203) hb); replace HB := Aside0.mk (below_step (bs HB) hb); (try clear hb); (try clear hb2); (try clear hk); (try clear hi); refine hK.out _ _ ⟨(blk_cell BK203.out 0).trans rfl, ((cb HB hw204_0).trans rfl)⟩ (fun hHeld => ?_); clear hK K; refine nA 61 ?_; refine pA 19 62 HT_ ?_; refine pA 20 63 HT_ ?_; refine done_ (done_of HT_.out (by kernel_rfl)) ?_
                                try go_wp2
                                go_roundg k2
                                case measure => have := HK1.out; have := HK2.out; omega
                                case rel => exact ⟨(wrap64 (x38_2 + 1)), fg, H', ⟨by have := HK1.out; have := HK2.out; omega⟩, ⟨ks BK193⟩, ⟨bs HB⟩⟩
                              · replace c33 := Bool.eq_false_iff.mpr c33; subst c33
                                have H1 : (some x38_2) = some r := by rw [if_neg (show ¬ (false = true) by decide)] at H; exact H
                                clear H; have H := H1; clear H1; obtain rfl := Option.some.inj H; have p202 : 0 ≤ (x38_2 : Int) := oa; have q202 : x38_2 < (l1_1.length : Int) := oa; obtain ⟨ad202, A202_0, c202_0, e202, hx202_0, hl202_0, hi202_0⟩ := at_T65 HR1_1.out x38_2 p202 q202
                                cases e202
                                replace hx202_0 := cb HB hx202_0; have HR202_0 := Aside0.mk hi202_0; have HC202_0 := Aside0.mk hl202_0; clear hi202_0 hl202_0; replace p202 := eq_true p202; replace q202 := eq_true q202
                                try go_wp2_with (first | ((with_reducible refine gate_dst (N := 11) rfl ?_); (try (refine gate_guard (by rfl) ?_; dsimp only)); refine bx 11 (cs := #[.slice none 0 0]) (t := 65) ?_; intro gb203 hg w40 hbox hb; have BK203 := Aside0.mk (hbox); have GW203 := Aside0.mk ((gs hg (bs HB))); have GE203 := Aside0.mk ((gs hg (bs HB))); replace HB := Aside0.mk (below_step (bs HB) hb); have NB193_203 := Aside0.mk ((gn hg (ks BK193))); have NB203_193 := Aside0.mk ((gm hg (ks BK193))); replace BK193 := Aside0.mk (blk_below (ks BK193) hb); clear hb hbox hg; have hnb41 := NB203_193.out; have hnc41 := NB193_203.out; obtain ⟨hcz42_0, hfz42_0⟩ := cf1 BK203))
                                have n0_ : Aside0 ((w40.setCell ⟨gb203, 0, none⟩ (.slice A202_0 ((rd_T65 l1_1 x38_2).f0).length c202_0)).heap[gb193]? = some (.cells #[.string a1_0, .slice (some ad202) l1_1.length c1_1] 36 (0, 0))) := ⟨ks BK193⟩; have n1_ : Aside0 ((w40.setCell ⟨gb203, 0, none⟩ (.slice A202_0 ((rd_T65 l1_1 x38_2).f0).length c202_0)).heap[gb203]? = some (.cells #[.slice A202_0 ((rd_T65 l1_1 x38_2).f0).length c202_0] 65 (0, 0))) := ⟨kp BK203⟩; have n2_ : Aside0 (Below w.heap.size w (w40.setCell ⟨gb203, 0, none⟩ (.slice A202_0 ((rd_T65 l1_1 x38_2).f0).length c202_0))) := ⟨bs HB⟩; (try clear BK193); (try clear BK203); (try clear HB)
                                generalize (w40.setCell ⟨gb203, 0, none⟩ (.slice A202_0 ((rd_T65 l1_1 x38_2).f0).length c202_0)) = w43 at n0_ n1_ n2_ ⊢
                                have BK193 := n0_; have BK203 := n1_; have HB := n2_; clear n0_ n1_ n2_; replace BK193 := Aside0.mk (blk_drew BK193.out); replace BK203 := Aside0.mk (blk_drew BK203.out); replace HB := Aside0.mk (below_drew1 HB.out); have p30 : 0 ≤ (x38_2 : Int) := oa; have q30 : x38_2 < ((t194 ++ t195).size : Int) := oa; have hx30 := bt_at (t194 ++ t195) x38_2; replace p30 := eq_true p30; replace q30 := eq_true q30; (try (have q30n := q30; simp only [ByteArray.size_append, jsz_mk, List.size_toArray, List.length_cons, List.length_nil, Nat.zero_add, Nat.reduceAdd, Int.natCast_add, Int.cast_ofNat_Int] at q30n)); have p204 : 0 ≤ (0 : Int) := (by omega); have q204 : 0 < (((rd_T65 l1_1 x38_2).f0).length : Int) := oa; obtain ⟨ad204, e204, hx204_0⟩ := Kd.at_string HR202_0.out 0 p204 q204; have hw204_0 := hx204_0
                                (try rw [show ((0 : Int)).toNat = 0 from rfl] at hw204_0)
                                (try rw [show 0 * 1 = 0 from rfl] at hw204_0)
                                (try rw [Addr.add_zero'] at hw204_0)
                                cases e204
                                have qi204 : (0 < ((rd_T65 l1_1 x38_2).f0).length) = True := eq_true (by omega)
                                (try rw [show ((0 : Int)).toNat = 0 from rfl] at hx204_0)
                                (try rw [Addr.add_zero'] at hx204_0)
                                replace hx204_0 := cb HB hx204_0; replace p204 := eq_true p204; replace q204 := eq_true q204; refine start_ (n := 21) (S := fun w' => w'.cell? ⟨gb203, 0, none⟩ = some (.slice (some ad204) ((rd_T65 l1_1 x38_2).f0).length c202_0) ∧ w'.cell? ad204 = some (.string (rdOf ByteArray.empty ((rd_T65 l1_1 x38_2).f0) 0))) (ds := []) #[false, false, false, false, false, false, false, false, false, false, false, false, false, false, false, false, false, false, false, false, false] (by kernel_rfl) rfl rfl ⟨(blk_cell BK203.out 0).trans rfl, ((cb HB hw204_0).trans rfl)⟩ (fun hHeld => ?_); refine with_tabW impl_FormRight.tab14 impl_FormRight.bits14 (fun HT_ HW_ => ?_)
                                generalize w43.drew = w44 at BK193 BK203 HB hx204_0 hHeld ⊢
                                refine pA 0 43 HT_ ?_; refine pA 1 44 HT_ ?_; refine pA 2 45 HT_ ?_; refine pA 3 46 HT_ ?_; refine pA 4 47 HT_ ?_; refine pA 5 48 HT_ ?_; refine tA 6 49 HT_ HW_ hHeld ?_; refine pA 7 50 HT_ ?_; refine pA 8 51 HT_ ?_; refine pA 9 52 HT_ ?_; refine pA 10 53 HT_ ?_; refine pA 11 54 HT_ ?_; refine pA 12 55 HT_ ?_; refine pA 14 57 HT_ ?_; refine tA 13 56 HT_ HW_ hHeld ?_; refine tA 15 58 HT_ HW_ hHeld ?_; refine pA 16 59 HT_ ?_; refine tA 17 60 HT_ HW_ hHeld ?_; refine oA 18 61 HT_ (fun K hK => ?_); refine gA Tryd.func35 #[.int .u8 (bt (t194 ++ t195) x38_2), .string (rdOf ByteArray.empty ((rd_T65 l1_1 x38_2).f0) 0)] ?_; (with_reducible refine (impl_isOf.calls k2 (bt (t194 ++ t195) x38_2) (rdOf ByteArray.empty ((rd_T65 l1_1 x38_2).f0) 0) false _ (tbP HTP (bs HB)) A32.out).mono ?_); rintro e w45 ⟨rfl, hb⟩; refine ⟨_, rfl, ?_⟩; replace BK193 := Aside0.mk (blk_below (ks BK193) hb); replace BK203 := Aside0.mk (blk_below (ks BK203) hb); replace HB := Aside0.mk (below_step (bs HB) hb); (try clear hb); (try clear hb2); (try clear hk); (try clear hi); refine hK.out _ _ ⟨(blk_cell BK203.out 0).trans rfl, ((cb HB hw204_0).trans rfl)⟩ (fun hHeld => ?_); clear hK K; refine nA 61 ?_; refine pA 19 62 HT_ ?_; refine pA 20 63 HT_ ?_; refine done_ (done_of HT_.out (by kernel_rfl)) ?_
                                try go_wp2
                                go_ret
                                exact ⟨ff, bs HB⟩
                            · rw [if_neg c31] at H
                              exact absurd H (by simp)
                          · rw [if_neg c29] at H
                            exact absurd H (by simp)
                        · rw [if_neg c28] at H; have c28b0 : ((((rd_T65 l1_1 x38_2).f0).length : Int) == 1) = false := beq_eq_false_iff_ne.mpr c28; have c28b1 : ((((rd_T65 l1_1 x38_2).f0).length : Int) != 1) = true := bne_iff_ne.mpr c28; obtain rfl := Option.some.inj H; have p202 : 0 ≤ (x38_2 : Int) := oa; have q202 : x38_2 < (l1_1.length : Int) := oa; obtain ⟨ad202, A202_0, c202_0, e202, hx202_0, hl202_0, hi202_0⟩ := at_T65 HR1_1.out x38_2 p202 q202
                          cases e202
                          replace hx202_0 := cb HB hx202_0; have HR202_0 := Aside0.mk hi202_0; have HC202_0 := Aside0.mk hl202_0; clear hi202_0 hl202_0; replace p202 := eq_true p202; replace q202 := eq_true q202
                          try go_wp2_with (first | ((with_reducible refine gate_dst (N := 11) rfl ?_); (try (refine gate_guard (by rfl) ?_; dsimp only)); refine bx 11 (cs := #[.slice none 0 0]) (t := 65) ?_; intro gb203 hg w46 hbox hb; have BK203 := Aside0.mk (hbox); have GW203 := Aside0.mk ((gs hg (bs HB))); have GE203 := Aside0.mk ((gs hg (bs HB))); replace HB := Aside0.mk (below_step (bs HB) hb); have NB193_203 := Aside0.mk ((gn hg (ks BK193))); have NB203_193 := Aside0.mk ((gm hg (ks BK193))); replace BK193 := Aside0.mk (blk_below (ks BK193) hb); clear hb hbox hg; have hnb47 := NB203_193.out; have hnc47 := NB193_203.out; obtain ⟨hcz48_0, hfz48_0⟩ := cf1 BK203))
                          have n0_ : Aside0 ((w46.setCell ⟨gb203, 0, none⟩ (.slice A202_0 ((rd_T65 l1_1 x38_2).f0).length c202_0)).heap[gb193]? = some (.cells #[.string a1_0, .slice (some ad202) l1_1.length c1_1] 36 (0, 0))) := ⟨ks BK193⟩; have n1_ : Aside0 ((w46.setCell ⟨gb203, 0, none⟩ (.slice A202_0 ((rd_T65 l1_1 x38_2).f0).length c202_0)).heap[gb203]? = some (.cells #[.slice A202_0 ((rd_T65 l1_1 x38_2).f0).length c202_0] 65 (0, 0))) := ⟨kp BK203⟩; have n2_ : Aside0 (Below w.heap.size w (w46.setCell ⟨gb203, 0, none⟩ (.slice A202_0 ((rd_T65 l1_1 x38_2).f0).length c202_0))) := ⟨bs HB⟩; (try clear BK193); (try clear BK203); (try clear HB)
                          generalize (w46.setCell ⟨gb203, 0, none⟩ (.slice A202_0 ((rd_T65 l1_1 x38_2).f0).length c202_0)) = w49 at n0_ n1_ n2_ ⊢
                          have BK193 := n0_; have BK203 := n1_; have HB := n2_; clear n0_ n1_ n2_; replace BK193 := Aside0.mk (blk_drew BK193.out); replace BK203 := Aside0.mk (blk_drew BK203.out); replace HB := Aside0.mk (below_drew1 HB.out); refine start_ (n := 21) (S := fun w' => w'.cell? ⟨gb203, 0, none⟩ = some (.slice A202_0 ((rd_T65 l1_1 x38_2).f0).length c202_0)) (ds := []) #[false, false, false, false, false, false, false, false, false, false, false, false, false, false, false, false, false, false, false, false, false] (by kernel_rfl) rfl rfl ((blk_cell BK203.out 0).trans rfl) (fun hHeld => ?_); refine with_tabW impl_FormRight.tab14 impl_FormRight.bits14 (fun HT_ HW_ => ?_)
                          generalize w49.drew = w50 at BK193 BK203 HB hHeld ⊢
                          refine pA 0 43 HT_ ?_; refine pA 1 44 HT_ ?_; refine pA 2 45 HT_ ?_; refine pA 3 46 HT_ ?_; refine pA 4 47 HT_ ?_; refine pA 5 48 HT_ ?_; refine take_ (i := 6) (N := some 49) (v := ?_) (a' := ?_) #[true, true, true, true, true, true, true, false, false, false, false, false, false, false, false, false, false, false, false, false, false] rfl rfl (take_ofW HT_.out HW_.out (by kernel_rfl)) (fun _ _ _ h => h) (Or.inl ⟨by rfl, ?_⟩) hHeld ?_ ?_
                          rotate_left
                          · intro w' s0
                            go_simp
                            (with_reducible rfl)
                          rotate_left
                          · simp only [Act.put, List.setIfInBounds_toArray, List.set_cons_zero, List.set_cons_succ, i64_w, i32_w]
                            rfl
                          refine pA 7 50 HT_ ?_; refine pA 8 51 HT_ ?_; refine pA 9 52 HT_ ?_; refine pA 10 53 HT_ ?_; refine pB 11 54 HT_ ?_; refine pB 12 55 HT_ ?_; refine pB 13 56 HT_ ?_; refine pB 14 57 HT_ ?_; refine pB 15 58 HT_ ?_; refine pB 16 59 HT_ ?_; refine pB 17 60 HT_ ?_; refine pB 18 61 HT_ ?_; refine pB 19 62 HT_ ?_; refine pA 20 63 HT_ ?_; refine done_ (done_of HT_.out (by kernel_rfl)) ?_
                          try go_wp2
                          go_ret
                          exact ⟨ff, bs HB⟩
                    · rw [if_neg c21] at H
                      exact absurd H (by simp)
                  · rw [if_neg c20] at H
                    exact absurd H (by simp)
                · rw [if_neg c19] at H; have c19b0 : decide (x38_2 < (l1_1.length : Int)) = false := decide_eq_false c19; clear c19
                  by_cases c51 : (l1_1.length : Int) < (t194.size : Int)
                  · rw [if_pos c51] at H; have c51b0 : decide ((l1_1.length : Int) < (t194.size : Int)) = true := decide_eq_true c51; have c51b1 : decide (l1_1.length < t194.size) = true := decide_eq_true (Int.ofNat_lt.mp c51); clear c51; obtain rfl := Option.some.inj H; obtain ⟨hcz52_0, hcz52_1, hfz52_0, hfz52_1⟩ := cf2 BK193
                    go_wp2
                    go_ret
                    exact ⟨ff, bs HB⟩
                  · rw [if_neg c51] at H; have c51b0 : decide ((l1_1.length : Int) < (t194.size : Int)) = false := decide_eq_false c51; have c51b1 : decide (l1_1.length < t194.size) = false := decide_eq_false (fun h => c51 (Int.ofNat_lt.mpr h)); clear c51; obtain rfl := Option.some.inj H; obtain ⟨hcz53_0, hcz53_1, hfz53_0, hfz53_1⟩ := cf2 BK193
                    go_wp2
                    go_ret
                    exact ⟨ff, bs HB⟩
  · rw [if_neg c4] at H
    exact absurd H (by simp)
end Go.Proofs.YtjbdljhjplidmaaDoor.QE
namespace Go.Proofs.YtjbdljhjplidmaaDoor.QE
open Go.RowKit Go.Proofs.YtjbdljhjplidmaaDoorW.PrintWords Go.Proofs.YtjbdljhjplidmaaDoorW.PrintLast Go.Proofs.YtjbdljhjplidmaaDoorW.PrintMore
attribute [local go_sem] max2_int min2_int max_two min_two max_three min_three max_four min_four   -- for this text's walks alone
set_option linter.unusedVariables false
set_option linter.unusedSimpArgs false
set_option maxHeartbeats 8000000 in
set_option maxRecDepth 100000 in
theorem laws_eqStringS.calls (k : Nat) (A0 : Option Addr) (c0 : Nat) (l0 : List ByteArray) (A1 : Option Addr) (c1 : Nat) (l1 : List ByteArray) (r : Bool) (w : World) (hr0 : Kd.C Kd.string w A0 l0.length l0) (hc0 : l0.length ≤ c0) (hr1 : Kd.C Kd.string w A1 l1.length l1) (hc1 : l1.length ≤ c1) (h : laws_eqStringS.f k l0 l1 = some r) :
    Calls Tryd.prog 83 #[.slice A0 l0.length c0, .slice A1 l1.length c1] w fun e w' => e = .returned (.bool r) ∧ Drawn0 w w' := by
  have HR0 := Aside0.mk hr0; have HC0 := Aside0.mk hc0; clear hr0 hc0; have HR1 := Aside0.mk hr1; have HC1 := Aside0.mk hc1; clear hr1 hc1; have H : (if (l0.length : Int) = (l1.length : Int) then (laws_eqStringS.l0 k l0 l1 0) else (some false)) = some r := h; clear h
  by_cases c3 : (l0.length : Int) = (l1.length : Int)
  · rw [if_pos c3] at H; have c3b0 : ((l0.length : Int) == (l1.length : Int)) = true := beq_iff_eq.mpr c3; have c3b1 : ((l0.length : Int) != (l1.length : Int)) = false := bne_eq_false_iff_eq.mpr c3
    have c3b2 : (l0.length == l1.length) = true := by first | simpa using c3 | (simp at c3 ⊢; omega)
    clear c3; have H' := Aside0.mk H; clear H
    go_enter Tryd.func83, Tryd.ntmps83
    go_wp2
    repeat (go_quiet (fail); try go_wp2)
    go_loopg [5] k (fun kq v5 w' => ∃ (x5_1 : Int), v5 = .int .i64 x5_1 ∧ Aside0 (laws_eqStringS.l0 kq l0 l1 x5_1 = some r) ∧ Aside0 (kq ≤ k) ∧ Drawn0 w w')
    case atStart => exact ⟨(0), fg, H', ⟨Nat.le_refl _⟩, by repeat (first | exact Drawn0.refl _ | apply Drawn0.step)⟩
    case round =>
      clear H'
      try clear c1
      try clear p2
      try clear c3
      try clear c3b0
      try clear c3b1
      try clear c3b2
      obtain ⟨x5_1, rfl, HA, HK1, ⟨m1, rfl⟩⟩ := hrel
      cases gk with
      | zero => exact absurd HA.out (by simp [laws_eqStringS.l0])
      | succ k1 =>
        have H := HA.out; clear HA; simp only [laws_eqStringS.l0] at H
        by_cases c4 : x5_1 < (l0.length : Int)
        · rw [if_pos c4] at H; have c4b0 : decide (x5_1 < (l0.length : Int)) = true := decide_eq_true c4; clear c4
          by_cases c5 : 0 ≤ x5_1
          · rw [if_pos c5] at H; have c5b0 : decide (0 ≤ x5_1) = true := decide_eq_true c5; clear c5
            by_cases c6 : x5_1 < (l1.length : Int)
            · rw [if_pos c6] at H; have c6b0 : decide (x5_1 < (l1.length : Int)) = true := decide_eq_true c6; clear c6
              by_cases c7 : (rdOf ByteArray.empty l0 x5_1).toList = (rdOf ByteArray.empty l1 x5_1).toList
              · rw [if_pos c7] at H; have c7b0 : ((rdOf ByteArray.empty l0 x5_1).toList == (rdOf ByteArray.empty l1 x5_1).toList) = true := beq_iff_eq.mpr c7; have c7b1 : ((rdOf ByteArray.empty l0 x5_1).toList != (rdOf ByteArray.empty l1 x5_1).toList) = false := bne_eq_false_iff_eq.mpr c7; clear c7; have H' := Aside0.mk H; clear H; have p206 : 0 ≤ (x5_1 : Int) := oa; have q206 : x5_1 < (l0.length : Int) := oa; obtain ⟨ad206, e206, hx206_0⟩ := Kd.at_string HR0.out x5_1 p206 q206
                cases e206
                replace p206 := eq_true p206; replace q206 := eq_true q206; have p207 : 0 ≤ (x5_1 : Int) := oa; have q207 : x5_1 < (l1.length : Int) := oa; obtain ⟨ad207, e207, hx207_0⟩ := Kd.at_string HR1.out x5_1 p207 q207
                cases e207
                replace p207 := eq_true p207; replace q207 := eq_true q207
                go_wp2
                repeat (go_quiet (fail); try go_wp2)
                go_roundg k1
                case measure => have := HK1.out; omega
                case rel => exact ⟨(wrap64 (x5_1 + 1)), fg, H', ⟨by have := HK1.out; omega⟩, by repeat (first | exact Drawn0.refl _ | apply Drawn0.step)⟩
              · rw [if_neg c7] at H; have c7b0 : ((rdOf ByteArray.empty l0 x5_1).toList == (rdOf ByteArray.empty l1 x5_1).toList) = false := beq_eq_false_iff_ne.mpr c7; have c7b1 : ((rdOf ByteArray.empty l0 x5_1).toList != (rdOf ByteArray.empty l1 x5_1).toList) = true := bne_iff_ne.mpr c7; obtain rfl := Option.some.inj H; have p206 : 0 ≤ (x5_1 : Int) := oa; have q206 : x5_1 < (l0.length : Int) := oa; obtain ⟨ad206, e206, hx206_0⟩ := Kd.at_string HR0.out x5_1 p206 q206
                cases e206
                replace p206 := eq_true p206; replace q206 := eq_true q206; have p207 : 0 ≤ (x5_1 : Int) := oa; have q207 : x5_1 < (l1.length : Int) := oa; obtain ⟨ad207, e207, hx207_0⟩ := Kd.at_string HR1.out x5_1 p207 q207
                cases e207
                replace p207 := eq_true p207; replace q207 := eq_true q207
                go_wp2
                repeat (go_quiet (fail); try go_wp2)
                go_ret
                exact ⟨fg, by repeat (first | exact Drawn0.refl _ | apply Drawn0.step)⟩
            · rw [if_neg c6] at H
              exact absurd H (by simp)
          · rw [if_neg c5] at H
            exact absurd H (by simp)
        · rw [if_neg c4] at H; have c4b0 : decide (x5_1 < (l0.length : Int)) = false := decide_eq_false c4; clear c4; obtain rfl := Option.some.inj H
          go_wp2
          repeat (go_quiet (fail); try go_wp2)
          go_ret
          exact ⟨fg, by repeat (first | exact Drawn0.refl _ | apply Drawn0.step)⟩
  · rw [if_neg c3] at H; have c3b0 : ((l0.length : Int) == (l1.length : Int)) = false := beq_eq_false_iff_ne.mpr c3; have c3b1 : ((l0.length : Int) != (l1.length : Int)) = true := bne_iff_ne.mpr c3
    have c3b2 : (l0.length == l1.length) = false := by first | simpa using c3 | (simp at c3 ⊢; omega)
    obtain rfl := Option.some.inj H
    go_enter Tryd.func83, Tryd.ntmps83
    go_wp2
    repeat (go_quiet (fail); try go_wp2)
    go_ret
    exact ⟨fg, by repeat (first | exact Drawn0.refl _ | apply Drawn0.step)⟩
set_option maxHeartbeats 8000000 in
set_option maxRecDepth 100000 in
theorem laws_eqElement.calls (k : Nat) (A0_0 : Option Addr) (c0_0 : Nat) (l0_0 : List ByteArray) (A1_0 : Option Addr) (c1_0 : Nat) (l1_0 : List ByteArray) (r : Bool) (w : World) (hr0_0 : Kd.C Kd.string w A0_0 l0_0.length l0_0) (hc0_0 : l0_0.length ≤ c0_0) (hr1_0 : Kd.C Kd.string w A1_0 l1_0.length l1_0) (hc1_0 : l1_0.length ≤ c1_0) (h : laws_eqElement.f k l0_0 l1_0 = some r) :
    Calls Tryd.prog 63 #[.agg #[.slice A0_0 l0_0.length c0_0], .agg #[.slice A1_0 l1_0.length c1_0]] w fun e w' => e = .returned (.bool r) ∧ Below w.heap.size w w' := by
  have hu65 := Tryd.underlying65; have HR0_0 := Aside0.mk hr0_0; have HC0_0 := Aside0.mk hc0_0; clear hr0_0 hc0_0; have HR1_0 := Aside0.mk hr1_0; have HC1_0 := Aside0.mk hc1_0; clear hr1_0 hc1_0; have HB := Aside0.mk (Below.refl w.heap.size w); have H : ((laws_eqStringS.f k l0_0 l1_0).bind fun t210 => (if t210 = true then (some true) else (some false))) = some r := h; clear h; replace H := Option.bind_eq_some_iff.mp H; obtain ⟨t210, A30, H⟩ := H; replace H : (if t210 = true then (some true) else (some false)) = some r := H; have A3 := Aside0.mk A30; clear A30
  go_enter Tryd.func63, Tryd.ntmps63
  try go_wp2_with (first | ((with_reducible refine gate_dst (N := 2) rfl ?_); refine bx 2 (cs := #[.slice A0_0 l0_0.length c0_0]) (t := 65) ?_; intro gb208 hg w4 hbox hb; have BK208 := Aside0.mk (hbox); have GW208 := Aside0.mk ((gs hg (bs HB))); have GE208 := Aside0.mk ((gs hg (bs HB))); replace HB := Aside0.mk (below_step (bs HB) hb); clear hb hbox hg) | ((with_reducible refine gate_dst (N := 3) rfl ?_); refine bx 3 (cs := #[.slice A1_0 l1_0.length c1_0]) (t := 65) ?_; intro gb209 hg w5 hbox hb; have BK209 := Aside0.mk (hbox); have GW209 := Aside0.mk ((gs hg (bs HB))); have GE209 := Aside0.mk ((gs hg (bs HB))); replace HB := Aside0.mk (below_step (bs HB) hb); have NB208_209 := Aside0.mk ((gn hg (ks BK208))); have NB209_208 := Aside0.mk ((gm hg (ks BK208))); replace BK208 := Aside0.mk (blk_below (ks BK208) hb); clear hb hbox hg; have hnb6 := NB208_209.out; have hnc6 := NB209_208.out; obtain ⟨hcz7_0, hfz7_0⟩ := cf1 BK208; obtain ⟨hcz8_0, hfz8_0⟩ := cf1 BK209))
  go_at_call 83; (with_reducible refine (laws_eqStringS.calls k _ _ l0_0 _ _ l1_0 t210 _ (Kd.C_below HR0_0.out (bs HB)) HC0_0.out (Kd.C_below HR1_0.out (bs HB)) HC1_0.out A3.out).mono ?_); rintro e w' ⟨rfl, ⟨nd, rfl⟩⟩
  by_cases c9 : t210 = true
  · subst c9
    have H1 : (some true) = some r := by rw [if_pos rfl] at H; exact H
    clear H; have H := H1; clear H1; obtain rfl := Option.some.inj H
    go_wp2
    go_ret
    exact ⟨ff, bs HB⟩
  · replace c9 := Bool.eq_false_iff.mpr c9; subst c9
    have H1 : (some false) = some r := by rw [if_neg (show ¬ (false = true) by decide)] at H; exact H
    clear H; have H := H1; clear H1; obtain rfl := Option.some.inj H
    go_wp2
    go_ret
    exact ⟨ff, bs HB⟩
end Go.Proofs.YtjbdljhjplidmaaDoor.QE
namespace Go.Proofs.YtjbdljhjplidmaaDoor.QE
open Go.RowKit Go.Proofs.YtjbdljhjplidmaaDoorW.PrintWords Go.Proofs.YtjbdljhjplidmaaDoorW.PrintLast Go.Proofs.YtjbdljhjplidmaaDoorW.PrintMore
attribute [local go_sem] max2_int min2_int max_two min_two max_three min_three max_four min_four   -- for this text's walks alone
set_option linter.unusedVariables false
set_option linter.unusedSimpArgs false
def laws_eqElementS.T6 : Bool × List (List Nat × List Nat) := (true, [([], []), ([], []), ([0, 1], [0, 1]), ([2], [2]), ([], []), ([], []), ([4, 5], [4, 5]), ([6], [6]), ([3, 7], [3, 7]), ([8], [8])])
def laws_eqElementS.B6 : List Nat := [0, 0, 3, 7, 0, 0, 48, 112, 255, 511]
theorem laws_eqElementS.tab6 : rtab .any (opsOf Tryd.f36 6) = laws_eqElementS.T6 := by kernel_rfl
theorem laws_eqElementS.bits6 : waitsOk laws_eqElementS.T6.2 laws_eqElementS.B6 = true := by kernel_rfl
set_option maxHeartbeats 8000000 in
set_option maxRecDepth 100000 in
theorem laws_eqElementS.calls (k : Nat) (A0 : Option Addr) (c0 : Nat) (l0 : List (S65)) (A1 : Option Addr) (c1 : Nat) (l1 : List (S65)) (r : Bool) (w : World) (hr0 : Kd.C k65 w A0 l0.length l0) (hc0 : l0.length ≤ c0) (hr1 : Kd.C k65 w A1 l1.length l1) (hc1 : l1.length ≤ c1) (h : laws_eqElementS.f k l0 l1 = some r) :
    Calls Tryd.prog 36 #[.slice A0 l0.length c0, .slice A1 l1.length c1] w fun e w' => e = .returned (.bool r) ∧ Below w.heap.size w w' := by
  have hu65 := Tryd.underlying65; have HR0 := Aside0.mk hr0; have HC0 := Aside0.mk hc0; clear hr0 hc0; have HR1 := Aside0.mk hr1; have HC1 := Aside0.mk hc1; clear hr1 hc1; have HB := Aside0.mk (Below.refl w.heap.size w); have H : (if (l0.length : Int) = (l1.length : Int) then (laws_eqElementS.l0 k l0 l1 0) else (some false)) = some r := h; clear h
  by_cases c3 : (l0.length : Int) = (l1.length : Int)
  · rw [if_pos c3] at H; have c3b0 : ((l0.length : Int) == (l1.length : Int)) = true := beq_iff_eq.mpr c3; have c3b1 : ((l0.length : Int) != (l1.length : Int)) = false := bne_eq_false_iff_eq.mpr c3
    have c3b2 : (l0.length == l1.length) = true := by first | simpa using c3 | (simp at c3 ⊢; omega)
    clear c3; have H' := Aside0.mk H; clear H
    go_enter Tryd.func36, Tryd.ntmps36
    go_wp2
    go_loopg [5] k (fun kq v5 w' => ∃ (x5_1 : Int), v5 = .int .i64 x5_1 ∧ Aside0 (laws_eqElementS.l0 kq l0 l1 x5_1 = some r) ∧ Aside0 (kq ≤ k) ∧ Aside0 (Below w.heap.size w w'))
    case atStart => exact ⟨(0), fg, H', ⟨Nat.le_refl _⟩, ⟨bs HB⟩⟩
    case round =>
      clear H'
      try clear c1
      try clear p2
      try clear c3
      try clear c3b0
      try clear c3b1
      try clear c3b2
      obtain ⟨x5_1, rfl, HA, HK1, HB⟩ := hrel
      cases gk with
      | zero => exact absurd HA.out (by simp [laws_eqElementS.l0])
      | succ k1 =>
        have H := HA.out; clear HA; simp only [laws_eqElementS.l0] at H
        by_cases c4 : x5_1 < (l0.length : Int)
        · rw [if_pos c4] at H; have c4b0 : decide (x5_1 < (l0.length : Int)) = true := decide_eq_true c4; clear c4
          by_cases c5 : 0 ≤ x5_1
          · rw [if_pos c5] at H; have c5b0 : decide (0 ≤ x5_1) = true := decide_eq_true c5; clear c5
            by_cases c6 : x5_1 < (l1.length : Int)
            · rw [if_pos c6] at H; have c6b0 : decide (x5_1 < (l1.length : Int)) = true := decide_eq_true c6; clear c6; replace H := Option.bind_eq_some_iff.mp H; obtain ⟨t213, A70, H⟩ := H; replace H : (if t213 = true then (laws_eqElementS.l0 k1 l0 l1 (wrap64 (x5_1 + 1))) else (some false)) = some r := H; have A7 := Aside0.mk A70; clear A70
              by_cases c8 : t213 = true
              · subst c8
                have H1 : (laws_eqElementS.l0 k1 l0 l1 (wrap64 (x5_1 + 1))) = some r := by rw [if_pos rfl] at H; exact H
                clear H; have H := H1; clear H1; have H' := Aside0.mk H; clear H
                try go_wp2
                replace HB := Aside0.mk (below_drew1 HB.out); have p211 : 0 ≤ (x5_1 : Int) := oa; have q211 : x5_1 < (l0.length : Int) := oa; obtain ⟨ad211, A211_0, c211_0, e211, hx211_0, hl211_0, hi211_0⟩ := at_T65 HR0.out x5_1 p211 q211; have hw211_0 := hx211_0
                cases e211
                replace hx211_0 := cb HB hx211_0; have HR211_0 := Aside0.mk hi211_0; have HC211_0 := Aside0.mk hl211_0; clear hi211_0 hl211_0; replace p211 := eq_true p211; replace q211 := eq_true q211; have p212 : 0 ≤ (x5_1 : Int) := oa; have q212 : x5_1 < (l1.length : Int) := oa; obtain ⟨ad212, A212_0, c212_0, e212, hx212_0, hl212_0, hi212_0⟩ := at_T65 HR1.out x5_1 p212 q212; have hw212_0 := hx212_0
                cases e212
                replace hx212_0 := cb HB hx212_0; have HR212_0 := Aside0.mk hi212_0; have HC212_0 := Aside0.mk hl212_0; clear hi212_0 hl212_0; replace p212 := eq_true p212; replace q212 := eq_true q212; refine start_ (n := 10) (S := fun w' => w'.cell? (ad211.add (x5_1).toNat) = some (.slice A211_0 ((rd_T65 l0 x5_1).f0).length c211_0) ∧ w'.cell? (ad212.add (x5_1).toNat) = some (.slice A212_0 ((rd_T65 l1 x5_1).f0).length c212_0)) (ds := []) #[false, false, false, false, false, false, false, false, false, false] (by kernel_rfl) rfl rfl ⟨((cb HB hw211_0).trans rfl), ((cb HB hw212_0).trans rfl)⟩ (fun hHeld => ?_); refine with_tabW laws_eqElementS.tab6 laws_eqElementS.bits6 (fun HT_ HW_ => ?_)
                generalize wr.drew = w9 at HB HR211_0 HR212_0 hx211_0 hx212_0 hHeld ⊢
                refine pA 0 17 HT_ ?_; refine pA 1 18 HT_ ?_; refine pA 2 19 HT_ ?_; refine pA 4 21 HT_ ?_; refine pA 5 22 HT_ ?_; refine pA 6 23 HT_ ?_; refine tA 3 20 HT_ HW_ hHeld ?_; refine tA 7 24 HT_ HW_ hHeld ?_; refine oA 8 25 HT_ (fun K hK => ?_); refine gA Tryd.func63 #[.agg #[.slice A211_0 ((rd_T65 l0 x5_1).f0).length c211_0], .agg #[.slice A212_0 ((rd_T65 l1 x5_1).f0).length c212_0]] ?_; (with_reducible refine (laws_eqElement.calls k1 _ _ ((rd_T65 l0 x5_1).f0) _ _ ((rd_T65 l1 x5_1).f0) true _ ?side1 ?side2 ?side3 ?side4 A7.out).mono ?_)
                (case side1 => repeat (first | exact (Kd.C_below HR211_0.out HB.out) | (with_reducible refine Kd.C_alloc ?_ _) | (with_reducible refine Kd.C_drewN ?_ _) | (with_reducible refine Kd.C_drew ?_)))
                (case side2 => exact HC211_0.out)
                (case side3 => repeat (first | exact (Kd.C_below HR212_0.out HB.out) | (with_reducible refine Kd.C_alloc ?_ _) | (with_reducible refine Kd.C_drewN ?_ _) | (with_reducible refine Kd.C_drew ?_)))
                (case side4 => exact HC212_0.out)
                rintro e w10 ⟨rfl, hb⟩; refine ⟨_, rfl, ?_⟩; replace HB := Aside0.mk (below_step (bs HB) hb); (try clear hb); (try clear hb2); (try clear hk); (try clear hi); refine hK.out _ _ ⟨((cb HB hw211_0).trans rfl), ((cb HB hw212_0).trans rfl)⟩ (fun hHeld => ?_); clear hK K; refine nA 25 ?_; refine pA 9 26 HT_ ?_; refine done_ (done_of HT_.out (by kernel_rfl)) ?_
                try go_wp2
                go_roundg k1
                case measure => have := HK1.out; omega
                case rel => exact ⟨(wrap64 (x5_1 + 1)), fg, H', ⟨by have := HK1.out; omega⟩, ⟨bs HB⟩⟩
              · replace c8 := Bool.eq_false_iff.mpr c8; subst c8
                have H1 : (some false) = some r := by rw [if_neg (show ¬ (false = true) by decide)] at H; exact H
                clear H; have H := H1; clear H1; obtain rfl := Option.some.inj H
                try go_wp2
                replace HB := Aside0.mk (below_drew1 HB.out); have p211 : 0 ≤ (x5_1 : Int) := oa; have q211 : x5_1 < (l0.length : Int) := oa; obtain ⟨ad211, A211_0, c211_0, e211, hx211_0, hl211_0, hi211_0⟩ := at_T65 HR0.out x5_1 p211 q211; have hw211_0 := hx211_0
                cases e211
                replace hx211_0 := cb HB hx211_0; have HR211_0 := Aside0.mk hi211_0; have HC211_0 := Aside0.mk hl211_0; clear hi211_0 hl211_0; replace p211 := eq_true p211; replace q211 := eq_true q211; have p212 : 0 ≤ (x5_1 : Int) := oa; have q212 : x5_1 < (l1.length : Int) := oa; obtain ⟨ad212, A212_0, c212_0, e212, hx212_0, hl212_0, hi212_0⟩ := at_T65 HR1.out x5_1 p212 q212; have hw212_0 := hx212_0
                cases e212
                replace hx212_0 := cb HB hx212_0; have HR212_0 := Aside0.mk hi212_0; have HC212_0 := Aside0.mk hl212_0; clear hi212_0 hl212_0; replace p212 := eq_true p212; replace q212 := eq_true q212; refine start_ (n := 10) (S := fun w' => w'.cell? (ad211.add (x5_1).toNat) = some (.slice A211_0 ((rd_T65 l0 x5_1).f0).length c211_0) ∧ w'.cell? (ad212.add (x5_1).toNat) = some (.slice A212_0 ((rd_T65 l1 x5_1).f0).length c212_0)) (ds := []) #[false, false, false, false, false, false, false, false, false, false] (by kernel_rfl) rfl rfl ⟨((cb HB hw211_0).trans rfl), ((cb HB hw212_0).trans rfl)⟩ (fun hHeld => ?_); refine with_tabW laws_eqElementS.tab6 laws_eqElementS.bits6 (fun HT_ HW_ => ?_)
                generalize wr.drew = w11 at HB HR211_0 HR212_0 hx211_0 hx212_0 hHeld ⊢
                refine pA 0 17 HT_ ?_; refine pA 1 18 HT_ ?_; refine pA 2 19 HT_ ?_; refine pA 4 21 HT_ ?_; refine pA 5 22 HT_ ?_; refine pA 6 23 HT_ ?_; refine tA 3 20 HT_ HW_ hHeld ?_; refine tA 7 24 HT_ HW_ hHeld ?_; refine oA 8 25 HT_ (fun K hK => ?_); refine gA Tryd.func63 #[.agg #[.slice A211_0 ((rd_T65 l0 x5_1).f0).length c211_0], .agg #[.slice A212_0 ((rd_T65 l1 x5_1).f0).length c212_0]] ?_; (with_reducible refine (laws_eqElement.calls k1 _ _ ((rd_T65 l0 x5_1).f0) _ _ ((rd_T65 l1 x5_1).f0) false _ ?side1 ?side2 ?side3 ?side4 A7.out).mono ?_)
                (case side1 => repeat (first | exact (Kd.C_below HR211_0.out HB.out) | (with_reducible refine Kd.C_alloc ?_ _) | (with_reducible refine Kd.C_drewN ?_ _) | (with_reducible refine Kd.C_drew ?_)))
                (case side2 => exact HC211_0.out)
                (case side3 => repeat (first | exact (Kd.C_below HR212_0.out HB.out) | (with_reducible refine Kd.C_alloc ?_ _) | (with_reducible refine Kd.C_drewN ?_ _) | (with_reducible refine Kd.C_drew ?_)))
                (case side4 => exact HC212_0.out)
                rintro e w12 ⟨rfl, hb⟩; refine ⟨_, rfl, ?_⟩; replace HB := Aside0.mk (below_step (bs HB) hb); (try clear hb); (try clear hb2); (try clear hk); (try clear hi); refine hK.out _ _ ⟨((cb HB hw211_0).trans rfl), ((cb HB hw212_0).trans rfl)⟩ (fun hHeld => ?_); clear hK K; refine nA 25 ?_; refine pA 9 26 HT_ ?_; refine done_ (done_of HT_.out (by kernel_rfl)) ?_
                try go_wp2
                go_ret
                exact ⟨ff, bs HB⟩
            · rw [if_neg c6] at H
              exact absurd H (by simp)
          · rw [if_neg c5] at H
            exact absurd H (by simp)
        · rw [if_neg c4] at H; have c4b0 : decide (x5_1 < (l0.length : Int)) = false := decide_eq_false c4; clear c4; obtain rfl := Option.some.inj H
          go_wp2
          go_ret
          exact ⟨ff, bs HB⟩
  · rw [if_neg c3] at H; have c3b0 : ((l0.length : Int) == (l1.length : Int)) = false := beq_eq_false_iff_ne.mpr c3; have c3b1 : ((l0.length : Int) != (l1.length : Int)) = true := bne_iff_ne.mpr c3
    have c3b2 : (l0.length == l1.length) = false := by first | simpa using c3 | (simp at c3 ⊢; omega)
    obtain rfl := Option.some.inj H
    go_enter Tryd.func36, Tryd.ntmps36
    go_wp2
    go_ret
    exact ⟨ff, bs HB⟩
end Go.Proofs.YtjbdljhjplidmaaDoor.QE
namespace Go.Proofs.YtjbdljhjplidmaaDoor.QE
open Go.RowKit Go.Proofs.YtjbdljhjplidmaaDoorW.PrintWords Go.Proofs.YtjbdljhjplidmaaDoorW.PrintLast Go.Proofs.YtjbdljhjplidmaaDoorW.PrintMore
attribute [local go_sem] max2_int min2_int max_two min_two max_three min_three max_four min_four   -- for this text's walks alone
set_option linter.unusedVariables false
set_option linter.unusedSimpArgs false
set_option maxHeartbeats 8000000 in
set_option maxRecDepth 100000 in
theorem laws_eqSegment.calls (k : Nat) (a0_0 : ByteArray) (A0_1 : Option Addr) (c0_1 : Nat) (l0_1 : List (S65)) (a1_0 : ByteArray) (A1_1 : Option Addr) (c1_1 : Nat) (l1_1 : List (S65)) (r : Bool) (w : World) (hr0_1 : Kd.C k65 w A0_1 l0_1.length l0_1) (hc0_1 : l0_1.length ≤ c0_1) (hr1_1 : Kd.C k65 w A1_1 l1_1.length l1_1) (hc1_1 : l1_1.length ≤ c1_1) (h : laws_eqSegment.f k a0_0 l0_1 a1_0 l1_1 = some r) :
    Calls Tryd.prog 15 #[.agg #[.string a0_0, .slice A0_1 l0_1.length c0_1], .agg #[.string a1_0, .slice A1_1 l1_1.length c1_1]] w fun e w' => e = .returned (.bool r) ∧ Below w.heap.size w w' := by
  have hu36 := Tryd.underlying36; have HR0_1 := Aside0.mk hr0_1; have HC0_1 := Aside0.mk hc0_1; clear hr0_1 hc0_1; have HR1_1 := Aside0.mk hr1_1; have HC1_1 := Aside0.mk hc1_1; clear hr1_1 hc1_1; have HB := Aside0.mk (Below.refl w.heap.size w); have H : (if a0_0.toList = a1_0.toList then ((laws_eqElementS.f k l0_1 l1_1).bind fun t216 => (if t216 = true then (some true) else (some false))) else (some false)) = some r := h; clear h
  by_cases c3 : a0_0.toList = a1_0.toList
  · rw [if_pos c3] at H; have c3b0 : (a0_0.toList == a1_0.toList) = true := beq_iff_eq.mpr c3; have c3b1 : (a0_0.toList != a1_0.toList) = false := bne_eq_false_iff_eq.mpr c3; clear c3; replace H := Option.bind_eq_some_iff.mp H; obtain ⟨t216, A40, H⟩ := H; replace H : (if t216 = true then (some true) else (some false)) = some r := H; have A4 := Aside0.mk A40; clear A40
    go_enter Tryd.func15, Tryd.ntmps15
    try go_wp2_with (first | ((with_reducible refine gate_dst (N := 2) rfl ?_); refine bx 2 (cs := #[.string a0_0, .slice A0_1 l0_1.length c0_1]) (t := 36) ?_; intro gb214 hg w5 hbox hb; have BK214 := Aside0.mk (hbox); have GW214 := Aside0.mk ((gs hg (bs HB))); have GE214 := Aside0.mk ((gs hg (bs HB))); replace HB := Aside0.mk (below_step (bs HB) hb); clear hb hbox hg) | ((with_reducible refine gate_dst (N := 3) rfl ?_); refine bx 3 (cs := #[.string a1_0, .slice A1_1 l1_1.length c1_1]) (t := 36) ?_; intro gb215 hg w6 hbox hb; have BK215 := Aside0.mk (hbox); have GW215 := Aside0.mk ((gs hg (bs HB))); have GE215 := Aside0.mk ((gs hg (bs HB))); replace HB := Aside0.mk (below_step (bs HB) hb); have NB214_215 := Aside0.mk ((gn hg (ks BK214))); have NB215_214 := Aside0.mk ((gm hg (ks BK214))); replace BK214 := Aside0.mk (blk_below (ks BK214) hb); clear hb hbox hg; have hnb7 := NB214_215.out; have hnc7 := NB215_214.out; obtain ⟨hcz8_0, hcz8_1, hfz8_0, hfz8_1⟩ := cf2 BK214; obtain ⟨hcz9_0, hcz9_1, hfz9_0, hfz9_1⟩ := cf2 BK215))
    go_at_call 36; (with_reducible refine (laws_eqElementS.calls k _ _ l0_1 _ _ l1_1 t216 _ (Kd.C_below HR0_1.out (bs HB)) HC0_1.out (Kd.C_below HR1_1.out (bs HB)) HC1_1.out A4.out).mono ?_); rintro e w10 ⟨rfl, hb⟩; replace BK214 := Aside0.mk (blk_below (ks BK214) hb); replace BK215 := Aside0.mk (blk_below (ks BK215) hb); replace HB := Aside0.mk (below_step (bs HB) hb); (try clear hb); (try clear hb2); (try clear hk); (try clear hi)
    by_cases c11 : t216 = true
    · subst c11
      have H1 : (some true) = some r := by rw [if_pos rfl] at H; exact H
      clear H; have H := H1; clear H1; obtain rfl := Option.some.inj H
      go_wp2
      go_ret
      exact ⟨ff, bs HB⟩
    · replace c11 := Bool.eq_false_iff.mpr c11; subst c11
      have H1 : (some false) = some r := by rw [if_neg (show ¬ (false = true) by decide)] at H; exact H
      clear H; have H := H1; clear H1; obtain rfl := Option.some.inj H
      go_wp2
      go_ret
      exact ⟨ff, bs HB⟩
  · rw [if_neg c3] at H; have c3b0 : (a0_0.toList == a1_0.toList) = false := beq_eq_false_iff_ne.mpr c3; have c3b1 : (a0_0.toList != a1_0.toList) = true := bne_iff_ne.mpr c3; obtain rfl := Option.some.inj H
    go_enter Tryd.func15, Tryd.ntmps15
    go_wp2_with (first | ((with_reducible refine gate_dst (N := 2) rfl ?_); refine bx 2 (cs := #[.string a0_0, .slice A0_1 l0_1.length c0_1]) (t := 36) ?_; intro gb214 hg w12 hbox hb; have BK214 := Aside0.mk (hbox); have GW214 := Aside0.mk ((gs hg (bs HB))); have GE214 := Aside0.mk ((gs hg (bs HB))); replace HB := Aside0.mk (below_step (bs HB) hb); clear hb hbox hg) | ((with_reducible refine gate_dst (N := 3) rfl ?_); refine bx 3 (cs := #[.string a1_0, .slice A1_1 l1_1.length c1_1]) (t := 36) ?_; intro gb215 hg w13 hbox hb; have BK215 := Aside0.mk (hbox); have GW215 := Aside0.mk ((gs hg (bs HB))); have GE215 := Aside0.mk ((gs hg (bs HB))); replace HB := Aside0.mk (below_step (bs HB) hb); have NB214_215 := Aside0.mk ((gn hg (ks BK214))); have NB215_214 := Aside0.mk ((gm hg (ks BK214))); replace BK214 := Aside0.mk (blk_below (ks BK214) hb); clear hb hbox hg; have hnb14 := NB214_215.out; have hnc14 := NB215_214.out; obtain ⟨hcz15_0, hcz15_1, hfz15_0, hfz15_1⟩ := cf2 BK214; obtain ⟨hcz16_0, hcz16_1, hfz16_0, hfz16_1⟩ := cf2 BK215))
    go_ret
    exact ⟨ff, bs HB⟩
end Go.Proofs.YtjbdljhjplidmaaDoor.QE
