-- Merged by a program of this session (wip/tool/pack.py) out of its own texts for this claim.
import Derived.Deep.Slices
import Derived.ChangeArms
import Derived.WalkKit
import Derived.ProofKit
import Derived.OpenShut
import Derived.ShutString
import Derived.ChangeOld
import Derived.Below
import Derived.SizedLaws
import Derived.Lib.ItoaNum
import Derived.Lib.Join
import Derived.Test.YtjbdljhjplidmaaDoorKFnExactDiffText0
import Derived.Test.YtjbdljhjplidmaaDoorKFnExactDiffText1
import Derived.Test.YtjbdljhjplidmaaDoorKFnExactDiffText2
namespace Go.Proofs.YtjbdljhjplidmaaDoor.QD
open Go.RowKit Go.Proofs.YtjbdljhjplidmaaDoorW.PrintWords Go.Proofs.YtjbdljhjplidmaaDoorW.PrintLast Go.Proofs.YtjbdljhjplidmaaDoorW.PrintMore
attribute [local go_sem] max2_int min2_int max_two min_two max_three min_three max_four min_four   -- for this text's walks alone
set_option linter.unusedVariables false
set_option linter.unusedSimpArgs false
def impl_DiffText.T1 : Bool × List (List Nat × List Nat) := (true, [([], []), ([0], [0]), ([1], [1]), ([], []), ([3], [3]), ([], []), ([5], [5]), ([], []), ([7], [7]), ([8, 2], [8]), ([], []), ([10], [10]), ([], []), ([12], [12]), ([13, 9], [13]), ([2, 4, 6, 9, 11, 14], [2, 4, 6, 9, 11, 14]), ([15, 14], [15]), ([16, 16, 0, 1, 2, 3, 4, 5, 6, 7, 8, 9, 10, 11, 12, 13, 14, 15, 16], [16])])
def impl_DiffText.B1 : List Nat := [0, 1, 3, 0, 8, 0, 32, 0, 128, 391, 0, 1024, 0, 4096, 13191, 32767, 65535, 131071]
theorem impl_DiffText.tab1 : rtab .any (opsOf Tryd.f10 1) = impl_DiffText.T1 := by kernel_rfl
theorem impl_DiffText.bits1 : waitsOk impl_DiffText.T1.2 impl_DiffText.B1 = true := by kernel_rfl
set_option maxHeartbeats 8000000 in
set_option maxRecDepth 100000 in
theorem impl_DiffText.calls (a0_0 : Int) (a0_1 : ByteArray) (a0_2 : ByteArray) (a0_3 : Int) (a0_4 : ByteArray) (a0_5 : Int) (r : ByteArray) (w : World) (hTF : TbF w) (h : impl_DiffText.f a0_0 a0_1 a0_2 a0_3 a0_4 a0_5 = some r) :
    Calls Tryd.prog 10 #[.agg #[.int .i64 a0_0, .string a0_1, .string a0_2, .int .i64 a0_3, .string a0_4, .int .i64 a0_5]] w fun e w' => e = .returned (.string r) ∧ Below w.heap.size w w' := by
  have HTF := Aside0.mk hTF; clear hTF
  have hu26 := Tryd.underlying26; have HB := Aside0.mk (Below.refl w.heap.size w); have H : ((impl_decimal.f a0_0).bind fun t117 => ((impl_decimal.f a0_3).bind fun t118 => ((impl_decimal.f a0_5).bind fun t119 => ((strings_Join.f (([t117, a0_1, a0_2, t118, a0_4, t119] : List ByteArray)) (⟨#[32]⟩ : ByteArray)).bind fun t123 => (some t123))))) = some r := h; clear h; replace H := Option.bind_eq_some_iff.mp H; obtain ⟨t117, A20, H⟩ := H; replace H : ((impl_decimal.f a0_3).bind fun t118 => ((impl_decimal.f a0_5).bind fun t119 => ((strings_Join.f (([t117, a0_1, a0_2, t118, a0_4, t119] : List ByteArray)) (⟨#[32]⟩ : ByteArray)).bind fun t123 => (some t123)))) = some r := H; have A2 := Aside0.mk A20; clear A20; replace H := Option.bind_eq_some_iff.mp H; obtain ⟨t118, A30, H⟩ := H; replace H : ((impl_decimal.f a0_5).bind fun t119 => ((strings_Join.f (([t117, a0_1, a0_2, t118, a0_4, t119] : List ByteArray)) (⟨#[32]⟩ : ByteArray)).bind fun t123 => (some t123))) = some r := H; have A3 := Aside0.mk A30; clear A30; replace H := Option.bind_eq_some_iff.mp H; obtain ⟨t119, A40, H⟩ := H; replace H : ((strings_Join.f (([t117, a0_1, a0_2, t118, a0_4, t119] : List ByteArray)) (⟨#[32]⟩ : ByteArray)).bind fun t123 => (some t123)) = some r := H; have A4 := Aside0.mk A40; clear A40; obtain ⟨y120, hy120⟩ : ∃ y_ : List ByteArray, y_ = (([t117, a0_1, a0_2, t118, a0_4, t119] : List ByteArray)) := ⟨_, rfl⟩
  replace H : ((strings_Join.f y120 (⟨#[32]⟩ : ByteArray)).bind fun t123 => (some t123)) = some r := by first | (rw [hy120]; with_reducible exact H) | (have H2_ := (Option.bind_some _ _).symm.trans H; rw [hy120]; with_reducible exact H2_) | (have H2_ := (Option.bind_some _ _).symm.trans H; with_reducible exact H2_) | with_reducible exact H | (rw [hy120]; exact H) | exact H
  have Ny120 := Aside0.mk hy120; clear hy120; replace H := Option.bind_eq_some_iff.mp H; obtain ⟨t123, A50, H⟩ := H; replace H : (some t123) = some r := H; have A5 := Aside0.mk A50; clear A50; obtain rfl := Option.some.inj H
  go_enter Tryd.func10, Tryd.ntmps10
  try go_wp2_with (first | ((with_reducible refine gate_dst (N := 1) rfl ?_); refine bx 1 (cs := #[.int .i64 a0_0, .string a0_1, .string a0_2, .int .i64 a0_3, .string a0_4, .int .i64 a0_5]) (t := 26) ?_; intro gb116 hg w6 hbox hb; have BK116 := Aside0.mk (hbox); have GW116 := Aside0.mk ((gs hg (bs HB))); have GE116 := Aside0.mk ((gs hg (bs HB))); replace HB := Aside0.mk (below_step (bs HB) hb); clear hb hbox hg))
  replace BK116 := Aside0.mk (blk_drew BK116.out); replace HB := Aside0.mk (below_drew1 HB.out); refine start_ (n := 18) (S := fun w' => w'.cell? ⟨gb116, 0, none⟩ = some (.int .i64 a0_0) ∧ w'.cell? ⟨gb116, 1, none⟩ = some (.string a0_1) ∧ w'.cell? ⟨gb116, 2, none⟩ = some (.string a0_2) ∧ w'.cell? ⟨gb116, 3, none⟩ = some (.int .i64 a0_3) ∧ w'.cell? ⟨gb116, 4, none⟩ = some (.string a0_4) ∧ w'.cell? ⟨gb116, 5, none⟩ = some (.int .i64 a0_5)) (ds := []) #[false, false, false, false, false, false, false, false, false, false, false, false, false, false, false, false, false, false] (by kernel_rfl) rfl rfl ⟨(blk_cell BK116.out 0).trans rfl, (blk_cell BK116.out 1).trans rfl, (blk_cell BK116.out 2).trans rfl, (blk_cell BK116.out 3).trans rfl, (blk_cell BK116.out 4).trans rfl, (blk_cell BK116.out 5).trans rfl⟩ (fun hHeld => ?_); refine with_tabW impl_DiffText.tab1 impl_DiffText.bits1 (fun HT_ HW_ => ?_)
  generalize w6.drew = w7 at BK116 HB hHeld ⊢
  refine pA 0 3 HT_ ?_; refine pA 3 6 HT_ ?_; refine pA 5 8 HT_ ?_; refine pA 7 10 HT_ ?_; refine pA 10 13 HT_ ?_; refine pA 12 15 HT_ ?_; refine tA 1 4 HT_ HW_ hHeld ?_; refine tA 4 7 HT_ HW_ hHeld ?_; refine tA 6 9 HT_ HW_ hHeld ?_; refine tA 8 11 HT_ HW_ hHeld ?_; refine tA 11 14 HT_ HW_ hHeld ?_; refine tA 13 16 HT_ HW_ hHeld ?_; refine oA 2 5 HT_ (fun K hK => ?_); refine gA Tryd.func28 #[.int .i64 a0_0] ?_; (with_reducible refine (impl_decimal.calls a0_0 t117 _ (tbF HTF (bs HB)) A2.out).mono ?_); rintro e w8 ⟨rfl, hb⟩; refine ⟨_, rfl, ?_⟩; replace BK116 := Aside0.mk (blk_below (ks BK116) hb); replace HB := Aside0.mk (below_step (bs HB) hb); (try clear hb); (try clear hb2); (try clear hk); (try clear hi); refine hK.out _ _ ⟨(blk_cell BK116.out 0).trans rfl, (blk_cell BK116.out 1).trans rfl, (blk_cell BK116.out 2).trans rfl, (blk_cell BK116.out 3).trans rfl, (blk_cell BK116.out 4).trans rfl, (blk_cell BK116.out 5).trans rfl⟩ (fun hHeld => ?_); clear hK K; refine nA 5 ?_; refine oA 9 12 HT_ (fun K hK => ?_); refine gA Tryd.func28 #[.int .i64 a0_3] ?_; (with_reducible refine (impl_decimal.calls a0_3 t118 _ (tbF HTF (bs HB)) A3.out).mono ?_); rintro e w9 ⟨rfl, hb⟩; refine ⟨_, rfl, ?_⟩; replace BK116 := Aside0.mk (blk_below (ks BK116) hb); replace HB := Aside0.mk (below_step (bs HB) hb); (try clear hb); (try clear hb2); (try clear hk); (try clear hi); refine hK.out _ _ ⟨(blk_cell BK116.out 0).trans rfl, (blk_cell BK116.out 1).trans rfl, (blk_cell BK116.out 2).trans rfl, (blk_cell BK116.out 3).trans rfl, (blk_cell BK116.out 4).trans rfl, (blk_cell BK116.out 5).trans rfl⟩ (fun hHeld => ?_); clear hK K; refine nA 12 ?_; refine oA 14 17 HT_ (fun K hK => ?_); refine gA Tryd.func28 #[.int .i64 a0_5] ?_; (with_reducible refine (impl_decimal.calls a0_5 t119 _ (tbF HTF (bs HB)) A4.out).mono ?_); rintro e w10 ⟨rfl, hb⟩; refine ⟨_, rfl, ?_⟩; replace BK116 := Aside0.mk (blk_below (ks BK116) hb); replace HB := Aside0.mk (below_step (bs HB) hb); (try clear hb); (try clear hb2); (try clear hk); (try clear hi); refine hK.out _ _ ⟨(blk_cell BK116.out 0).trans rfl, (blk_cell BK116.out 1).trans rfl, (blk_cell BK116.out 2).trans rfl, (blk_cell BK116.out 3).trans rfl, (blk_cell BK116.out 4).trans rfl, (blk_cell BK116.out 5).trans rfl⟩ (fun hHeld => ?_); clear hK K; refine nA 17 ?_; refine oA 15 18 HT_ (fun K hK => ?_); refine Kd.R_lit_step Kd.string _ 9 ?hg (N := 18) ?hd (xs := ([t117, a0_1, a0_2, t118, a0_4, t119] : List ByteArray)) (inner := [.string t117, .string a0_1, .string a0_2, .string t118, .string a0_4, .string t119]) (ok := fun _ => True) (okp := fun _ => True) ?hr ?hp (fun _ hk => hk) trivial (Below.refl _ _) (Nat.le_refl _) (by simp) ?_; (case hd => rfl); (case hg => rfl); (case hr => first | (go_simp; done) | (go_simp; rfl)); (case hp => exact (Reps.one (show Kd.M Kd.string _ _ _ t117 [.string t117] from rfl) (Reps.one (show Kd.M Kd.string _ _ _ a0_1 [.string a0_1] from rfl) (Reps.one (show Kd.M Kd.string _ _ _ a0_2 [.string a0_2] from rfl) (Reps.one (show Kd.M Kd.string _ _ _ t118 [.string t118] from rfl) (Reps.one (show Kd.M Kd.string _ _ _ a0_4 [.string a0_4] from rfl) (Reps.one (show Kd.M Kd.string _ _ _ t119 [.string t119] from rfl) (Reps.none _ _)))))))); intro v121 w11 ho12 hb hg_ hnew_; clear hg_ hnew_
  (first | rw [← Ny120.out] at ho12 | (simp only [Int.reduceToNat] at ho12; rw [← Ny120.out] at ho12))
  have HO122 := Aside0.mk (Kd.R_lower ho12 (below_size (bs HB))); replace BK116 := Aside0.mk (blk_below (ks BK116) hb); replace HB := Aside0.mk (below_step (bs HB) hb); clear hb ho12; obtain ⟨Ao13, co13, eo13⟩ := Kd.R_slice HO122.out
  (first | subst eo13 | (injection eo13 with f1_ f2_ f3_; have f4_ := f1_.symm; have f5_ := f3_.symm; clear f1_ f2_ f3_; subst f4_; subst f5_))
  refine hK.out _ _ ⟨(blk_cell BK116.out 0).trans rfl, (blk_cell BK116.out 1).trans rfl, (blk_cell BK116.out 2).trans rfl, (blk_cell BK116.out 3).trans rfl, (blk_cell BK116.out 4).trans rfl, (blk_cell BK116.out 5).trans rfl⟩ (fun hHeld => ?_); clear hK K; refine nA 18 ?_; refine oA 16 19 HT_ (fun K hK => ?_); refine gA Tryd.func27 #[.slice Ao13 y120.length co13, .string (⟨#[32]⟩ : ByteArray)] ?_; (with_reducible refine (strings_Join.calls _ _ y120 (⟨#[32]⟩ : ByteArray) t123 _ ?side1 ?side2 A5.out).mono ?_)
  (case side1 => repeat (first | exact (Kd.R_reads' HO122.out).2.2 | (with_reducible refine Kd.C_alloc ?_ _) | (with_reducible refine Kd.C_drewN ?_ _) | (with_reducible refine Kd.C_drew ?_)))
  (case side2 => exact (Kd.R_reads' HO122.out).2.1)
  rintro e w14 ⟨rfl, hb⟩; refine ⟨_, rfl, ?_⟩; replace HO122 := Aside0.mk (Kd.R_below (rs HO122) hb); replace BK116 := Aside0.mk (blk_below (ks BK116) hb); replace HB := Aside0.mk (below_step (bs HB) hb); (try clear hb); (try clear hb2); (try clear hk); (try clear hi); refine hK.out _ _ ⟨(blk_cell BK116.out 0).trans rfl, (blk_cell BK116.out 1).trans rfl, (blk_cell BK116.out 2).trans rfl, (blk_cell BK116.out 3).trans rfl, (blk_cell BK116.out 4).trans rfl, (blk_cell BK116.out 5).trans rfl⟩ (fun hHeld => ?_); clear hK K; refine nA 19 ?_; refine pA 17 2 HT_ ?_; refine done_ (done_of HT_.out (by kernel_rfl)) ?_
  try go_wp2
  go_ret
  exact ⟨ff, bs HB⟩
end Go.Proofs.YtjbdljhjplidmaaDoor.QD
namespace Go.Proofs.YtjbdljhjplidmaaDoor.QD
open Go.RowKit Go.Proofs.YtjbdljhjplidmaaDoorW.PrintWords Go.Proofs.YtjbdljhjplidmaaDoorW.PrintLast Go.Proofs.YtjbdljhjplidmaaDoorW.PrintMore
attribute [local go_sem] max2_int min2_int max_two min_two max_three min_three max_four min_four   -- for this text's walks alone
set_option linter.unusedVariables false
set_option linter.unusedSimpArgs false
set_option maxHeartbeats 8000000 in
set_option maxRecDepth 100000 in
theorem laws_FnExactDiffText.calls (k : Nat) (a0_0 : Int) (a0_1 : ByteArray) (a0_2 : ByteArray) (a0_3 : Int) (a0_4 : ByteArray) (a0_5 : Int) (r : Bool) (w : World) (hTF : TbF w) (h : laws_FnExactDiffText.f k a0_0 a0_1 a0_2 a0_3 a0_4 a0_5 = some r) :
    Calls Tryd.prog 3 #[.agg #[.int .i64 a0_0, .string a0_1, .string a0_2, .int .i64 a0_3, .string a0_4, .int .i64 a0_5]] w fun e w' => e = .returned (.bool r) ∧ Below w.heap.size w w' := by
  have HTF := Aside0.mk hTF; clear hTF
  have hu23 := Tryd.underlying23; have HB := Aside0.mk (Below.refl w.heap.size w); have H : ((laws_szDiff.f a0_0 a0_1 a0_2 a0_3 a0_4 a0_5 1048576).bind fun t125 => (if t125 < 0 then (some true) else ((laws_toDiff.f a0_0 a0_1 a0_2 a0_3 a0_4 a0_5).bind fun bt126 => ((spec_DiffText.f k bt126.1 bt126.2.1 bt126.2.2.1 bt126.2.2.2.1 bt126.2.2.2.2.1 bt126.2.2.2.2.2).bind fun t132 => ((laws_toDiff.f a0_0 a0_1 a0_2 a0_3 a0_4 a0_5).bind fun bt133 => ((impl_DiffText.f bt133.1 bt133.2.1 bt133.2.2.1 bt133.2.2.2.1 bt133.2.2.2.2.1 bt133.2.2.2.2.2).bind fun t139 => (if t139.toList = t132.toList then (some true) else (some false)))))))) = some r := h; clear h; replace H := Option.bind_eq_some_iff.mp H; obtain ⟨t125, A20, H⟩ := H; replace H : (if t125 < 0 then (some true) else ((laws_toDiff.f a0_0 a0_1 a0_2 a0_3 a0_4 a0_5).bind fun bt126 => ((spec_DiffText.f k bt126.1 bt126.2.1 bt126.2.2.1 bt126.2.2.2.1 bt126.2.2.2.2.1 bt126.2.2.2.2.2).bind fun t132 => ((laws_toDiff.f a0_0 a0_1 a0_2 a0_3 a0_4 a0_5).bind fun bt133 => ((impl_DiffText.f bt133.1 bt133.2.1 bt133.2.2.1 bt133.2.2.2.1 bt133.2.2.2.2.1 bt133.2.2.2.2.2).bind fun t139 => (if t139.toList = t132.toList then (some true) else (some false))))))) = some r := H; have A2 := Aside0.mk A20; clear A20
  go_enter Tryd.func3, Tryd.ntmps3
  try go_wp2_with (first | ((with_reducible refine gate_dst (N := 1) rfl ?_); refine bx 1 (cs := #[.int .i64 a0_0, .string a0_1, .string a0_2, .int .i64 a0_3, .string a0_4, .int .i64 a0_5]) (t := 23) ?_; intro gb124 hg w3 hbox hb; have BK124 := Aside0.mk (hbox); have GW124 := Aside0.mk ((gs hg (bs HB))); have GE124 := Aside0.mk ((gs hg (bs HB))); replace HB := Aside0.mk (below_step (bs HB) hb); clear hb hbox hg; obtain ⟨hcz4_0, hcz4_1, hcz4_2, hcz4_3, hcz4_4, hcz4_5, hfz4_0, hfz4_1, hfz4_2, hfz4_3, hfz4_4, hfz4_5⟩ := cf6 BK124))
  go_at_call 7; (with_reducible refine (laws_szDiff.calls a0_0 a0_1 a0_2 a0_3 a0_4 a0_5 1048576 t125 _ A2.out).mono ?_); rintro e w5 ⟨rfl, hb⟩; replace BK124 := Aside0.mk (blk_below (ks BK124) hb); replace HB := Aside0.mk (below_step (bs HB) hb); (try clear hb); (try clear hb2); (try clear hk); (try clear hi)
  by_cases c6 : t125 < 0
  · rw [if_pos c6] at H; have c6b0 : decide (t125 < 0) = true := decide_eq_true c6; clear c6; obtain rfl := Option.some.inj H
    go_wp2
    go_ret
    exact ⟨ff, bs HB⟩
  · rw [if_neg c6] at H; have c6b0 : decide (t125 < 0) = false := decide_eq_false c6; clear c6; replace H := Option.bind_eq_some_iff.mp H; obtain ⟨⟨t126, t127, t128, t129, t130, t131⟩, A70, H⟩ := H; replace H : ((spec_DiffText.f k t126 t127 t128 t129 t130 t131).bind fun t132 => ((laws_toDiff.f a0_0 a0_1 a0_2 a0_3 a0_4 a0_5).bind fun bt133 => ((impl_DiffText.f bt133.1 bt133.2.1 bt133.2.2.1 bt133.2.2.2.1 bt133.2.2.2.2.1 bt133.2.2.2.2.2).bind fun t139 => (if t139.toList = t132.toList then (some true) else (some false))))) = some r := H; have A7 := Aside0.mk A70; clear A70; obtain ⟨hcz8_0, hcz8_1, hcz8_2, hcz8_3, hcz8_4, hcz8_5, hfz8_0, hfz8_1, hfz8_2, hfz8_3, hfz8_4, hfz8_5⟩ := cf6 BK124
    try go_wp2_with (fail)
    go_at_call 9; (with_reducible refine (laws_toDiff.calls a0_0 a0_1 a0_2 a0_3 a0_4 a0_5 t126 t127 t128 t129 t130 t131 _ A7.out).mono ?_); rintro e w9 ⟨rfl, hb⟩; replace BK124 := Aside0.mk (blk_below (ks BK124) hb); replace HB := Aside0.mk (below_step (bs HB) hb); (try clear hb); (try clear hb2); (try clear hk); (try clear hi); replace H := Option.bind_eq_some_iff.mp H; obtain ⟨t132, A100, H⟩ := H; replace H : ((laws_toDiff.f a0_0 a0_1 a0_2 a0_3 a0_4 a0_5).bind fun bt133 => ((impl_DiffText.f bt133.1 bt133.2.1 bt133.2.2.1 bt133.2.2.2.1 bt133.2.2.2.2.1 bt133.2.2.2.2.2).bind fun t139 => (if t139.toList = t132.toList then (some true) else (some false)))) = some r := H; have A10 := Aside0.mk A100; clear A100
    try go_wp2_with (fail)
    go_at_call 8; (with_reducible refine (spec_DiffText.calls k t126 t127 t128 t129 t130 t131 t132 _ A10.out).mono ?_); rintro e w11 ⟨rfl, hb⟩; replace BK124 := Aside0.mk (blk_below (ks BK124) hb); replace HB := Aside0.mk (below_step (bs HB) hb); (try clear hb); (try clear hb2); (try clear hk); (try clear hi); replace H := Option.bind_eq_some_iff.mp H; obtain ⟨⟨t133, t134, t135, t136, t137, t138⟩, A120, H⟩ := H; replace H : ((impl_DiffText.f t133 t134 t135 t136 t137 t138).bind fun t139 => (if t139.toList = t132.toList then (some true) else (some false))) = some r := H; have A12 := Aside0.mk A120; clear A120; obtain ⟨hcz13_0, hcz13_1, hcz13_2, hcz13_3, hcz13_4, hcz13_5, hfz13_0, hfz13_1, hfz13_2, hfz13_3, hfz13_4, hfz13_5⟩ := cf6 BK124
    try go_wp2_with (fail)
    go_at_call 9; (with_reducible refine (laws_toDiff.calls a0_0 a0_1 a0_2 a0_3 a0_4 a0_5 t133 t134 t135 t136 t137 t138 _ A12.out).mono ?_); rintro e w14 ⟨rfl, hb⟩; replace BK124 := Aside0.mk (blk_below (ks BK124) hb); replace HB := Aside0.mk (below_step (bs HB) hb); (try clear hb); (try clear hb2); (try clear hk); (try clear hi); replace H := Option.bind_eq_some_iff.mp H; obtain ⟨t139, A150, H⟩ := H; replace H : (if t139.toList = t132.toList then (some true) else (some false)) = some r := H; have A15 := Aside0.mk A150; clear A150
    try go_wp2_with (fail)
    go_at_call 10; (with_reducible refine (impl_DiffText.calls t133 t134 t135 t136 t137 t138 t139 _ (tbF HTF (bs HB)) A15.out).mono ?_); rintro e w16 ⟨rfl, hb⟩; replace BK124 := Aside0.mk (blk_below (ks BK124) hb); replace HB := Aside0.mk (below_step (bs HB) hb); (try clear hb); (try clear hb2); (try clear hk); (try clear hi)
    by_cases c17 : t139.toList = t132.toList
    · rw [if_pos c17] at H; have c17b0 : (t139.toList == t132.toList) = true := beq_iff_eq.mpr c17; have c17b1 : (t139.toList != t132.toList) = false := bne_eq_false_iff_eq.mpr c17; clear c17; obtain rfl := Option.some.inj H
      go_wp2
      go_ret
      exact ⟨ff, bs HB⟩
    · rw [if_neg c17] at H; have c17b0 : (t139.toList == t132.toList) = false := beq_eq_false_iff_ne.mpr c17; have c17b1 : (t139.toList != t132.toList) = true := bne_iff_ne.mpr c17; obtain rfl := Option.some.inj H
      go_wp2
      go_ret
      exact ⟨ff, bs HB⟩
end Go.Proofs.YtjbdljhjplidmaaDoor.QD
namespace Go.Proofs.YtjbdljhjplidmaaDoor.Rd
open Go.RowKit Go.ChangeShapes Go.WideShapes Go.Proofs.YtjbdljhjplidmaaDoorW.PrintWords
def Rd (P : Program) (t : TypeId) {α : Type} (d : Kd α) (wf : α → Prop) : Prop :=
  ∀ (H : Type) (enc : TypeId × Value → H) (w : World) (base : Nat) (sp : Nat → Bool) (held : Bool) (fuel : Nat) (cs : List Value) (x : DataW H × List MemPlace),
    DataW.trod enc P w base sp held fuel t cs = some x → ∃ a : α, d.K w a cs ∧ wf a
def RdF (P : Program) (fs : List Field) (off : Nat) {α : Type} (d : Kd α) (wf : α → Prop) : Prop :=
  ∀ (H : Type) (enc : TypeId × Value → H) (w : World) (base : Nat) (sp : Nat → Bool) (held : Bool) (n : Nat) (cs : List Value),
    cs.length = off + d.sz → (∀ f ∈ fs, ∃ y, DataW.trod enc P w base sp held n f.type ((cs.drop f.offset).take (P.cellsOf f.type)) = some y) → ∃ a : α, d.K w a (cs.drop off) ∧ wf a
def WfInt (k : IntKind) (n : Int) : Prop := (Lit.int k n).wf = true
def WfStr (s : ByteArray) : Prop := s.size ≤ maxLen
theorem rd_int {P : Program} {t : TypeId} {k : IntKind} (hu : P.underlying t = some (.int k)) : Rd P t (Kd.int k) (WfInt k) := by
  intro H enc w base sp held fuel cs x h
  cases fuel with
  | zero => simp [DataW.trod] at h
  | succ n =>
    match cs with
    | [.int k' m] =>
      simp only [DataW.trod, hu] at h
      split at h
      · rename_i hk
        obtain ⟨rfl, hw⟩ := hk
        exact ⟨m, rfl, hw⟩
      · cases h
    | [] => simp [DataW.trod, hu] at h
    | [.bool _] => simp [DataW.trod, hu] at h
    | [.float _ _] => simp [DataW.trod, hu] at h
    | [.complex _ _ _] => simp [DataW.trod, hu] at h
    | [.string _] => simp [DataW.trod, hu] at h
    | [.pointer _] => simp [DataW.trod, hu] at h
    | [.slice _ _ _] => simp [DataW.trod, hu] at h
    | [.map _] => simp [DataW.trod, hu] at h
    | [.chan _] => simp [DataW.trod, hu] at h
    | [.func _ _ _] => simp [DataW.trod, hu] at h
    | [.nilFunc] => simp [DataW.trod, hu] at h
    | [.iface _ _] => simp [DataW.trod, hu] at h
    | [.nilIface] => simp [DataW.trod, hu] at h
    | [.agg _] => simp [DataW.trod, hu] at h
    | [.tuple _] => simp [DataW.trod, hu] at h
    | _ :: _ :: _ => simp [DataW.trod, hu] at h
theorem rd_str {P : Program} {t : TypeId} (hu : P.underlying t = some .string) : Rd P t Kd.string WfStr := by
  intro H enc w base sp held fuel cs x h
  cases fuel with
  | zero => simp [DataW.trod] at h
  | succ n =>
    match cs with
    | [.string s] =>
      simp only [DataW.trod, hu] at h
      split at h
      · rename_i hk
        exact ⟨s, rfl, hk⟩
      · cases h
    | [] => simp [DataW.trod, hu] at h
    | [.int _ _] => simp [DataW.trod, hu] at h
    | [.bool _] => simp [DataW.trod, hu] at h
    | [.float _ _] => simp [DataW.trod, hu] at h
    | [.complex _ _ _] => simp [DataW.trod, hu] at h
    | [.pointer _] => simp [DataW.trod, hu] at h
    | [.slice _ _ _] => simp [DataW.trod, hu] at h
    | [.map _] => simp [DataW.trod, hu] at h
    | [.chan _] => simp [DataW.trod, hu] at h
    | [.func _ _ _] => simp [DataW.trod, hu] at h
    | [.nilFunc] => simp [DataW.trod, hu] at h
    | [.iface _ _] => simp [DataW.trod, hu] at h
    | [.nilIface] => simp [DataW.trod, hu] at h
    | [.agg _] => simp [DataW.trod, hu] at h
    | [.tuple _] => simp [DataW.trod, hu] at h
    | _ :: _ :: _ => simp [DataW.trod, hu] at h
theorem rdF_last {P : Program} {f : Field} {off : Nat} {α : Type} {d : Kd α} {wf : α → Prop} (h : Rd P f.type d wf) (ho : f.offset = off) (hc : P.cellsOf f.type = d.sz) : RdF P [f] off d wf := by
  intro H enc w base sp held n cs hl hy
  obtain ⟨y, hy⟩ := hy f (List.mem_singleton.2 rfl)
  rw [ho, hc, List.take_of_length_le (by rw [List.length_drop]; omega)] at hy
  exact h H enc w base sp held n _ y hy
theorem rdF_cons {P : Program} {f : Field} {fs : List Field} {off off2 : Nat} {α β : Type} {d : Kd α} {e : Kd β} {wf : α → Prop} {wg : β → Prop} (h : Rd P f.type d wf) (ho : f.offset = off) (hc : P.cellsOf f.type = d.sz)
    (h2 : off2 = off + d.sz) (hs : RdF P fs off2 e wg) : RdF P (f :: fs) off (Kd.pair d e) (fun x => wf x.1 ∧ wg x.2) := by
  intro H enc w base sp held n cs hl hy
  obtain ⟨y, hy1⟩ := hy f (List.mem_cons_self ..)
  have hl' : cs.length = off + (d.sz + e.sz) := hl
  obtain ⟨a, ha, hwa⟩ := h H enc w base sp held n _ y hy1
  obtain ⟨b, hb, hwb⟩ := hs H enc w base sp held n cs (by omega) (fun g hg => hy g (List.mem_cons_of_mem _ hg))
  rw [ho, hc] at ha
  refine ⟨(a, b), ⟨_, _, ?_, ha, hb⟩, hwa, hwb⟩
  rw [h2, ← List.drop_drop, List.take_append_drop]
theorem rd_struct {P : Program} {t : TypeId} {fs : Array Field} {α β : Type} {d : Kd α} {wf : α → Prop} {wg : β → Prop} (g : β → α) (gi : α → β) (hg : ∀ a, g (gi a) = a) (hwg : ∀ a, wf a → wg (gi a))
    (hu : P.underlying t = some (.struct fs)) (hc : P.cellsOf t = d.sz) (hF : RdF P fs.toList 0 d wf) : Rd P t (Kd.iso d g) wg := by
  intro H enc w base sp held fuel cs x h
  obtain ⟨xs, n, _, rfl, hl, hlen, hf⟩ := DataW.trod_struct hu h
  obtain ⟨a, ha, hwa⟩ := hF H enc w base sp held n cs (by omega) (fun f hfm => by
    obtain ⟨i, hi, rfl⟩ := List.mem_iff_getElem.1 hfm
    have hi' : i < fs.size := by simpa using hi
    have z := hf i (fs[i]) (by simp [hi'])
    rw [List.getElem?_eq_getElem (by omega)] at z
    exact ⟨_, by simpa using z⟩)
  refine ⟨gi a, ?_, hwg a hwa⟩
  show d.K w (g (gi a)) cs
  rw [hg]
  simpa using ha
end Go.Proofs.YtjbdljhjplidmaaDoor.Rd
namespace Go.Proofs.YtjbdljhjplidmaaDoor.QD
open Go.RowKit Go.Proofs.YtjbdljhjplidmaaDoor Go.Proofs.YtjbdljhjplidmaaDoorW.PrintWords
def wf23 (x : S23) : Prop := (Rd.WfInt .i64) x.f0 ∧ Rd.WfStr x.f1 ∧ Rd.WfStr x.f2 ∧ (Rd.WfInt .i64) x.f3 ∧ Rd.WfStr x.f4 ∧ (Rd.WfInt .i64) x.f5
set_option maxRecDepth 100000 in
theorem rd23 : Rd.Rd Tryd.prog 23 k23 wf23 := Rd.rd_struct _ (fun a => ⟨a.1, a.2.1, a.2.2.1, a.2.2.2.1, a.2.2.2.2.1, a.2.2.2.2.2⟩) (fun _ => rfl) (fun _ h => h) Tryd.underlying23 (by kernel_rfl) (Rd.rdF_cons (Rd.rd_int (Tryd.underlying2)) rfl (by kernel_rfl) (off2 := 1) rfl (Rd.rdF_cons (Rd.rd_str (Tryd.underlying9)) rfl (by kernel_rfl) (off2 := 2) rfl (Rd.rdF_cons (Rd.rd_str (Tryd.underlying9)) rfl (by kernel_rfl) (off2 := 3) rfl (Rd.rdF_cons (Rd.rd_int (Tryd.underlying2)) rfl (by kernel_rfl) (off2 := 4) rfl (Rd.rdF_cons (Rd.rd_str (Tryd.underlying9)) rfl (by kernel_rfl) (off2 := 5) rfl (Rd.rdF_last (Rd.rd_int (Tryd.underlying2)) rfl (by kernel_rfl)))))))
end Go.Proofs.YtjbdljhjplidmaaDoor.QD
namespace Go.Proofs.YtjbdljhjplidmaaDoor.QD
open Go.Proofs.YtjbdljhjplidmaaDoor Go.Proofs.YtjbdljhjplidmaaDoorW.PrintWords
def laws_FnExactDiffText.Pure : Prop := ∀ (a0_0 : Int) (a0_1 : ByteArray) (a0_2 : ByteArray) (a0_3 : Int) (a0_4 : ByteArray) (a0_5 : Int), (Rd.WfInt .i64) a0_0 → Rd.WfStr a0_1 → Rd.WfStr a0_2 → (Rd.WfInt .i64) a0_3 → Rd.WfStr a0_4 → (Rd.WfInt .i64) a0_5 → ∃ k, laws_FnExactDiffText.f k a0_0 a0_1 a0_2 a0_3 a0_4 a0_5 = some true
end Go.Proofs.YtjbdljhjplidmaaDoor.QD
namespace Go.Proofs.YtjbdljhjplidmaaDoor.Ev0
open Go.RowKit Go.Proofs.YtjbdljhjplidmaaDoorW.PrintWords
def Evt {α : Type} (f : Nat → Option α) (r : α) : Prop := ∃ K, ∀ k, K ≤ k → f k = some r
namespace Evt
variable {α β : Type}
theorem pure (r : α) : Evt (fun _ => some r) r := ⟨0, fun _ _ => rfl⟩
theorem bind {f : Nat → Option α} {g : Nat → α → Option β} {a : α} {r : β} (h : Evt f a) (h2 : Evt (fun k => g k a) r) : Evt (fun k => (f k).bind (g k)) r := by
  obtain ⟨K, hK⟩ := h
  obtain ⟨L, hL⟩ := h2
  refine ⟨K + L, fun k hk => ?_⟩
  show (f k).bind (g k) = some r
  rw [hK k (by omega)]
  exact hL k (by omega)
theorem succ {f : Nat → Option α} {r : α} (h : Evt (fun k => f (k + 1)) r) : Evt f r := by
  obtain ⟨K, hK⟩ := h
  refine ⟨K + 1, fun k hk => ?_⟩
  obtain ⟨m, rfl⟩ : ∃ m, k = m + 1 := ⟨k - 1, by omega⟩
  exact hK m (by omega)
theorem pos {c : Prop} [Decidable c] {f g : Nat → Option α} {r : α} (hc : c) (h : Evt f r) : Evt (fun k => if c then f k else g k) r := by
  simpa only [if_pos hc] using h
theorem neg {c : Prop} [Decidable c] {f g : Nat → Option α} {r : α} (hc : ¬ c) (h : Evt g r) : Evt (fun k => if c then f k else g k) r := by
  simpa only [if_neg hc] using h
theorem ex {f : Nat → Option α} {r : α} (h : Evt f r) : ∃ k, f k = some r := by
  obtain ⟨K, hK⟩ := h
  exact ⟨K, hK K (Nat.le_refl _)⟩
theorem same {f : Nat → Option α} {r r' : α} (h : Evt f r) (e : r = r') : Evt f r' := e ▸ h
end Evt
theorem w64 {x : Int} (h0 : -9223372036854775808 ≤ x) (h1 : x ≤ 9223372036854775807) : wrap64 x = x := by
  unfold wrap64
  omega
noncomputable def B (p : Prop) : Bool := @decide p (Classical.propDecidable p)
end Go.Proofs.YtjbdljhjplidmaaDoor.Ev0
namespace Go.Proofs.YtjbdljhjplidmaaDoor.QD
open Go.RowKit Go.Proofs.YtjbdljhjplidmaaDoorW.PrintWords Go.Proofs.YtjbdljhjplidmaaDoor.Ev0
def bs8 (l : List UInt8) : ByteArray := ⟨l.toArray⟩
theorem bs8_app (a b : List UInt8) : bs8 a ++ bs8 b = bs8 (a ++ b) := by
  apply ByteArray.ext
  simp [bs8]
theorem bs8_size (l : List UInt8) : (bs8 l).size = l.length := by simp [bs8, ByteArray.size]
def dg (u : Nat) : List UInt8 := if u = 0 then [] else Lib.decDigits u
theorem dg_step (u : Nat) (h : u ≠ 0) : dg u = dg (u / 10) ++ [UInt8.ofNat (48 + u % 10)] := by
  unfold dg
  rw [if_neg h, Lib.decDigits]
  by_cases g : u < 10
  · rw [dif_pos g, if_pos (by omega), show u % 10 = u by omega]
    rfl
  · rw [dif_neg g, if_neg (by omega)]
theorem dg_len (d : Nat) : ∀ u : Nat, u < 10 ^ d → (dg u).length ≤ d := by
  induction d with
  | zero =>
    intro u h
    have : u = 0 := by (simpa using h)
    subst this
    simp [dg]
  | succ d ih =>
    intro u h
    by_cases g : u = 0
    · subst g; simp [dg]
    · rw [dg_step u g, List.length_append, List.length_singleton]
      have := ih (u / 10) (by rw [Nat.pow_succ] at h; omega)
      omega
theorem str_one (v : Nat) (h : v < 10) : strOfNums [((48 + v : Nat) : Int)] = bs8 [UInt8.ofNat (48 + v)] := by
  have : v = 0 ∨ v = 1 ∨ v = 2 ∨ v = 3 ∨ v = 4 ∨ v = 5 ∨ v = 6 ∨ v = 7 ∨ v = 8 ∨ v = 9 := by omega
  rcases this with rfl | rfl | rfl | rfl | rfl | rfl | rfl | rfl | rfl | rfl <;> rfl
theorem dec_run (d : Nat) : ∀ (n : Nat) (a : Int) (neg : Bool) (x : List UInt8), (a = (n : Int) ∨ a = -(n : Int)) → n < 10 ^ d → n ≤ 9223372036854775808 → (a = (n : Int) → n ≤ 9223372036854775807) → x.length + d ≤ 1000 →
    Evt (fun k => spec_l01Dec.l0 k a neg (bs8 x)) (bs8 ((if neg = true then [45] else []) ++ (dg n ++ x))) := by
  have fin : ∀ (a : Int) (neg : Bool) (x : List UInt8), a = 0 → x.length ≤ 1000 → Evt (fun k => spec_l01Dec.l0 k a neg (bs8 x)) (bs8 ((if neg = true then [45] else []) ++ (dg 0 ++ x))) := by
    intro a neg x ha hx
    apply Evt.succ
    simp only [spec_l01Dec.l0]
    refine Evt.pos ha ?_
    cases neg with
    | true => exact Evt.pos rfl (Evt.pos (by rw [bs8_size]; omega) ((Evt.pure _).same (bs8_app [45] x)))
    | false => exact Evt.neg (by decide) ((Evt.pure _).same (by simp [dg]))
  induction d with
  | zero =>
    intro n a neg x ha hn h1 h2 hx
    have : n = 0 := by simpa using hn
    subst this
    exact fin a neg x (by omega) (by omega)
  | succ d ih =>
    intro n a neg x ha hn h1 h2 hx
    by_cases g : n = 0
    · subst g
      exact fin a neg x (by omega) (by omega)
    have hd : n / 10 < 10 ^ d := by rw [Nat.pow_succ] at hn; omega
    apply Evt.succ
    simp only [spec_l01Dec.l0, Option.bind_some]
    refine Evt.neg (by omega) ?_
    have hv : n % 10 < 10 := by omega
    have one : ∀ v : Int, v = ((n % 10 : Nat) : Int) → strOfNums [(wrap64 (48 + v)) % 256] = bs8 [UInt8.ofNat (48 + n % 10)] := fun v e => by
      rw [e, w64 (by omega) (by omega), ← str_one _ hv]
      congr 2
      omega
    have ends : bs8 ((if neg = true then [45] else []) ++ (dg (n / 10) ++ ([UInt8.ofNat (48 + n % 10)] ++ x))) = bs8 ((if neg = true then [45] else []) ++ (dg n ++ x)) := by
      rw [dg_step n g, List.append_assoc]
    rcases ha with ha | ha
    · have e1 : Int.tmod a 10 = ((n % 10 : Nat) : Int) := by rw [ha, Int.tmod_eq_emod_of_nonneg (by omega)]; omega
      have e2 : Int.tdiv a 10 = ((n / 10 : Nat) : Int) := by rw [ha, Int.tdiv_eq_ediv_of_nonneg (by omega)]; omega
      refine Evt.neg (by omega) ?_
      rw [one _ e1, e2, w64 (by omega) (by omega), bs8_app]
      refine Evt.pos (by rw [bs8_size, bs8_size, List.length_singleton]; omega) ((ih (n / 10) _ neg _ (.inl rfl) hd (by omega) (fun _ => by omega) (by simp; omega)).same ends)
    · have e1 : Int.tmod a 10 = -((n % 10 : Nat) : Int) := by rw [ha, Int.neg_tmod, Int.tmod_eq_emod_of_nonneg (by omega)]; omega
      have e2 : Int.tdiv a 10 = -((n / 10 : Nat) : Int) := by rw [ha, Int.neg_tdiv, Int.tdiv_eq_ediv_of_nonneg (by omega)]; omega
      have hm : wrap64 (-(Int.tmod a 10)) = ((n % 10 : Nat) : Int) := by rw [e1, w64 (by omega) (by omega)]; omega
      have go : Evt (fun k => spec_l01Dec.l0 k (-((n / 10 : Nat) : Int)) neg (bs8 ([UInt8.ofNat (48 + n % 10)] ++ x))) (bs8 ((if neg = true then [45] else []) ++ (dg n ++ x))) :=
        (ih (n / 10) _ neg _ (.inr rfl) hd (by omega) (fun h => by omega) (by simp; omega)).same ends
      by_cases hz : Int.tmod a 10 < 0
      · refine Evt.pos hz ?_
        rw [hm, one _ rfl, e2, w64 (by omega) (by omega), bs8_app]
        exact Evt.pos (by rw [bs8_size, bs8_size, List.length_singleton]; omega) go
      · refine Evt.neg hz ?_
        rw [one _ (by omega), e2, w64 (by omega) (by omega), bs8_app]
        exact Evt.pos (by rw [bs8_size, bs8_size, List.length_singleton]; omega) go
theorem l01Dec_ev (a : Int) (h0 : -9223372036854775808 ≤ a) (h1 : a ≤ 9223372036854775807) : Evt (fun k => spec_l01Dec.f k a) (bs8 (Lib.itoa a)) := by
  unfold spec_l01Dec.f
  by_cases e : a = 0
  · refine Evt.pos e ((Evt.pure _).same ?_)
    subst e
    unfold Lib.itoa
    rw [if_neg (by decide), show (0 : Int).toNat = 0 from rfl, Lib.decDigits, dif_pos (by decide)]
    rfl
  · refine Evt.neg e ?_
    by_cases g : a < 0
    · rw [decide_eq_true g]
      have h := dec_run 20 a.natAbs a true [] (.inr (by omega)) (by omega) (by omega) (fun h => by omega) (by decide)
      refine (show Evt (fun k => spec_l01Dec.l0 k a true (⟨#[]⟩ : ByteArray)) _ from h).same ?_
      unfold Lib.itoa dg
      rw [if_pos g, if_pos rfl, if_neg (by omega), List.append_nil]
      rfl
    · rw [decide_eq_false g]
      have h := dec_run 20 a.natAbs a false [] (.inl (by omega)) (by omega) (by omega) (fun h => by omega) (by decide)
      refine (show Evt (fun k => spec_l01Dec.l0 k a false (⟨#[]⟩ : ByteArray)) _ from h).same ?_
      unfold Lib.itoa dg
      rw [if_neg g, if_neg (by decide), if_neg (by omega), List.append_nil, List.nil_append, show a.toNat = a.natAbs by omega]
theorem itoa_len (a : Int) (h0 : -9223372036854775808 ≤ a) (h1 : a ≤ 9223372036854775807) : (Lib.itoa a).length ≤ 25 := by
  have hd : ∀ u : Nat, u < 10 ^ 20 → (Lib.decDigits u).length ≤ 20 := fun u hu => by
    by_cases g : u = 0
    · subst g
      rw [Lib.decDigits, dif_pos (by decide)]
      decide
    · have := dg_len 20 u hu
      unfold dg at this
      rwa [if_neg g] at this
  unfold Lib.itoa
  by_cases g : a < 0
  · rw [if_pos g, List.length_cons]
    have := hd a.natAbs (by omega)
    omega
  · rw [if_neg g]
    have := hd a.toNat (by omega)
    omega
end Go.Proofs.YtjbdljhjplidmaaDoor.QD
set_option linter.unusedSimpArgs false
namespace Go.Proofs.YtjbdljhjplidmaaDoor.Pure
open Go.RowKit Go.Proofs.YtjbdljhjplidmaaDoor.QD Go.Proofs.YtjbdljhjplidmaaDoorW.PrintWords Go.Proofs.YtjbdljhjplidmaaDoor.Ev0
theorem szDiff_some (a : Int) (b c : ByteArray) (d : Int) (e : ByteArray) (f : Int) (hb : b.size ≤ 9223372036854775807) (hc : c.size ≤ 9223372036854775807) (he : e.size ≤ 9223372036854775807) :
    ∃ t, laws_szDiff.f a b c d e f 1048576 = some t ∧ (t < 0 ∨ b.size + c.size + e.size ≤ 1048576) := by
  unfold laws_szDiff.f
  rw [w64 (x := 1048576 - (b.size : Int)) (by omega) (by omega)]
  by_cases h1 : (1048576 - (b.size : Int)) < 0
  · rw [if_pos h1]
    exact ⟨_, rfl, .inl (by decide)⟩
  rw [if_neg h1, w64 (x := 1048576 - (b.size : Int) - (c.size : Int)) (by omega) (by omega)]
  by_cases h2 : (1048576 - (b.size : Int) - (c.size : Int)) < 0
  · rw [if_pos h2]
    exact ⟨_, rfl, .inl (by decide)⟩
  rw [if_neg h2, w64 (x := 1048576 - (b.size : Int) - (c.size : Int) - (e.size : Int)) (by omega) (by omega)]
  by_cases h3 : (1048576 - (b.size : Int) - (c.size : Int) - (e.size : Int)) < 0
  · rw [if_pos h3]
    exact ⟨_, rfl, .inl (by decide)⟩
  rw [if_neg h3]
  exact ⟨_, rfl, .inr (by omega)⟩
theorem bs8_of (a : ByteArray) : a = bs8 a.data.toList := by
  apply ByteArray.ext
  simp [bs8]
theorem one32 : (⟨#[32]⟩ : ByteArray) = bs8 [32] := rfl
theorem FnExactDiffText : laws_FnExactDiffText.Pure := by
  intro a b c d e f wa wb wc wd we wf
  have hb : b.size ≤ 9223372036854775807 := by have : b.size ≤ 2 ^ 63 - 1 := wb; omega
  have hc : c.size ≤ 9223372036854775807 := by have : c.size ≤ 2 ^ 63 - 1 := wc; omega
  have he : e.size ≤ 9223372036854775807 := by have : e.size ≤ 2 ^ 63 - 1 := we; omega
  have ia : ∀ x : Int, (Rd.WfInt .i64) x → -9223372036854775808 ≤ x ∧ x ≤ 9223372036854775807 := fun x hx => by
    have h : (Lit.int .i64 x).wf = true := hx
    simp only [Lit.wf, Bool.and_eq_true, decide_eq_true_eq] at h
    exact ⟨h.1, h.2⟩
  obtain ⟨a0, a1⟩ := ia a wa
  obtain ⟨d0, d1⟩ := ia d wd
  obtain ⟨f0, f1⟩ := ia f wf
  apply Evt.ex
  unfold laws_FnExactDiffText.f
  obtain ⟨t, ht, hs⟩ := szDiff_some a b c d e f hb hc he
  simp only [ht, laws_toDiff.f, Option.bind_some]
  by_cases t0 : t < 0
  · exact Evt.pos t0 (Evt.pure true)
  refine Evt.neg t0 ?_
  have hs := hs.resolve_left t0
  have la := itoa_len a a0 a1
  have ld := itoa_len d d0 d1
  have lf := itoa_len f f0 f1
  obtain ⟨bl, rfl⟩ : ∃ bl, b = bs8 bl := ⟨_, bs8_of b⟩
  obtain ⟨cl, rfl⟩ : ∃ cl, c = bs8 cl := ⟨_, bs8_of c⟩
  obtain ⟨el, rfl⟩ : ∃ el, e = bs8 el := ⟨_, bs8_of e⟩
  have hs' : bl.length + cl.length + el.length ≤ 1048576 := by simpa only [bs8_size] using hs
  clear hs hb hc he wb wc we ht
  have hsp : Evt (fun k => spec_DiffText.f k a (bs8 bl) (bs8 cl) d (bs8 el) f) (bs8 (Lib.itoa a ++ ([32] ++ (bl ++ ([32] ++ (cl ++ ([32] ++ (Lib.itoa d ++ ([32] ++ (el ++ ([32] ++ Lib.itoa f))))))))))) := by
    unfold spec_DiffText.f
    refine Evt.bind (l01Dec_ev a a0 a1) ?_
    simp only [one32, bs8_app, bs8_size, List.length_append, List.length_cons, List.length_nil]
    refine Evt.pos (by omega) (Evt.pos (by omega) (Evt.pos (by omega) (Evt.pos (by omega) (Evt.pos (by omega) ?_))))
    refine Evt.bind (l01Dec_ev d d0 d1) ?_
    simp only [one32, bs8_app, bs8_size, List.length_append, List.length_cons, List.length_nil]
    refine Evt.pos (by omega) (Evt.pos (by omega) (Evt.pos (by omega) (Evt.pos (by omega) ?_)))
    refine Evt.bind (l01Dec_ev f f0 f1) ?_
    simp only [one32, bs8_app, bs8_size, List.length_append, List.length_cons, List.length_nil]
    refine Evt.pos (by omega) ((Evt.pure _).same ?_)
    simp only [List.append_assoc]
  have dec : ∀ x : Int, -9223372036854775808 ≤ x → x ≤ 9223372036854775807 → impl_decimal.f x = some (bs8 (Lib.itoa x)) := fun x h0 h1 => by
    unfold impl_decimal.f strconv_FormatInt.f
    rw [if_pos rfl, if_pos h0, if_pos h1]
    rfl
  have bd : ∀ l : List UInt8, (bs8 l).data.toList = l := fun l => by simp [bs8]
  have hj : Lib.join [Lib.itoa a, bl, cl, Lib.itoa d, el, Lib.itoa f] [32] = Lib.itoa a ++ ([32] ++ (bl ++ ([32] ++ (cl ++ ([32] ++ (Lib.itoa d ++ ([32] ++ (el ++ ([32] ++ Lib.itoa f))))))))) := by
    simp [Lib.join, List.intercalate, List.intersperse]
  have him : impl_DiffText.f a (bs8 bl) (bs8 cl) d (bs8 el) f = some (bs8 (Lib.itoa a ++ ([32] ++ (bl ++ ([32] ++ (cl ++ ([32] ++ (Lib.itoa d ++ ([32] ++ (el ++ ([32] ++ Lib.itoa f))))))))))) := by
    unfold impl_DiffText.f
    rw [dec a a0 a1, dec d d0 d1, dec f f0 f1]
    simp only [Option.bind_some]
    unfold strings_Join.f
    simp only [List.map_cons, List.map_nil, one32, bd, hj]
    rw [if_pos (by simp; omega), if_pos (by simp), if_neg (by simp)]
    rfl
  refine Evt.bind hsp ?_
  simp only [him, Option.bind_some, if_true]
  exact Evt.pure true
end Go.Proofs.YtjbdljhjplidmaaDoor.Pure
