/- For every input that can be read as data, laws.FnExactBookMove returns true, and each argument reads behind the call as it read before. Conditions: none but the row's own. -/
import Derived.Test.YtefmkmhjbfpelaaRows
import Derived.WalkKit
import Derived.ProofKit
import Derived.OpenShut
import Derived.ShutString
import Derived.ChangeOld
import Derived.Below
import Derived.SizedLaws
import Derived.Carry
import Derived.Test.YtefmkmhjbfpelaaKFnExactBookMove0
import Derived.Test.YtefmkmhjbfpelaaKFnExactBookMove1
import Derived.Test.YtefmkmhjbfpelaaKFnExactBookMove2
import Derived.Test.YtefmkmhjbfpelaaKFnExactBookMove3
import Derived.Test.YtefmkmhjbfpelaaKFnExactBookMove4
import Derived.Test.YtefmkmhjbfpelaaKFnExactBookMove5
import Derived.Test.YtefmkmhjbfpelaaKFnExactBookMove6
import Derived.Test.YtefmkmhjbfpelaaKFnExactBookMove7
import Derived.Test.YtefmkmhjbfpelaaKFnExactBookMove8
import Derived.Test.YtefmkmhjbfpelaaKFnExactBookMove9
import Derived.Test.YtefmkmhjbfpelaaKFnExactBookMove10
import Derived.Test.YtefmkmhjbfpelaaKFnExactBookMove11
import Derived.Test.YtefmkmhjbfpelaaKFnExactBookMove12
import Derived.Test.YtefmkmhjbfpelaaKFnExactBookMove13
import Derived.Test.YtefmkmhjbfpelaaKFnExactBookMove14
import Derived.Test.YtefmkmhjbfpelaaKFnExactBookMove15
import Derived.Test.YtefmkmhjbfpelaaKFnExactBookMove16
import Derived.Test.YtefmkmhjbfpelaaKFnExactBookMove17
import Derived.Test.YtefmkmhjbfpelaaKFnExactBookMove18
import Derived.Test.YtefmkmhjbfpelaaKFnExactBookMove19
import Derived.Test.YtefmkmhjbfpelaaKFnExactBookMove20
namespace Go.Proofs.Ytefmkmhjbfpelaa.fnExactBookMove
open Go.ChangeShapes Go.WideShapes Go.ChangeAt Go.RowKit Go.Proofs.Ytefmkmhjbfpelaa.QM Go.Proofs.YtefmkmhjbfpelaaW.PrintWords
open Go.ChangeMaps (open_string shut_string)
set_option linter.unusedVariables false
theorem own : ownKnob Try.prog.godebug = none := by kernel_rfl
theorem laidOut : laidOutB Try.prog = true := by kernel_rfl
set_option maxRecDepth 100000 in
theorem lifted (os : Os) (started : os.Started) (H : Type) (enc : TypeId × Value → H) :
    ReturnsInHanded {} Try.checked os 14 .any (Rows.fnExactBookMoveSpec.pre6 enc Try.prog Try.f14 Rows.fnExactBookMoveRow.domain false) (Rows.fnExactBookMoveSpec.post enc Try.prog Try.f14 false true false false) := by
  refine returnsInHanded_of_change_sized (C := Try.checked) own started (by kernel_rfl) Try.func14
    (ChangeSpec.witness6 (enc := enc) (C := Try.checked) false ⟨#[], #[.agg #[.slice none 0 0, .slice none 0 0], .string ByteArray.empty, .int .i64 0], []⟩ 8 (by kernel_rfl) (by kernel_rfl) (by kernel_rfl) (by kernel_rfl)) ?_
  intro W base args ds gs before hval0 hW hcnd hsz0 _
  have hval : ∀ (j : Nat) t v, Try.f14.params[j]? = some t → args[j]? = some v → Value.okWide Try.prog W .any base t v := hval0
  have hW' := hW
  obtain ⟨p, q, hA0, hV, rfl, hfz, hnd⟩ := hW
  have hA : DataW.TrodAll enc Try.prog W 0 (fun _ => true) true Try.f14.params.toList args.toList ds p := hA0
  rw [Try.params14] at hA hval
  obtain ⟨v0, vs0, d0, ds0, p0, q0, hargs, rfl, rfl, h0, r0⟩ := trodAll_cons hA
  obtain ⟨v1, vs1, d1, ds1, p1, q1, rfl, rfl, rfl, h1, r1⟩ := trodAll_cons r0
  obtain ⟨v2, vs2, d2, ds2, p2, q2, rfl, rfl, rfl, h2, r2⟩ := trodAll_cons r1
  obtain ⟨rfl, rfl, rfl⟩ := trodAll_nil r2
  obtain rfl : args = #[v0, v1, v2] := by cases args; simp_all
  obtain ⟨rfl, rfl⟩ := trodVars_none hV
  obtain ⟨cs0, rfl, _⟩ := okWide_struct Try.underlying41 (hval 0 41 v0 rfl rfl)
  have k0 := h0
  have lt0 : ∀ x ∈ p0, x.block < W.heap.size := by obtain ⟨m, hm⟩ := k0; exact DataW.trod_lt m _ _ _ hm
  obtain ⟨m0, hf0⟩ := h0
  obtain ⟨x0, hK0, w0⟩ := rd41 _ _ _ _ _ _ _ _ _ hf0
  have hK0' : k41.K W x0 cs0.toList := hK0
  obtain ⟨A0_0, c0_0, A0_1, c0_1, hcs0, hc0_0, hr0_0, hc0_1, hr0_1⟩ := k41_open hK0'
  obtain rfl : cs0 = #[.slice A0_0 x0.f0.length c0_0, .slice A0_1 x0.f1.length c0_1] := by cases cs0; simpa using hcs0
  obtain ⟨a1, rfl, rfl, rfl, y1⟩ := open_string Try.underlying9 (hval 1 9 v1 rfl rfl) h1
  obtain ⟨a2, rfl, rfl, rfl, w2⟩ := open_int Try.underlying2 (hval 2 2 v2 rfl rfl) h2
  clear hA0 hval0 hsz0
  obtain ⟨k, h⟩ := Pure.FnExactBookMove x0.f0 x0.f1 a1 a2 w0.1 w0.2 y1 w2
  refine (laws_FnExactBookMove.calls k _ _ x0.f0 _ _ x0.f1 a1 a2 true W hr0_0 hc0_0 hr0_1 hc0_1 h).mono fun e W' ⟨he, hd⟩ => ?_
  have bel : Below W.heap.size W W' := hd
  subst he
  exact ⟨_, rfl, _, _, _, [], _, [], hW', trodAll_mk1 (shut_bool Try.underlying4 _), (trodAll_cons_mk (Below.trod laidOut (by kernel_rfl) (of_decide_eq_true (by kernel_rfl)) k0 bel lt0) (trodAll_cons_mk (shut_string Try.underlying9 y1) (trodAll_cons_mk (shut_int Try.underlying2 w2) trodAll_mk0))), rfl, bel.frame _, fun h => by cases h⟩
theorem over : Rows.fnExactBookMoveRow.holds Try.pinned (OpenSpec.ofChange Rows.fnExactBookMoveSpec) :=
  OpenClaim.holds_of_wide 14 Try.f14 rfl rfl rfl rfl rfl rfl rfl ⟨rfl, rfl, rfl, rfl, rfl⟩ rfl rfl rfl rfl rfl (by kernel_rfl) Try.func14 (by kernel_rfl)
    (of_decide_eq_true (by kernel_rfl)) (by unfold Func.isWrapper; first | (rw [if_pos (by decide +kernel)]; kernel_rfl) | (rw [if_neg (by decide +kernel)]; exact ⟨rfl, rfl⟩))
    (fun os started H enc _ => lifted os started H enc)
theorem proved : Rows.FnExactBookMoveSaid := over
#print axioms proved
end Go.Proofs.Ytefmkmhjbfpelaa.fnExactBookMove
namespace Go.Proofs.Ytefmkmhjbfpelaa
/-- The row, under a short name, for the claim. -/
theorem fnExactBookMove_holds : Rows.FnExactBookMoveSaid := fnExactBookMove.proved
end Go.Proofs.Ytefmkmhjbfpelaa
