/- For every input that can be read as data, laws.FnExactOutboxTick returns true, and each argument reads behind the call as it read before. Conditions: none but the row's own. -/
import Derived.Test.YtefmkmhjbfpelaaRows
import Derived.WalkKit
import Derived.ProofKit
import Derived.OpenShut
import Derived.ShutString
import Derived.ChangeOld
import Derived.Below
import Derived.SizedLaws
import Derived.Carry
import Derived.Test.YtefmkmhjbfpelaaKFnExactOutboxTick0
import Derived.Test.YtefmkmhjbfpelaaKFnExactOutboxTick1
import Derived.Test.YtefmkmhjbfpelaaKFnExactOutboxTick2
import Derived.Test.YtefmkmhjbfpelaaKFnExactOutboxTick3
import Derived.Test.YtefmkmhjbfpelaaKFnExactOutboxTick4
import Derived.Test.YtefmkmhjbfpelaaKFnExactOutboxTick5
import Derived.Test.YtefmkmhjbfpelaaKFnExactOutboxTick6
import Derived.Test.YtefmkmhjbfpelaaKFnExactOutboxTick7
import Derived.Test.YtefmkmhjbfpelaaKFnExactOutboxTick8
import Derived.Test.YtefmkmhjbfpelaaKFnExactOutboxTick9
import Derived.Test.YtefmkmhjbfpelaaKFnExactOutboxTick10
import Derived.Test.YtefmkmhjbfpelaaKFnExactOutboxTick11
import Derived.Test.YtefmkmhjbfpelaaKFnExactOutboxTick12
import Derived.Test.YtefmkmhjbfpelaaKFnExactOutboxTick13
import Derived.Test.YtefmkmhjbfpelaaKFnExactOutboxTick14
import Derived.Test.YtefmkmhjbfpelaaKFnExactOutboxTick15
import Derived.Test.YtefmkmhjbfpelaaKFnExactOutboxTick16
import Derived.Test.YtefmkmhjbfpelaaKFnExactOutboxTick17
import Derived.Test.YtefmkmhjbfpelaaKFnExactOutboxTick18
import Derived.Test.YtefmkmhjbfpelaaKFnExactOutboxTick19
import Derived.Test.YtefmkmhjbfpelaaKFnExactOutboxTick20
import Derived.Test.YtefmkmhjbfpelaaKFnExactOutboxTick21
import Derived.Test.YtefmkmhjbfpelaaKFnExactOutboxTick22
namespace Go.Proofs.Ytefmkmhjbfpelaa.fnExactOutboxTick
open Go.ChangeShapes Go.WideShapes Go.ChangeAt Go.RowKit Go.Proofs.Ytefmkmhjbfpelaa.QK Go.Proofs.YtefmkmhjbfpelaaW.PrintWords
open Go.ChangeMaps (open_string shut_string)
set_option linter.unusedVariables false
theorem own : ownKnob Try.prog.godebug = none := by kernel_rfl
theorem laidOut : laidOutB Try.prog = true := by kernel_rfl
set_option maxRecDepth 100000 in
theorem lifted (os : Os) (started : os.Started) (H : Type) (enc : TypeId × Value → H) :
    ReturnsInHanded {} Try.checked os 8 .any (Rows.fnExactOutboxTickSpec.pre6 enc Try.prog Try.f8 Rows.fnExactOutboxTickRow.domain false) (Rows.fnExactOutboxTickSpec.post enc Try.prog Try.f8 false true false false) := by
  refine returnsInHanded_of_change_sized (C := Try.checked) own started (by kernel_rfl) Try.func8
    (ChangeSpec.witness6 (enc := enc) (C := Try.checked) false ⟨#[], #[.slice none 0 0, .int .i64 0], []⟩ 8 (by kernel_rfl) (by kernel_rfl) (by kernel_rfl) (by kernel_rfl)) ?_
  intro W base args ds gs before hval0 hW hcnd hsz0 _
  have hval : ∀ (j : Nat) t v, Try.f8.params[j]? = some t → args[j]? = some v → Value.okWide Try.prog W .any base t v := hval0
  have hW' := hW
  obtain ⟨p, q, hA0, hV, rfl, hfz, hnd⟩ := hW
  have hA : DataW.TrodAll enc Try.prog W 0 (fun _ => true) true Try.f8.params.toList args.toList ds p := hA0
  rw [Try.params8] at hA hval
  obtain ⟨v0, vs0, d0, ds0, p0, q0, hargs, rfl, rfl, h0, r0⟩ := trodAll_cons hA
  obtain ⟨v1, vs1, d1, ds1, p1, q1, rfl, rfl, rfl, h1, r1⟩ := trodAll_cons r0
  obtain ⟨rfl, rfl, rfl⟩ := trodAll_nil r1
  obtain rfl : args = #[v0, v1] := by cases args; simp_all
  obtain ⟨rfl, rfl⟩ := trodVars_none hV
  obtain ⟨A0, n0, c0, rfl⟩ := okWide_slice Try.underlying61 (hval 0 61 v0 rfl rfl)
  have k0 := h0
  have lt0 : ∀ x ∈ p0, x.block < W.heap.size := by obtain ⟨m, hm⟩ := k0; exact DataW.trod_lt m _ _ _ hm
  obtain ⟨m0, hf0⟩ := h0
  obtain ⟨l0, ⟨A0', c0', hcs0, hc0, hr0⟩, w0⟩ := ((Rd.rd_slice Try.underlying61 (by kernel_rfl) rd82) : Rd.Rd Try.prog 61 (Kd.slice 82 k82) (Rd.WfRow wf82)) _ _ _ _ _ _ _ _ _ hf0
  simp only [Value.cells, List.cons.injEq, Value.slice.injEq, and_true] at hcs0
  obtain ⟨rfl, rfl, rfl⟩ := hcs0
  obtain ⟨a1, rfl, rfl, rfl, w1⟩ := open_int Try.underlying2 (hval 1 2 v1 rfl rfl) h1
  clear hA0 hval0 hsz0
  obtain ⟨k, h⟩ := Pure.FnExactOutboxTick l0 a1 w0 w1
  refine (laws_FnExactOutboxTick.calls k _ _ l0 a1 true W hr0 hc0 h).mono fun e W' ⟨he, hd⟩ => ?_
  have bel : Below W.heap.size W W' := hd
  subst he
  exact ⟨_, rfl, _, _, _, [], _, [], hW', trodAll_mk1 (shut_bool Try.underlying4 _), (trodAll_cons_mk (Below.trod laidOut (by kernel_rfl) (of_decide_eq_true (by kernel_rfl)) k0 bel lt0) (trodAll_cons_mk (shut_int Try.underlying2 w1) trodAll_mk0)), rfl, bel.frame _, fun h => by cases h⟩
theorem over : Rows.fnExactOutboxTickRow.holds Try.pinned (OpenSpec.ofChange Rows.fnExactOutboxTickSpec) :=
  OpenClaim.holds_of_wide 8 Try.f8 rfl rfl rfl rfl rfl rfl rfl ⟨rfl, rfl, rfl, rfl, rfl⟩ rfl rfl rfl rfl rfl (by kernel_rfl) Try.func8 (by kernel_rfl)
    (of_decide_eq_true (by kernel_rfl)) (by unfold Func.isWrapper; first | (rw [if_pos (by decide +kernel)]; kernel_rfl) | (rw [if_neg (by decide +kernel)]; exact ⟨rfl, rfl⟩))
    (fun os started H enc _ => lifted os started H enc)
theorem proved : Rows.FnExactOutboxTickSaid := over
#print axioms proved
end Go.Proofs.Ytefmkmhjbfpelaa.fnExactOutboxTick
namespace Go.Proofs.Ytefmkmhjbfpelaa
/-- The row, under a short name, for the claim. -/
theorem fnExactOutboxTick_holds : Rows.FnExactOutboxTickSaid := fnExactOutboxTick.proved
end Go.Proofs.Ytefmkmhjbfpelaa
