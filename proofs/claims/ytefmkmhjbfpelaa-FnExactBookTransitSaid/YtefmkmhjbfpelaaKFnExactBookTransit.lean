/- For every input that can be read as data, laws.FnExactBookTransit returns true, and each argument reads behind the call as it read before. Conditions: none but the row's own. -/
import Derived.Test.YtefmkmhjbfpelaaRows
import Derived.WalkKit
import Derived.ProofKit
import Derived.OpenShut
import Derived.ShutString
import Derived.ChangeOld
import Derived.Below
import Derived.SizedLaws
import Derived.Carry
import Derived.Test.YtefmkmhjbfpelaaKFnExactBookTransit0
import Derived.Test.YtefmkmhjbfpelaaKFnExactBookTransit1
import Derived.Test.YtefmkmhjbfpelaaKFnExactBookTransit2
import Derived.Test.YtefmkmhjbfpelaaKFnExactBookTransit3
import Derived.Test.YtefmkmhjbfpelaaKFnExactBookTransit4
import Derived.Test.YtefmkmhjbfpelaaKFnExactBookTransit5
import Derived.Test.YtefmkmhjbfpelaaKFnExactBookTransit6
import Derived.Test.YtefmkmhjbfpelaaKFnExactBookTransit7
import Derived.Test.YtefmkmhjbfpelaaKFnExactBookTransit8
import Derived.Test.YtefmkmhjbfpelaaKFnExactBookTransit9
import Derived.Test.YtefmkmhjbfpelaaKFnExactBookTransit10
import Derived.Test.YtefmkmhjbfpelaaKFnExactBookTransit11
import Derived.Test.YtefmkmhjbfpelaaKFnExactBookTransit12
namespace Go.Proofs.Ytefmkmhjbfpelaa.fnExactBookTransit
open Go.ChangeShapes Go.WideShapes Go.ChangeAt Go.RowKit Go.Proofs.Ytefmkmhjbfpelaa.QT Go.Proofs.YtefmkmhjbfpelaaW.PrintWords
open Go.ChangeMaps (open_string shut_string)
set_option linter.unusedVariables false
theorem own : ownKnob Try.prog.godebug = none := by kernel_rfl
theorem laidOut : laidOutB Try.prog = true := by kernel_rfl
set_option maxRecDepth 100000 in
theorem lifted (os : Os) (started : os.Started) (H : Type) (enc : TypeId × Value → H) :
    ReturnsInHanded {} Try.checked os 5 .any (Rows.fnExactBookTransitSpec.pre6 enc Try.prog Try.f5 Rows.fnExactBookTransitRow.domain false) (Rows.fnExactBookTransitSpec.post enc Try.prog Try.f5 false true false false) := by
  refine returnsInHanded_of_change_sized (C := Try.checked) own started (by kernel_rfl) Try.func5
    (ChangeSpec.witness6 (enc := enc) (C := Try.checked) false ⟨#[], #[.agg #[.slice none 0 0, .slice none 0 0], .string ByteArray.empty, .string ByteArray.empty], []⟩ 8 (by kernel_rfl) (by kernel_rfl) (by kernel_rfl) (by kernel_rfl)) ?_
  intro W base args ds gs before hval0 hW hcnd hsz0 _
  have hval : ∀ (j : Nat) t v, Try.f5.params[j]? = some t → args[j]? = some v → Value.okWide Try.prog W .any base t v := hval0
  have hW' := hW
  obtain ⟨p, q, hA0, hV, rfl, hfz, hnd⟩ := hW
  have hA : DataW.TrodAll enc Try.prog W 0 (fun _ => true) true Try.f5.params.toList args.toList ds p := hA0
  rw [Try.params5] at hA hval
  obtain ⟨v0, vs0, d0, ds0, p0, q0, hargs, rfl, rfl, h0, r0⟩ := trodAll_cons hA
  obtain ⟨v1, vs1, d1, ds1, p1, q1, rfl, rfl, rfl, h1, r1⟩ := trodAll_cons r0
  obtain ⟨v2, vs2, d2, ds2, p2, q2, rfl, rfl, rfl, h2, r2⟩ := trodAll_cons r1
  obtain ⟨rfl, rfl, rfl⟩ := trodAll_nil r2
  obtain rfl : args = #[v0, v1, v2] := by cases args; simp_all
  obtain ⟨rfl, rfl⟩ := trodVars_none hV
  obtain ⟨cs0, rfl, _⟩ := okWide_struct Try.underlying41 (hval 0 41 v0 rfl rfl)
  have k0 := h0
  have lt0 : ∀ x ∈ p0, x.block < W.heap.size := by obtain ⟨m, hm⟩ := k0; exact DataW.trod_lt m _ _ _ hm
  obtain ⟨m0, hf0⟩ := h0
  obtain ⟨x0, hK0, w0⟩ := rd41 _ _ _ _ _ _ _ _ _ hf0
  have hK0' : k41.K W x0 cs0.toList := hK0
  obtain ⟨A0_0, c0_0, A0_1, c0_1, hcs0, hc0_0, hr0_0, hc0_1, hr0_1⟩ := k41_open hK0'
  obtain rfl : cs0 = #[.slice A0_0 x0.f0.length c0_0, .slice A0_1 x0.f1.length c0_1] := by cases cs0; simpa using hcs0
  obtain ⟨a1, rfl, rfl, rfl, y1⟩ := open_string Try.underlying9 (hval 1 9 v1 rfl rfl) h1
  obtain ⟨a2, rfl, rfl, rfl, y2⟩ := open_string Try.underlying9 (hval 2 9 v2 rfl rfl) h2
  clear hA0 hval0 hsz0
  obtain ⟨k, h⟩ := Pure.FnExactBookTransit x0.f0 x0.f1 a1 a2 w0.1 w0.2 y1 y2
  refine (laws_FnExactBookTransit.calls k _ _ x0.f0 _ _ x0.f1 a1 a2 true W hr0_0 hc0_0 hr0_1 hc0_1 h).mono fun e W' ⟨he, hd⟩ => ?_
  have bel : Below W.heap.size W W' := hd
  subst he
  exact ⟨_, rfl, _, _, _, [], _, [], hW', trodAll_mk1 (shut_bool Try.underlying4 _), (trodAll_cons_mk (Below.trod laidOut (by kernel_rfl) (of_decide_eq_true (by kernel_rfl)) k0 bel lt0) (trodAll_cons_mk (shut_string Try.underlying9 y1) (trodAll_cons_mk (shut_string Try.underlying9 y2) trodAll_mk0))), rfl, bel.frame _, fun h => by cases h⟩
theorem over : Rows.fnExactBookTransitRow.holds Try.pinned (OpenSpec.ofChange Rows.fnExactBookTransitSpec) :=
  OpenClaim.holds_of_wide 5 Try.f5 rfl rfl rfl rfl rfl rfl rfl ⟨rfl, rfl, rfl, rfl, rfl⟩ rfl rfl rfl rfl rfl (by kernel_rfl) Try.func5 (by kernel_rfl)
    (of_decide_eq_true (by kernel_rfl)) (by unfold Func.isWrapper; first | (rw [if_pos (by decide +kernel)]; kernel_rfl) | (rw [if_neg (by decide +kernel)]; exact ⟨rfl, rfl⟩))
    (fun os started H enc _ => lifted os started H enc)
theorem proved : Rows.FnExactBookTransitSaid := over
#print axioms proved
end Go.Proofs.Ytefmkmhjbfpelaa.fnExactBookTransit
namespace Go.Proofs.Ytefmkmhjbfpelaa
/-- The row, under a short name, for the claim. -/
theorem fnExactBookTransit_holds : Rows.FnExactBookTransitSaid := fnExactBookTransit.proved
end Go.Proofs.Ytefmkmhjbfpelaa
