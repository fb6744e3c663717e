/- For every input that can be read as data, laws.FnExactBookItems returns true, and each argument reads behind the call as it read before. Conditions: none but the row's own. -/
import Derived.Test.YtjjfjgdhloideaaRows
import Derived.WalkKit
import Derived.ProofKit
import Derived.OpenShut
import Derived.ShutString
import Derived.ChangeOld
import Derived.Below
import Derived.SizedLaws
import Derived.Carry
import Derived.Test.YtjjfjgdhloideaaKFnExactBookItems0
import Derived.Test.YtjjfjgdhloideaaKFnExactBookItems1
import Derived.Test.YtjjfjgdhloideaaKFnExactBookItems2
import Derived.Test.YtjjfjgdhloideaaKFnExactBookItems3
import Derived.Test.YtjjfjgdhloideaaKFnExactBookItems4
import Derived.Test.YtjjfjgdhloideaaKFnExactBookItems5
import Derived.Test.YtjjfjgdhloideaaKFnExactBookItems6
import Derived.Test.YtjjfjgdhloideaaKFnExactBookItems7
import Derived.Test.YtjjfjgdhloideaaKFnExactBookItems8
import Derived.Test.YtjjfjgdhloideaaKFnExactBookItems9
import Derived.Test.YtjjfjgdhloideaaKFnExactBookItems10
import Derived.Test.YtjjfjgdhloideaaKFnExactBookItems11
import Derived.Test.YtjjfjgdhloideaaKFnExactBookItems12
import Derived.Test.YtjjfjgdhloideaaKFnExactBookItems13
import Derived.Test.YtjjfjgdhloideaaKFnExactBookItems14
import Derived.Test.YtjjfjgdhloideaaKFnExactBookItems15
import Derived.Test.YtjjfjgdhloideaaKFnExactBookItems16
import Derived.Test.YtjjfjgdhloideaaKFnExactBookItems17
namespace Go.Proofs.Ytjjfjgdhloideaa.fnExactBookItems
open Go.ChangeShapes Go.WideShapes Go.ChangeAt Go.RowKit Go.Proofs.Ytjjfjgdhloideaa.QH Go.Proofs.YtjjfjgdhloideaaW.PrintWords
open Go.ChangeMaps (open_string shut_string)
set_option linter.unusedVariables false
theorem own : ownKnob Try.prog.godebug = none := by kernel_rfl
theorem laidOut : laidOutB Try.prog = true := by kernel_rfl
set_option maxRecDepth 100000 in
theorem lifted (os : Os) (started : os.Started) (H : Type) (enc : TypeId × Value → H) :
    ReturnsInHanded {} Try.checked os 4 .any (Rows.fnExactBookItemsSpec.pre6 enc Try.prog Try.f4 Rows.fnExactBookItemsRow.domain false) (Rows.fnExactBookItemsSpec.post enc Try.prog Try.f4 false true false false) := by
  refine returnsInHanded_of_change_sized (C := Try.checked) own started (by kernel_rfl) Try.func4
    (ChangeSpec.witness6 (enc := enc) (C := Try.checked) false ⟨#[], #[.agg #[.slice none 0 0, .slice none 0 0]], []⟩ 8 (by kernel_rfl) (by kernel_rfl) (by kernel_rfl) (by kernel_rfl)) ?_
  intro W base args ds gs before hval0 hW hcnd hsz0 _
  have hval : ∀ (j : Nat) t v, Try.f4.params[j]? = some t → args[j]? = some v → Value.okWide Try.prog W .any base t v := hval0
  have hW' := hW
  obtain ⟨p, q, hA0, hV, rfl, hfz, hnd⟩ := hW
  have hA : DataW.TrodAll enc Try.prog W 0 (fun _ => true) true Try.f4.params.toList args.toList ds p := hA0
  rw [Try.params4] at hA hval
  obtain ⟨v0, vs0, d0, ds0, p0, q0, hargs, rfl, rfl, h0, r0⟩ := trodAll_cons hA
  obtain ⟨rfl, rfl, rfl⟩ := trodAll_nil r0
  obtain rfl : args = #[v0] := by cases args; simp_all
  obtain ⟨rfl, rfl⟩ := trodVars_none hV
  obtain ⟨cs0, rfl, _⟩ := okWide_struct Try.underlying39 (hval 0 39 v0 rfl rfl)
  have k0 := h0
  have lt0 : ∀ x ∈ p0, x.block < W.heap.size := by obtain ⟨m, hm⟩ := k0; exact DataW.trod_lt m _ _ _ hm
  obtain ⟨m0, hf0⟩ := h0
  obtain ⟨x0, hK0, w0⟩ := rd39 _ _ _ _ _ _ _ _ _ hf0
  have hK0' : k39.K W x0 cs0.toList := hK0
  obtain ⟨A0_0, c0_0, A0_1, c0_1, hcs0, hc0_0, hr0_0, hc0_1, hr0_1⟩ := k39_open hK0'
  obtain rfl : cs0 = #[.slice A0_0 x0.f0.length c0_0, .slice A0_1 x0.f1.length c0_1] := by cases cs0; simpa using hcs0
  clear hA0 hval0 hsz0
  obtain ⟨k, h⟩ := Pure.FnExactBookItems x0.f0 x0.f1 w0.1 w0.2
  refine (laws_FnExactBookItems.calls k _ _ x0.f0 _ _ x0.f1 true W hr0_0 hc0_0 hr0_1 hc0_1 h).mono fun e W' ⟨he, hd⟩ => ?_
  have bel : Below W.heap.size W W' := hd
  subst he
  exact ⟨_, rfl, _, _, _, [], _, [], hW', trodAll_mk1 (shut_bool Try.underlying4 _), (trodAll_cons_mk (Below.trod laidOut (by kernel_rfl) (of_decide_eq_true (by kernel_rfl)) k0 bel lt0) trodAll_mk0), rfl, bel.frame _, fun h => by cases h⟩
theorem over : Rows.fnExactBookItemsRow.holds Try.pinned (OpenSpec.ofChange Rows.fnExactBookItemsSpec) :=
  OpenClaim.holds_of_wide 4 Try.f4 rfl rfl rfl rfl rfl rfl rfl ⟨rfl, rfl, rfl, rfl, rfl⟩ rfl rfl rfl rfl rfl (by kernel_rfl) Try.func4 (by kernel_rfl)
    (of_decide_eq_true (by kernel_rfl)) (by unfold Func.isWrapper; first | (rw [if_pos (by decide +kernel)]; kernel_rfl) | (rw [if_neg (by decide +kernel)]; exact ⟨rfl, rfl⟩))
    (fun os started H enc _ => lifted os started H enc)
theorem proved : Rows.FnExactBookItemsSaid := over
#print axioms proved
end Go.Proofs.Ytjjfjgdhloideaa.fnExactBookItems
namespace Go.Proofs.Ytjjfjgdhloideaa
/-- The row, under a short name, for the claim. -/
theorem fnExactBookItems_holds : Rows.FnExactBookItemsSaid := fnExactBookItems.proved
end Go.Proofs.Ytjjfjgdhloideaa
