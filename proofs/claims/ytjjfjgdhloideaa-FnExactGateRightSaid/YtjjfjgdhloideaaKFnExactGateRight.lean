/- For every input that can be read as data, laws.FnExactGateRight returns true, and each argument reads behind the call as it read before. Conditions: none but the row's own. -/
import Derived.Test.YtjjfjgdhloideaaRows
import Derived.WalkKit
import Derived.ProofKit
import Derived.OpenShut
import Derived.ShutString
import Derived.ChangeOld
import Derived.Below
import Derived.SizedLaws
import Derived.Carry
import Derived.Test.YtjjfjgdhloideaaKFnExactGateRight0
import Derived.Test.YtjjfjgdhloideaaKFnExactGateRight1
import Derived.Test.YtjjfjgdhloideaaKFnExactGateRight2
import Derived.Test.YtjjfjgdhloideaaKFnExactGateRight3
import Derived.Test.YtjjfjgdhloideaaKFnExactGateRight4
import Derived.Test.YtjjfjgdhloideaaKFnExactGateRight5
import Derived.Test.YtjjfjgdhloideaaKFnExactGateRight6
import Derived.Test.YtjjfjgdhloideaaKFnExactGateRight7
import Derived.Test.YtjjfjgdhloideaaKFnExactGateRight8
import Derived.Test.YtjjfjgdhloideaaKFnExactGateRight9
import Derived.Test.YtjjfjgdhloideaaKFnExactGateRight10
import Derived.Test.YtjjfjgdhloideaaKFnExactGateRight11
import Derived.Test.YtjjfjgdhloideaaKFnExactGateRight12
import Derived.Test.YtjjfjgdhloideaaKFnExactGateRight13
import Derived.Test.YtjjfjgdhloideaaKFnExactGateRight14
import Derived.Test.YtjjfjgdhloideaaKFnExactGateRight15
import Derived.Test.YtjjfjgdhloideaaKFnExactGateRight16
import Derived.Test.YtjjfjgdhloideaaKFnExactGateRight17
import Derived.Test.YtjjfjgdhloideaaKFnExactGateRight18
import Derived.Test.YtjjfjgdhloideaaKFnExactGateRight19
import Derived.Test.YtjjfjgdhloideaaKFnExactGateRight20
import Derived.Test.YtjjfjgdhloideaaKFnExactGateRight21
import Derived.Test.YtjjfjgdhloideaaKFnExactGateRight22
import Derived.Test.YtjjfjgdhloideaaKFnExactGateRight23
import Derived.Test.YtjjfjgdhloideaaKFnExactGateRight24
namespace Go.Proofs.Ytjjfjgdhloideaa.fnExactGateRight
open Go.ChangeShapes Go.WideShapes Go.ChangeAt Go.RowKit Go.Proofs.Ytjjfjgdhloideaa.QI Go.Proofs.YtjjfjgdhloideaaW.PrintWords
open Go.ChangeMaps (open_string shut_string)
set_option linter.unusedVariables false
theorem own : ownKnob Try.prog.godebug = none := by kernel_rfl
theorem laidOut : laidOutB Try.prog = true := by kernel_rfl
set_option maxRecDepth 100000 in
theorem lifted (os : Os) (started : os.Started) (H : Type) (enc : TypeId × Value → H) :
    ReturnsInHanded {} Try.checked os 5 .any (Rows.fnExactGateRightSpec.pre6 enc Try.prog Try.f5 Rows.fnExactGateRightRow.domain false) (Rows.fnExactGateRightSpec.post enc Try.prog Try.f5 false true false false) := by
  refine returnsInHanded_of_change_sized (C := Try.checked) own started (by kernel_rfl) Try.func5
    (ChangeSpec.witness6 (enc := enc) (C := Try.checked) false ⟨#[], #[.agg #[.string ByteArray.empty, .int .i64 0, .slice none 0 0, .slice none 0 0, .slice none 0 0, .slice none 0 0, .slice none 0 0, .slice none 0 0]], []⟩ 8 (by kernel_rfl) (by kernel_rfl) (by kernel_rfl) (by kernel_rfl)) ?_
  intro W base args ds gs before hval0 hW hcnd hsz0 _
  have hval : ∀ (j : Nat) t v, Try.f5.params[j]? = some t → args[j]? = some v → Value.okWide Try.prog W .any base t v := hval0
  have hW' := hW
  obtain ⟨p, q, hA0, hV, rfl, hfz, hnd⟩ := hW
  have hA : DataW.TrodAll enc Try.prog W 0 (fun _ => true) true Try.f5.params.toList args.toList ds p := hA0
  rw [Try.params5] at hA hval
  obtain ⟨v0, vs0, d0, ds0, p0, q0, hargs, rfl, rfl, h0, r0⟩ := trodAll_cons hA
  obtain ⟨rfl, rfl, rfl⟩ := trodAll_nil r0
  obtain rfl : args = #[v0] := by cases args; simp_all
  obtain ⟨rfl, rfl⟩ := trodVars_none hV
  obtain ⟨cs0, rfl, _⟩ := okWide_struct Try.underlying54 (hval 0 54 v0 rfl rfl)
  have k0 := h0
  have lt0 : ∀ x ∈ p0, x.block < W.heap.size := by obtain ⟨m, hm⟩ := k0; exact DataW.trod_lt m _ _ _ hm
  obtain ⟨m0, hf0⟩ := h0
  obtain ⟨x0, hK0, w0⟩ := rd54 _ _ _ _ _ _ _ _ _ hf0
  have hK0' : k54.K W x0 cs0.toList := hK0
  obtain ⟨A0_2, c0_2, A0_3, c0_3, A0_4, c0_4, A0_5, c0_5, A0_6, c0_6, A0_7, c0_7, hcs0, hc0_2, hr0_2, hc0_3, hr0_3, hc0_4, hr0_4, hc0_5, hr0_5, hc0_6, hr0_6, hc0_7, hr0_7⟩ := k54_open hK0'
  obtain rfl : cs0 = #[.string x0.f0, .int .i64 x0.f1, .slice A0_2 x0.f2.length c0_2, .slice A0_3 x0.f3.length c0_3, .slice A0_4 x0.f4.f0.length c0_4, .slice A0_5 x0.f4.f1.length c0_5, .slice A0_6 x0.f5.length c0_6, .slice A0_7 x0.f6.length c0_7] := by cases cs0; simpa using hcs0
  clear hA0 hval0 hsz0
  obtain ⟨k, h⟩ := Pure.FnExactGateRight x0.f0 x0.f1 x0.f2 x0.f3 x0.f4.f0 x0.f4.f1 x0.f5 x0.f6 w0.1 w0.2.1 w0.2.2.1 w0.2.2.2.1 w0.2.2.2.2.1.1 w0.2.2.2.2.1.2 w0.2.2.2.2.2.1 w0.2.2.2.2.2.2
  refine (laws_FnExactGateRight.calls k x0.f0 x0.f1 _ _ x0.f2 _ _ x0.f3 _ _ x0.f4.f0 _ _ x0.f4.f1 _ _ x0.f5 _ _ x0.f6 true W hr0_2 hc0_2 hr0_3 hc0_3 hr0_4 hc0_4 hr0_5 hc0_5 hr0_6 hc0_6 hr0_7 hc0_7 h).mono fun e W' ⟨he, hd⟩ => ?_
  have bel : Below W.heap.size W W' := hd
  subst he
  exact ⟨_, rfl, _, _, _, [], _, [], hW', trodAll_mk1 (shut_bool Try.underlying4 _), (trodAll_cons_mk (Below.trod laidOut (by kernel_rfl) (of_decide_eq_true (by kernel_rfl)) k0 bel lt0) trodAll_mk0), rfl, bel.frame _, fun h => by cases h⟩
theorem over : Rows.fnExactGateRightRow.holds Try.pinned (OpenSpec.ofChange Rows.fnExactGateRightSpec) :=
  OpenClaim.holds_of_wide 5 Try.f5 rfl rfl rfl rfl rfl rfl rfl ⟨rfl, rfl, rfl, rfl, rfl⟩ rfl rfl rfl rfl rfl (by kernel_rfl) Try.func5 (by kernel_rfl)
    (of_decide_eq_true (by kernel_rfl)) (by unfold Func.isWrapper; first | (rw [if_pos (by decide +kernel)]; kernel_rfl) | (rw [if_neg (by decide +kernel)]; exact ⟨rfl, rfl⟩))
    (fun os started H enc _ => lifted os started H enc)
theorem proved : Rows.FnExactGateRightSaid := over
#print axioms proved
end Go.Proofs.Ytjjfjgdhloideaa.fnExactGateRight
namespace Go.Proofs.Ytjjfjgdhloideaa
/-- The row, under a short name, for the claim. -/
theorem fnExactGateRight_holds : Rows.FnExactGateRightSaid := fnExactGateRight.proved
end Go.Proofs.Ytjjfjgdhloideaa
