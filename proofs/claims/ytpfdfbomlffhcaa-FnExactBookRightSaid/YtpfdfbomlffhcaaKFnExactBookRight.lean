/- For every input that can be read as data, laws.FnExactBookRight returns true, and each argument reads behind the call as it read before. Conditions: none but the row's own. -/
import Derived.Test.YtpfdfbomlffhcaaRows
import Derived.WalkKit
import Derived.ProofKit
import Derived.OpenShut
import Derived.ShutString
import Derived.ChangeOld
import Derived.Below
import Derived.SizedLaws
import Derived.Carry
import Derived.Test.YtpfdfbomlffhcaaKFnExactBookRight0
import Derived.Test.YtpfdfbomlffhcaaKFnExactBookRight1
import Derived.Test.YtpfdfbomlffhcaaKFnExactBookRight2
import Derived.Test.YtpfdfbomlffhcaaKFnExactBookRight3
import Derived.Test.YtpfdfbomlffhcaaKFnExactBookRight4
import Derived.Test.YtpfdfbomlffhcaaKFnExactBookRight5
import Derived.Test.YtpfdfbomlffhcaaKFnExactBookRight6
import Derived.Test.YtpfdfbomlffhcaaKFnExactBookRight7
import Derived.Test.YtpfdfbomlffhcaaKFnExactBookRight8
import Derived.Test.YtpfdfbomlffhcaaKFnExactBookRight9
import Derived.Test.YtpfdfbomlffhcaaKFnExactBookRight10
import Derived.Test.YtpfdfbomlffhcaaKFnExactBookRight11
import Derived.Test.YtpfdfbomlffhcaaKFnExactBookRight12
import Derived.Test.YtpfdfbomlffhcaaKFnExactBookRight13
import Derived.Test.YtpfdfbomlffhcaaKFnExactBookRight14
import Derived.Test.YtpfdfbomlffhcaaKFnExactBookRight15
import Derived.Test.YtpfdfbomlffhcaaKFnExactBookRight16
import Derived.Test.YtpfdfbomlffhcaaKFnExactBookRight17
import Derived.Test.YtpfdfbomlffhcaaKFnExactBookRight18
import Derived.Test.YtpfdfbomlffhcaaKFnExactBookRight19
namespace Go.Proofs.Ytpfdfbomlffhcaa.fnExactBookRight
open Go.ChangeShapes Go.WideShapes Go.ChangeAt Go.RowKit Go.Proofs.Ytpfdfbomlffhcaa.QA Go.Proofs.YtpfdfbomlffhcaaW.PrintWords
open Go.ChangeMaps (open_string shut_string)
set_option linter.unusedVariables false
theorem own : ownKnob Try.prog.godebug = none := by kernel_rfl
theorem laidOut : laidOutB Try.prog = true := by kernel_rfl
set_option maxRecDepth 100000 in
theorem lifted (os : Os) (started : os.Started) (H : Type) (enc : TypeId × Value → H) :
    ReturnsInHanded {} Try.checked os 11 .any (Rows.fnExactBookRightSpec.pre6 enc Try.prog Try.f11 Rows.fnExactBookRightRow.domain false) (Rows.fnExactBookRightSpec.post enc Try.prog Try.f11 false true false false) := by
  refine returnsInHanded_of_change_sized (C := Try.checked) own started (by kernel_rfl) Try.func11
    (ChangeSpec.witness6 (enc := enc) (C := Try.checked) false ⟨#[], #[.agg #[.slice none 0 0, .slice none 0 0]], []⟩ 8 (by kernel_rfl) (by kernel_rfl) (by kernel_rfl) (by kernel_rfl)) ?_
  intro W base args ds gs before hval0 hW hcnd hsz0 _
  have hval : ∀ (j : Nat) t v, Try.f11.params[j]? = some t → args[j]? = some v → Value.okWide Try.prog W .any base t v := hval0
  have hW' := hW
  obtain ⟨p, q, hA0, hV, rfl, hfz, hnd⟩ := hW
  have hA : DataW.TrodAll enc Try.prog W 0 (fun _ => true) true Try.f11.params.toList args.toList ds p := hA0
  rw [Try.params11] at hA hval
  obtain ⟨v0, vs0, d0, ds0, p0, q0, hargs, rfl, rfl, h0, r0⟩ := trodAll_cons hA
  obtain ⟨rfl, rfl, rfl⟩ := trodAll_nil r0
  obtain rfl : args = #[v0] := by cases args; simp_all
  obtain ⟨rfl, rfl⟩ := trodVars_none hV
  obtain ⟨cs0, rfl, _⟩ := okWide_struct Try.underlying76 (hval 0 76 v0 rfl rfl)
  have k0 := h0
  have lt0 : ∀ x ∈ p0, x.block < W.heap.size := by obtain ⟨m, hm⟩ := k0; exact DataW.trod_lt m _ _ _ hm
  obtain ⟨m0, hf0⟩ := h0
  obtain ⟨x0, hK0, w0⟩ := rd76 _ _ _ _ _ _ _ _ _ hf0
  have hK0' : k76.K W x0 cs0.toList := hK0
  obtain ⟨A0_0, c0_0, A0_1, c0_1, hcs0, hc0_0, hr0_0, hc0_1, hr0_1⟩ := k76_open hK0'
  obtain rfl : cs0 = #[.slice A0_0 x0.f0.length c0_0, .slice A0_1 x0.f1.length c0_1] := by cases cs0; simpa using hcs0
  clear hA0 hval0 hsz0
  obtain ⟨k, h⟩ := Pure.FnExactBookRight x0.f0 x0.f1 w0.1 w0.2
  refine (laws_FnExactBookRight.calls k _ _ x0.f0 _ _ x0.f1 true W hr0_0 hc0_0 hr0_1 hc0_1 h).mono fun e W' ⟨he, hd⟩ => ?_
  have bel : Below W.heap.size W W' := hd
  subst he
  exact ⟨_, rfl, _, _, _, [], _, [], hW', trodAll_mk1 (shut_bool Try.underlying4 _), (trodAll_cons_mk (Below.trod laidOut (by kernel_rfl) (of_decide_eq_true (by kernel_rfl)) k0 bel lt0) trodAll_mk0), rfl, bel.frame _, fun h => by cases h⟩
theorem over : Rows.fnExactBookRightRow.holds Try.pinned (OpenSpec.ofChange Rows.fnExactBookRightSpec) :=
  OpenClaim.holds_of_wide 11 Try.f11 rfl rfl rfl rfl rfl rfl rfl ⟨rfl, rfl, rfl, rfl, rfl⟩ rfl rfl rfl rfl rfl (by kernel_rfl) Try.func11 (by kernel_rfl)
    (of_decide_eq_true (by kernel_rfl)) (by unfold Func.isWrapper; first | (rw [if_pos (by decide +kernel)]; kernel_rfl) | (rw [if_neg (by decide +kernel)]; exact ⟨rfl, rfl⟩))
    (fun os started H enc _ => lifted os started H enc)
theorem proved : Rows.FnExactBookRightSaid := over
#print axioms proved
end Go.Proofs.Ytpfdfbomlffhcaa.fnExactBookRight
namespace Go.Proofs.Ytpfdfbomlffhcaa
/-- The row, under a short name, for the claim. -/
theorem fnExactBookRight_holds : Rows.FnExactBookRightSaid := fnExactBookRight.proved
end Go.Proofs.Ytpfdfbomlffhcaa
