/- For every input that can be read as data, laws.FnLineSums returns true, and each argument reads behind the call as it read before. Conditions: none but the row's own. -/
import Derived.Test.YtpfdfbomlffhcaaRows
import Derived.WalkKit
import Derived.ProofKit
import Derived.OpenShut
import Derived.ShutString
import Derived.ChangeOld
import Derived.Below
import Derived.SizedLaws
import Derived.Carry
import Derived.Test.YtpfdfbomlffhcaaKFnLineSums0
import Derived.Test.YtpfdfbomlffhcaaKFnLineSums1
import Derived.Test.YtpfdfbomlffhcaaKFnLineSums2
import Derived.Test.YtpfdfbomlffhcaaKFnLineSums3
import Derived.Test.YtpfdfbomlffhcaaKFnLineSums4
import Derived.Test.YtpfdfbomlffhcaaKFnLineSums5
import Derived.Test.YtpfdfbomlffhcaaKFnLineSums6
import Derived.Test.YtpfdfbomlffhcaaKFnLineSums7
import Derived.Test.YtpfdfbomlffhcaaKFnLineSums8
import Derived.Test.YtpfdfbomlffhcaaKFnLineSums9
import Derived.Test.YtpfdfbomlffhcaaKFnLineSums10
namespace Go.Proofs.Ytpfdfbomlffhcaa.fnLineSums
open Go.ChangeShapes Go.WideShapes Go.ChangeAt Go.RowKit Go.Proofs.Ytpfdfbomlffhcaa.QZ Go.Proofs.YtpfdfbomlffhcaaW.PrintWords
open Go.ChangeMaps (open_string shut_string)
set_option linter.unusedVariables false
theorem own : ownKnob Try.prog.godebug = none := by kernel_rfl
theorem laidOut : laidOutB Try.prog = true := by kernel_rfl
set_option maxRecDepth 100000 in
theorem lifted (os : Os) (started : os.Started) (H : Type) (enc : TypeId × Value → H) :
    ReturnsInHanded {} Try.checked os 6 .any (Rows.fnLineSumsSpec.pre6 enc Try.prog Try.f6 Rows.fnLineSumsRow.domain false) (Rows.fnLineSumsSpec.post enc Try.prog Try.f6 false true false false) := by
  refine returnsInHanded_of_change_sized (C := Try.checked) own started (by kernel_rfl) Try.func6
    (ChangeSpec.witness6 (enc := enc) (C := Try.checked) false ⟨#[], #[.slice none 0 0], []⟩ 8 (by kernel_rfl) (by kernel_rfl) (by kernel_rfl) (by kernel_rfl)) ?_
  intro W base args ds gs before hval0 hW hcnd hsz0 _
  have hval : ∀ (j : Nat) t v, Try.f6.params[j]? = some t → args[j]? = some v → Value.okWide Try.prog W .any base t v := hval0
  have hW' := hW
  obtain ⟨p, q, hA0, hV, rfl, hfz, hnd⟩ := hW
  have hA : DataW.TrodAll enc Try.prog W 0 (fun _ => true) true Try.f6.params.toList args.toList ds p := hA0
  rw [Try.params6] at hA hval
  obtain ⟨v0, vs0, d0, ds0, p0, q0, hargs, rfl, rfl, h0, r0⟩ := trodAll_cons hA
  obtain ⟨rfl, rfl, rfl⟩ := trodAll_nil r0
  obtain rfl : args = #[v0] := by cases args; simp_all
  obtain ⟨rfl, rfl⟩ := trodVars_none hV
  obtain ⟨A0, n0, c0, rfl⟩ := okWide_slice Try.underlying41 (hval 0 41 v0 rfl rfl)
  have k0 := h0
  have lt0 : ∀ x ∈ p0, x.block < W.heap.size := by obtain ⟨m, hm⟩ := k0; exact DataW.trod_lt m _ _ _ hm
  obtain ⟨m0, hf0⟩ := h0
  obtain ⟨l0, ⟨A0', c0', hcs0, hc0, hr0⟩, w0⟩ := ((Rd.rd_slice Try.underlying41 (by kernel_rfl) (Rd.rd_int (Try.underlying5))) : Rd.Rd Try.prog 41 (Kd.slice 5 (Kd.int .u8)) (Rd.WfRow (Rd.WfInt .u8))) _ _ _ _ _ _ _ _ _ hf0
  simp only [Value.cells, List.cons.injEq, Value.slice.injEq, and_true] at hcs0
  obtain ⟨rfl, rfl, rfl⟩ := hcs0
  clear hA0 hval0 hsz0
  obtain ⟨k, h⟩ := Pure.FnLineSums l0 w0
  refine (laws_FnLineSums.calls k _ _ l0 true W hr0 hc0 h).mono fun e W' ⟨he, hd⟩ => ?_
  have bel : Below W.heap.size W W' := hd
  subst he
  exact ⟨_, rfl, _, _, _, [], _, [], hW', trodAll_mk1 (shut_bool Try.underlying4 _), (trodAll_cons_mk (Below.trod laidOut (by kernel_rfl) (of_decide_eq_true (by kernel_rfl)) k0 bel lt0) trodAll_mk0), rfl, bel.frame _, fun h => by cases h⟩
theorem over : Rows.fnLineSumsRow.holds Try.pinned (OpenSpec.ofChange Rows.fnLineSumsSpec) :=
  OpenClaim.holds_of_wide 6 Try.f6 rfl rfl rfl rfl rfl rfl rfl ⟨rfl, rfl, rfl, rfl, rfl⟩ rfl rfl rfl rfl rfl (by kernel_rfl) Try.func6 (by kernel_rfl)
    (of_decide_eq_true (by kernel_rfl)) (by unfold Func.isWrapper; first | (rw [if_pos (by decide +kernel)]; kernel_rfl) | (rw [if_neg (by decide +kernel)]; exact ⟨rfl, rfl⟩))
    (fun os started H enc _ => lifted os started H enc)
theorem proved : Rows.FnLineSumsSaid := over
#print axioms proved
end Go.Proofs.Ytpfdfbomlffhcaa.fnLineSums
namespace Go.Proofs.Ytpfdfbomlffhcaa
/-- The row, under a short name, for the claim. -/
theorem fnLineSums_holds : Rows.FnLineSumsSaid := fnLineSums.proved
end Go.Proofs.Ytpfdfbomlffhcaa
