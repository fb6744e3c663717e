/- For every input that can be read as data, laws.FnExactOutboxRun returns true, and each argument reads behind the call as it read before. Conditions: none but the row's own. -/
import Derived.Test.YtpfdfbomlffhcaaRows
import Derived.WalkKit
import Derived.ProofKit
import Derived.OpenShut
import Derived.ShutString
import Derived.ChangeOld
import Derived.Below
import Derived.SizedLaws
import Derived.Carry
import Derived.Test.YtpfdfbomlffhcaaKFnExactOutboxRun0
import Derived.Test.YtpfdfbomlffhcaaKFnExactOutboxRun1
import Derived.Test.YtpfdfbomlffhcaaKFnExactOutboxRun2
import Derived.Test.YtpfdfbomlffhcaaKFnExactOutboxRun3
import Derived.Test.YtpfdfbomlffhcaaKFnExactOutboxRun4
import Derived.Test.YtpfdfbomlffhcaaKFnExactOutboxRun5
import Derived.Test.YtpfdfbomlffhcaaKFnExactOutboxRun6
import Derived.Test.YtpfdfbomlffhcaaKFnExactOutboxRun7
import Derived.Test.YtpfdfbomlffhcaaKFnExactOutboxRun8
import Derived.Test.YtpfdfbomlffhcaaKFnExactOutboxRun9
import Derived.Test.YtpfdfbomlffhcaaKFnExactOutboxRun10
import Derived.Test.YtpfdfbomlffhcaaKFnExactOutboxRun11
import Derived.Test.YtpfdfbomlffhcaaKFnExactOutboxRun12
import Derived.Test.YtpfdfbomlffhcaaKFnExactOutboxRun13
import Derived.Test.YtpfdfbomlffhcaaKFnExactOutboxRun14
import Derived.Test.YtpfdfbomlffhcaaKFnExactOutboxRun15
import Derived.Test.YtpfdfbomlffhcaaKFnExactOutboxRun16
import Derived.Test.YtpfdfbomlffhcaaKFnExactOutboxRun17
namespace Go.Proofs.Ytpfdfbomlffhcaa.fnExactOutboxRun
open Go.ChangeShapes Go.WideShapes Go.ChangeAt Go.RowKit Go.Proofs.Ytpfdfbomlffhcaa.QA Go.Proofs.YtpfdfbomlffhcaaW.PrintWords
open Go.ChangeMaps (open_string shut_string)
set_option linter.unusedVariables false
theorem own : ownKnob Try.prog.godebug = none := by kernel_rfl
theorem laidOut : laidOutB Try.prog = true := by kernel_rfl
set_option maxRecDepth 100000 in
theorem lifted (os : Os) (started : os.Started) (H : Type) (enc : TypeId × Value → H) :
    ReturnsInHanded {} Try.checked os 10 .any (Rows.fnExactOutboxRunSpec.pre6 enc Try.prog Try.f10 Rows.fnExactOutboxRunRow.domain false) (Rows.fnExactOutboxRunSpec.post enc Try.prog Try.f10 false true false false) := by
  refine returnsInHanded_of_change_sized (C := Try.checked) own started (by kernel_rfl) Try.func10
    (ChangeSpec.witness6 (enc := enc) (C := Try.checked) false ⟨#[], #[.agg #[.string ByteArray.empty, .int .i64 0, .string ByteArray.empty, .int .i64 0, .int .i64 0], .slice none 0 0], []⟩ 8 (by kernel_rfl) (by kernel_rfl) (by kernel_rfl) (by kernel_rfl)) ?_
  intro W base args ds gs before hval0 hW hcnd hsz0 _
  have hval : ∀ (j : Nat) t v, Try.f10.params[j]? = some t → args[j]? = some v → Value.okWide Try.prog W .any base t v := hval0
  have hW' := hW
  obtain ⟨p, q, hA0, hV, rfl, hfz, hnd⟩ := hW
  have hA : DataW.TrodAll enc Try.prog W 0 (fun _ => true) true Try.f10.params.toList args.toList ds p := hA0
  rw [Try.params10] at hA hval
  obtain ⟨v0, vs0, d0, ds0, p0, q0, hargs, rfl, rfl, h0, r0⟩ := trodAll_cons hA
  obtain ⟨v1, vs1, d1, ds1, p1, q1, rfl, rfl, rfl, h1, r1⟩ := trodAll_cons r0
  obtain ⟨rfl, rfl, rfl⟩ := trodAll_nil r1
  obtain rfl : args = #[v0, v1] := by cases args; simp_all
  obtain ⟨rfl, rfl⟩ := trodVars_none hV
  obtain ⟨cs0, rfl, _⟩ := okWide_struct Try.underlying64 (hval 0 64 v0 rfl rfl)
  have k0 := h0
  have lt0 : ∀ x ∈ p0, x.block < W.heap.size := by obtain ⟨m, hm⟩ := k0; exact DataW.trod_lt m _ _ _ hm
  obtain ⟨m0, hf0⟩ := h0
  obtain ⟨x0, hK0, w0⟩ := rd64 _ _ _ _ _ _ _ _ _ hf0
  have hK0' : k64.K W x0 cs0.toList := hK0
  have hcs0 := k64_open hK0'
  obtain rfl : cs0 = #[.string x0.f0, .int .i64 x0.f1, .string x0.f2, .int .i64 x0.f3, .int .i64 x0.f4] := by cases cs0; simpa using hcs0
  obtain ⟨A1, n1, c1, rfl⟩ := okWide_slice Try.underlying65 (hval 1 65 v1 rfl rfl)
  have k1 := h1
  have lt1 : ∀ x ∈ p1, x.block < W.heap.size := by obtain ⟨m, hm⟩ := k1; exact DataW.trod_lt m _ _ _ hm
  obtain ⟨m1, hf1⟩ := h1
  obtain ⟨l1, ⟨A1', c1', hcs1, hc1, hr1⟩, w1⟩ := ((Rd.rd_slice Try.underlying65 (by kernel_rfl) (Rd.rd_int (Try.underlying2))) : Rd.Rd Try.prog 65 (Kd.slice 2 (Kd.int .i64)) (Rd.WfRow (Rd.WfInt .i64))) _ _ _ _ _ _ _ _ _ hf1
  simp only [Value.cells, List.cons.injEq, Value.slice.injEq, and_true] at hcs1
  obtain ⟨rfl, rfl, rfl⟩ := hcs1
  clear hA0 hval0 hsz0
  obtain ⟨k, h⟩ := Pure.FnExactOutboxRun x0.f0 x0.f1 x0.f2 x0.f3 x0.f4 l1 w0.1 w0.2.1 w0.2.2.1 w0.2.2.2.1 w0.2.2.2.2 w1
  refine (laws_FnExactOutboxRun.calls k x0.f0 x0.f1 x0.f2 x0.f3 x0.f4 _ _ l1 true W  hr1 hc1 h).mono fun e W' ⟨he, hd⟩ => ?_
  have bel : Below W.heap.size W W' := hd
  subst he
  exact ⟨_, rfl, _, _, _, [], _, [], hW', trodAll_mk1 (shut_bool Try.underlying4 _), (trodAll_cons_mk (Below.trod laidOut (by kernel_rfl) (of_decide_eq_true (by kernel_rfl)) k0 bel lt0) (trodAll_cons_mk (Below.trod laidOut (by kernel_rfl) (of_decide_eq_true (by kernel_rfl)) k1 bel lt1) trodAll_mk0)), rfl, bel.frame _, fun h => by cases h⟩
theorem over : Rows.fnExactOutboxRunRow.holds Try.pinned (OpenSpec.ofChange Rows.fnExactOutboxRunSpec) :=
  OpenClaim.holds_of_wide 10 Try.f10 rfl rfl rfl rfl rfl rfl rfl ⟨rfl, rfl, rfl, rfl, rfl⟩ rfl rfl rfl rfl rfl (by kernel_rfl) Try.func10 (by kernel_rfl)
    (of_decide_eq_true (by kernel_rfl)) (by unfold Func.isWrapper; first | (rw [if_pos (by decide +kernel)]; kernel_rfl) | (rw [if_neg (by decide +kernel)]; exact ⟨rfl, rfl⟩))
    (fun os started H enc _ => lifted os started H enc)
theorem proved : Rows.FnExactOutboxRunSaid := over
#print axioms proved
end Go.Proofs.Ytpfdfbomlffhcaa.fnExactOutboxRun
namespace Go.Proofs.Ytpfdfbomlffhcaa
/-- The row, under a short name, for the claim. -/
theorem fnExactOutboxRun_holds : Rows.FnExactOutboxRunSaid := fnExactOutboxRun.proved
end Go.Proofs.Ytpfdfbomlffhcaa
