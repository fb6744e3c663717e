-- Written by a program of this session (wip/tool/gen.py, which drives the kit's print) out of the translation.
import Derived.Test.YtpfdfbomlffhcaaQAx0
import Derived.Test.YtpfdfbomlffhcaaRd
namespace Go.Proofs.Ytpfdfbomlffhcaa.QA
open Go.RowKit Go.Proofs.Ytpfdfbomlffhcaa Go.Proofs.YtpfdfbomlffhcaaW.PrintWords
def wf23 (x : S23) : Prop := Rd.WfStr x.f0 ∧ Rd.WfStr x.f1 ∧ (Rd.WfInt .i64) x.f2 ∧ Rd.WfStr x.f3 ∧ (Rd.WfInt .i64) x.f4 ∧ (Rd.WfInt .i64) x.f5 ∧ (Rd.WfInt .i64) x.f6 ∧ (Rd.WfInt .i64) x.f7
def wf88 (x : S88) : Prop := (Rd.WfInt .i64) x.f0 ∧ Rd.WfStr x.f1 ∧ Rd.WfStr x.f2 ∧ (Rd.WfInt .i64) x.f3 ∧ Rd.WfStr x.f4 ∧ (Rd.WfInt .i64) x.f5
def wf64 (x : S64) : Prop := Rd.WfStr x.f0 ∧ (Rd.WfInt .i64) x.f1 ∧ Rd.WfStr x.f2 ∧ (Rd.WfInt .i64) x.f3 ∧ (Rd.WfInt .i64) x.f4
def wf136 (x : S136) : Prop := Rd.WfStr x.f0 ∧ (Rd.WfInt .i64) x.f1
def wf76 (x : S76) : Prop := (Rd.WfRow wf136) x.f0 ∧ (Rd.WfRow wf23) x.f1
set_option maxRecDepth 100000 in
theorem rd23 : Rd.Rd Try.prog 23 k23 wf23 := Rd.rd_struct _ (fun a => ⟨a.1, a.2.1, a.2.2.1, a.2.2.2.1, a.2.2.2.2.1, a.2.2.2.2.2.1, a.2.2.2.2.2.2.1, a.2.2.2.2.2.2.2⟩) (fun _ => rfl) (fun _ h => h) Try.underlying23 (by kernel_rfl) (Rd.rdF_cons (Rd.rd_str (Try.underlying9)) rfl (by kernel_rfl) (off2 := 1) rfl (Rd.rdF_cons (Rd.rd_str (Try.underlying9)) rfl (by kernel_rfl) (off2 := 2) rfl (Rd.rdF_cons (Rd.rd_int (Try.underlying2)) rfl (by kernel_rfl) (off2 := 3) rfl (Rd.rdF_cons (Rd.rd_str (Try.underlying9)) rfl (by kernel_rfl) (off2 := 4) rfl (Rd.rdF_cons (Rd.rd_int (Try.underlying2)) rfl (by kernel_rfl) (off2 := 5) rfl (Rd.rdF_cons (Rd.rd_int (Try.underlying2)) rfl (by kernel_rfl) (off2 := 6) rfl (Rd.rdF_cons (Rd.rd_int (Try.underlying2)) rfl (by kernel_rfl) (off2 := 7) rfl (Rd.rdF_last (Rd.rd_int (Try.underlying2)) rfl (by kernel_rfl)))))))))
set_option maxRecDepth 100000 in
theorem rd88 : Rd.Rd Try.prog 88 k88 wf88 := Rd.rd_struct _ (fun a => ⟨a.1, a.2.1, a.2.2.1, a.2.2.2.1, a.2.2.2.2.1, a.2.2.2.2.2⟩) (fun _ => rfl) (fun _ h => h) Try.underlying88 (by kernel_rfl) (Rd.rdF_cons (Rd.rd_int (Try.underlying2)) rfl (by kernel_rfl) (off2 := 1) rfl (Rd.rdF_cons (Rd.rd_str (Try.underlying9)) rfl (by kernel_rfl) (off2 := 2) rfl (Rd.rdF_cons (Rd.rd_str (Try.underlying9)) rfl (by kernel_rfl) (off2 := 3) rfl (Rd.rdF_cons (Rd.rd_int (Try.underlying2)) rfl (by kernel_rfl) (off2 := 4) rfl (Rd.rdF_cons (Rd.rd_str (Try.underlying9)) rfl (by kernel_rfl) (off2 := 5) rfl (Rd.rdF_last (Rd.rd_int (Try.underlying2)) rfl (by kernel_rfl)))))))
set_option maxRecDepth 100000 in
theorem rd64 : Rd.Rd Try.prog 64 k64 wf64 := Rd.rd_struct _ (fun a => ⟨a.1, a.2.1, a.2.2.1, a.2.2.2.1, a.2.2.2.2⟩) (fun _ => rfl) (fun _ h => h) Try.underlying64 (by kernel_rfl) (Rd.rdF_cons (Rd.rd_str (Try.underlying9)) rfl (by kernel_rfl) (off2 := 1) rfl (Rd.rdF_cons (Rd.rd_int (Try.underlying2)) rfl (by kernel_rfl) (off2 := 2) rfl (Rd.rdF_cons (Rd.rd_str (Try.underlying9)) rfl (by kernel_rfl) (off2 := 3) rfl (Rd.rdF_cons (Rd.rd_int (Try.underlying2)) rfl (by kernel_rfl) (off2 := 4) rfl (Rd.rdF_last (Rd.rd_int (Try.underlying2)) rfl (by kernel_rfl))))))
set_option maxRecDepth 100000 in
theorem rd136 : Rd.Rd Try.prog 136 k136 wf136 := Rd.rd_struct _ (fun a => ⟨a.1, a.2⟩) (fun _ => rfl) (fun _ h => h) Try.underlying136 (by kernel_rfl) (Rd.rdF_cons (Rd.rd_str (Try.underlying9)) rfl (by kernel_rfl) (off2 := 1) rfl (Rd.rdF_last (Rd.rd_int (Try.underlying2)) rfl (by kernel_rfl)))
set_option maxRecDepth 100000 in
theorem rd76 : Rd.Rd Try.prog 76 k76 wf76 := Rd.rd_struct _ (fun a => ⟨a.1, a.2⟩) (fun _ => rfl) (fun _ h => h) Try.underlying76 (by kernel_rfl) (Rd.rdF_cons (Rd.rd_slice Try.underlying74 (by kernel_rfl) rd136) rfl (by kernel_rfl) (off2 := 1) rfl (Rd.rdF_last (Rd.rd_slice Try.underlying54 (by kernel_rfl) rd23) rfl (by kernel_rfl)))
end Go.Proofs.Ytpfdfbomlffhcaa.QA
