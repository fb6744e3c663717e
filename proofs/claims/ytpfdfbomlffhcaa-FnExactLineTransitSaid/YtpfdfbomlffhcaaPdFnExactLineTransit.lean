-- Written by a program of this session (wip/tool/gen.py, which drives the kit's print) out of the translation.
import Derived.Test.YtpfdfbomlffhcaaQAd0
import Derived.Test.YtpfdfbomlffhcaaQARd
namespace Go.Proofs.Ytpfdfbomlffhcaa.QA
open Go.Proofs.Ytpfdfbomlffhcaa Go.Proofs.YtpfdfbomlffhcaaW.PrintWords
/-- The one pure statement. -/
def laws_FnExactLineTransit.Pure : Prop := ∀ (a0_0 : ByteArray) (a0_1 : ByteArray) (a0_2 : Int) (a0_3 : ByteArray) (a0_4 : Int) (a0_5 : Int) (a0_6 : Int) (a0_7 : Int), Rd.WfStr a0_0 → Rd.WfStr a0_1 → (Rd.WfInt .i64) a0_2 → Rd.WfStr a0_3 → (Rd.WfInt .i64) a0_4 → (Rd.WfInt .i64) a0_5 → (Rd.WfInt .i64) a0_6 → (Rd.WfInt .i64) a0_7 → ∃ k, laws_FnExactLineTransit.f k a0_0 a0_1 a0_2 a0_3 a0_4 a0_5 a0_6 a0_7 = some true
end Go.Proofs.Ytpfdfbomlffhcaa.QA
