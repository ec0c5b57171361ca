/- QueueNobody: nothing but what is alive. -/
import Derived.Test.YtiicmhholjpcbaaMKit
import Derived.Test.YtiicmhholjpcbaaDQueueNobody
namespace Go.Proofs.YtiicmhholjpcbaaV
set_option linter.unusedVariables false
set_option linter.unusedSimpArgs false
theorem alive03 : L03_alive = some true := by decide +kernel
theorem law_L03_QueueNobody : ∀ x : ((.pair (.int .i64) (.pair (.int .i64) .unit)) : Ty).den, wfD (.pair (.int .i64) (.pair (.int .i64) .unit)) x → L03_QueueNobody x.1 x.2.1 = some true := by
  intro x _
  simp only [L03_QueueNobody, L03_QueueNobody_J1, L03_QueueNobody_C1, L03_QueueNobody_C2, L03_QueueNobody_C3, L03_QueueNobody_C4, L03_QueueNobody_C5, L03_QueueNobody_C6, L03_QueueNobody_C7, L03_QueueNobody_C8, L03_QueueNobody_C9, L03_QueueNobody_C10, L03_QueueNobody_C11, L03_QueueNobody_C12, L03_QueueNobody_C13, L03_QueueNobody_C14, L03_QueueNobody_R14, L03_QueueNobody_R13, L03_QueueNobody_R12, L03_QueueNobody_R11, L03_QueueNobody_R10, L03_QueueNobody_R9, L03_QueueNobody_R8, L03_QueueNobody_R7, L03_QueueNobody_R6, L03_QueueNobody_R5, L03_QueueNobody_R4, L03_QueueNobody_R3, L03_QueueNobody_R2, L03_QueueNobody_R1, cutv_eq, alive03, Option.bind_some]
end Go.Proofs.YtiicmhholjpcbaaV
