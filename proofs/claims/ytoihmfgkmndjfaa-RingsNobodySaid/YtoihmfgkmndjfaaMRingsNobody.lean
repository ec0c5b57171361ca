/- RingsNobody: nothing but what is alive. -/
import Derived.Test.YtoihmfgkmndjfaaMKit
import Derived.Test.YtoihmfgkmndjfaaDRingsNobody
namespace Go.Proofs.YtoihmfgkmndjfaaV
set_option linter.unusedVariables false
set_option linter.unusedSimpArgs false
theorem alive07 : L07_alive = some true := by decide +kernel
theorem law_L07_RingsNobody : ∀ x : ((.pair (.int .i64) .unit) : Ty).den, wfD (.pair (.int .i64) .unit) x → L07_RingsNobody x.1 = some true := by
  intro x _
  simp only [L07_RingsNobody, L07_RingsNobody_J1, L07_RingsNobody_C1, L07_RingsNobody_C2, L07_RingsNobody_C3, L07_RingsNobody_C4, L07_RingsNobody_C5, L07_RingsNobody_C6, L07_RingsNobody_C7, L07_RingsNobody_C8, L07_RingsNobody_C9, L07_RingsNobody_C10, L07_RingsNobody_C11, L07_RingsNobody_C12, L07_RingsNobody_C13, L07_RingsNobody_C14, L07_RingsNobody_R14, L07_RingsNobody_R13, L07_RingsNobody_R12, L07_RingsNobody_R11, L07_RingsNobody_R10, L07_RingsNobody_R9, L07_RingsNobody_R8, L07_RingsNobody_R7, L07_RingsNobody_R6, L07_RingsNobody_R5, L07_RingsNobody_R4, L07_RingsNobody_R3, L07_RingsNobody_R2, L07_RingsNobody_R1, cutv_eq, alive07, Option.bind_some]
end Go.Proofs.YtoihmfgkmndjfaaV
