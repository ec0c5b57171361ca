/- ArenaNobody: nothing but what is alive. -/
import Derived.Test.YtiicmhholjpcbaaMKit
import Derived.Test.YtiicmhholjpcbaaDArenaNobody
namespace Go.Proofs.YtiicmhholjpcbaaV
set_option linter.unusedVariables false
set_option linter.unusedSimpArgs false
theorem alive02 : L02_alive = some true := by decide +kernel
theorem law_L02_ArenaNobody : ∀ x : ((.pair (.int .i64) (.pair (.int .i64) .unit)) : Ty).den, wfD (.pair (.int .i64) (.pair (.int .i64) .unit)) x → L02_ArenaNobody x.1 x.2.1 = some true := by
  intro x _
  simp only [L02_ArenaNobody, L02_ArenaNobody_J1, L02_ArenaNobody_C1, L02_ArenaNobody_C2, L02_ArenaNobody_C3, L02_ArenaNobody_C4, L02_ArenaNobody_C5, L02_ArenaNobody_C6, L02_ArenaNobody_C7, L02_ArenaNobody_C8, L02_ArenaNobody_C9, L02_ArenaNobody_C10, L02_ArenaNobody_C11, L02_ArenaNobody_C12, L02_ArenaNobody_C13, L02_ArenaNobody_C14, L02_ArenaNobody_R14, L02_ArenaNobody_R13, L02_ArenaNobody_R12, L02_ArenaNobody_R11, L02_ArenaNobody_R10, L02_ArenaNobody_R9, L02_ArenaNobody_R8, L02_ArenaNobody_R7, L02_ArenaNobody_R6, L02_ArenaNobody_R5, L02_ArenaNobody_R4, L02_ArenaNobody_R3, L02_ArenaNobody_R2, L02_ArenaNobody_R1, cutv_eq, alive02, Option.bind_some]
end Go.Proofs.YtiicmhholjpcbaaV
