/- BucketNobody: nothing but what is alive. -/
import Derived.Test.YtiicmhholjpcbaaMKit
import Derived.Test.YtiicmhholjpcbaaDBucketNobody
namespace Go.Proofs.YtiicmhholjpcbaaV
set_option linter.unusedVariables false
set_option linter.unusedSimpArgs false
theorem alive24 : L24_alive = some true := by decide +kernel
theorem L24_BucketNobody_C2_eq (x1 : Int × Int) (k2 : (Int × Int) → Option Bool) : L24_BucketNobody_C2 x1 k2 = L24_BucketNobody_J2 k2 x1 := by
  unfold L24_BucketNobody_C2
  exact loop_by (fun _ => True) (fun _ => 0) (fun _ => L24_BucketNobody_J2 k2 x1) trivial (by omega) fun k x _ _ => rfl
theorem L24_BucketNobody_C7_eq (x7 : Int × Int) (k8 : (Int × Int) → Option Bool) : L24_BucketNobody_C7 x7 k8 = L24_BucketNobody_J3 k8 x7 := by
  unfold L24_BucketNobody_C7
  exact loop_by (fun _ => True) (fun _ => 0) (fun _ => L24_BucketNobody_J3 k8 x7) trivial (by omega) fun k x _ _ => rfl
theorem law_L24_BucketNobody : ∀ x : ((.pair (.int .i64) (.pair (.int .i64) .unit)) : Ty).den, wfD (.pair (.int .i64) (.pair (.int .i64) .unit)) x → L24_BucketNobody x.1 x.2.1 = some true := by
  intro x _
  simp only [L24_BucketNobody, L24_BucketNobody_J1, L24_BucketNobody_C1, L24_BucketNobody_J2, L24_BucketNobody_C2_eq, L24_BucketNobody_C3, L24_BucketNobody_C4, L24_BucketNobody_C5, L24_BucketNobody_C6, L24_BucketNobody_J3, L24_BucketNobody_C7_eq, L24_BucketNobody_C8, L24_BucketNobody_C9, L24_BucketNobody_C10, L24_BucketNobody_R10, L24_BucketNobody_R9, L24_BucketNobody_R8, L24_BucketNobody_R7, L24_BucketNobody_R6, L24_BucketNobody_R5, L24_BucketNobody_R4, L24_BucketNobody_R3, L24_BucketNobody_R2, L24_BucketNobody_R1, cutv_eq, alive24, Option.bind_some]
end Go.Proofs.YtiicmhholjpcbaaV
