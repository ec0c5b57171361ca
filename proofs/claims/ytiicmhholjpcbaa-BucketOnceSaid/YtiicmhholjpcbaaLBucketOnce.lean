/- becket/becketlaw24.BucketOnce: for every input the law returns true, and each argument reads behind the call as before. No condition. -/
import Derived.Test.YtiicmhholjpcbaaRows
import Derived.Test.YtiicmhholjpcbaaVcG2
import Derived.Test.YtiicmhholjpcbaaCL24
import Derived.Test.YtiicmhholjpcbaaCBucketOnce
import Derived.Test.YtiicmhholjpcbaaMBucketOnce
namespace Go.Proofs.Ytiicmhholjpcbaa.bucketOnce
open Go.ChangeShapes Go.WideShapes Go.ChangeAt Go.RowKit Go.Proofs.YtiicmhholjpcbaaV
set_option linter.unusedVariables false
theorem own : ownKnob Try.prog.godebug = none := by kernel_rfl
set_option maxRecDepth 100000 in
theorem lifted (os : Os) (started : os.Started) (H : Type) (enc : TypeId × Value → H) :
    ReturnsInHanded {} Try.checked os 10 .any (Rows.bucketOnceSpec.pre6 enc Try.prog Try.f10 Rows.bucketOnceRow.domain false) (Rows.bucketOnceSpec.post enc Try.prog Try.f10 false true false false) := by
  refine returnsInHanded_of_change_sized (C := Try.checked) own started (by kernel_rfl) Try.func10
    (ChangeSpec.witness6 (enc := enc) (C := Try.checked) false ⟨#[], #[.slice none 0 0], []⟩ 12 (by kernel_rfl) (by kernel_rfl) (by kernel_rfl) (by kernel_rfl)) ?_
  intro W base args ds gs before hval0 hW hcnd hsz0 _
  refine row_of (C := Try.checked) (s := Rows.bucketOnceSpec) (c := bodyOf Try.f10) (tr := 4) cq_L24_BucketOnce Try.func10 rfl (by decide) (by kernel_rfl) (by kernel_rfl) (by kernel_rfl) rfl Try.underlying4 rfl ?_ law_L24_BucketOnce rfl W base args ds gs before hval0 hW hsz0
  intro ds hl
  match ds, hl with
  | [d1], _ => exact ⟨rfl, rfl, rfl⟩
theorem over : Rows.bucketOnceRow.holds Try.pinned (OpenSpec.ofChange Rows.bucketOnceSpec) :=
  OpenClaim.holds_of_wide 10 Try.f10 rfl rfl rfl rfl rfl rfl rfl ⟨rfl, rfl, rfl, rfl, rfl⟩ rfl rfl rfl rfl rfl (by kernel_rfl) Try.func10 (by kernel_rfl)
    (of_decide_eq_true (by kernel_rfl)) (by unfold Func.isWrapper; first | (rw [if_pos (by decide +kernel)]; kernel_rfl) | (rw [if_neg (by decide +kernel)]; exact ⟨rfl, rfl⟩))
    (fun os started H enc _ => lifted os started H enc)
end Go.Proofs.Ytiicmhholjpcbaa.bucketOnce
namespace Go.Proofs.Ytiicmhholjpcbaa
/-- The row, under a short name, for the claim. -/
theorem bucketOnce_holds : Rows.BucketOnceSaid := bucketOnce.over
end Go.Proofs.Ytiicmhholjpcbaa
