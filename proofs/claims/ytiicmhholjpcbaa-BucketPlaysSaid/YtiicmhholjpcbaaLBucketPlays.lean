/- becket/becketlaw24.BucketPlays: for every input the law returns true, and each argument reads behind the call as before. No condition. -/
import Derived.Test.YtiicmhholjpcbaaRows
import Derived.Test.YtiicmhholjpcbaaVcG2
import Derived.Test.YtiicmhholjpcbaaCL24
import Derived.Test.YtiicmhholjpcbaaCBucketPlays
import Derived.Test.YtiicmhholjpcbaaMBucketPlays
namespace Go.Proofs.Ytiicmhholjpcbaa.bucketPlays
open Go.ChangeShapes Go.WideShapes Go.ChangeAt Go.RowKit Go.Proofs.YtiicmhholjpcbaaV
set_option linter.unusedVariables false
theorem own : ownKnob Try.prog.godebug = none := by kernel_rfl
set_option maxRecDepth 100000 in
theorem lifted (os : Os) (started : os.Started) (H : Type) (enc : TypeId × Value → H) :
    ReturnsInHanded {} Try.checked os 9 .any (Rows.bucketPlaysSpec.pre6 enc Try.prog Try.f9 Rows.bucketPlaysRow.domain false) (Rows.bucketPlaysSpec.post enc Try.prog Try.f9 false true false false) := by
  refine returnsInHanded_of_change_sized (C := Try.checked) own started (by kernel_rfl) Try.func9
    (ChangeSpec.witness6 (enc := enc) (C := Try.checked) false ⟨#[], #[.int .i64 0, .slice none 0 0], []⟩ 12 (by kernel_rfl) (by kernel_rfl) (by kernel_rfl) (by kernel_rfl)) ?_
  intro W base args ds gs before hval0 hW hcnd hsz0 _
  refine row_of (C := Try.checked) (s := Rows.bucketPlaysSpec) (c := bodyOf Try.f9) (tr := 4) cq_L24_BucketPlays Try.func9 rfl (by decide) (by kernel_rfl) (by kernel_rfl) (by kernel_rfl) rfl Try.underlying4 rfl ?_ law_L24_BucketPlays rfl W base args ds gs before hval0 hW hsz0
  intro ds hl
  match ds, hl with
  | [d1, d2], _ => exact ⟨rfl, rfl, rfl⟩
theorem over : Rows.bucketPlaysRow.holds Try.pinned (OpenSpec.ofChange Rows.bucketPlaysSpec) :=
  OpenClaim.holds_of_wide 9 Try.f9 rfl rfl rfl rfl rfl rfl rfl ⟨rfl, rfl, rfl, rfl, rfl⟩ rfl rfl rfl rfl rfl (by kernel_rfl) Try.func9 (by kernel_rfl)
    (of_decide_eq_true (by kernel_rfl)) (by unfold Func.isWrapper; first | (rw [if_pos (by decide +kernel)]; kernel_rfl) | (rw [if_neg (by decide +kernel)]; exact ⟨rfl, rfl⟩))
    (fun os started H enc _ => lifted os started H enc)
end Go.Proofs.Ytiicmhholjpcbaa.bucketPlays
namespace Go.Proofs.Ytiicmhholjpcbaa
/-- The row, under a short name, for the claim. -/
theorem bucketPlays_holds : Rows.BucketPlaysSaid := bucketPlays.over
end Go.Proofs.Ytiicmhholjpcbaa
