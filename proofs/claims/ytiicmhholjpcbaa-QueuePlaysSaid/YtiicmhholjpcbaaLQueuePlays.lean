/- becket/becketlaw03.QueuePlays: for every input the law returns true, and each argument reads behind the call as before. No condition. -/
import Derived.Test.YtiicmhholjpcbaaRows
import Derived.Test.YtiicmhholjpcbaaVcG2
import Derived.Test.YtiicmhholjpcbaaCL03
import Derived.Test.YtiicmhholjpcbaaCQueuePlays
import Derived.Test.YtiicmhholjpcbaaMQueuePlays
namespace Go.Proofs.Ytiicmhholjpcbaa.queuePlays
open Go.ChangeShapes Go.WideShapes Go.ChangeAt Go.RowKit Go.Proofs.YtiicmhholjpcbaaV
set_option linter.unusedVariables false
theorem own : ownKnob Try.prog.godebug = none := by kernel_rfl
set_option maxRecDepth 100000 in
theorem lifted (os : Os) (started : os.Started) (H : Type) (enc : TypeId × Value → H) :
    ReturnsInHanded {} Try.checked os 6 .any (Rows.queuePlaysSpec.pre6 enc Try.prog Try.f6 Rows.queuePlaysRow.domain false) (Rows.queuePlaysSpec.post enc Try.prog Try.f6 false true false false) := by
  refine returnsInHanded_of_change_sized (C := Try.checked) own started (by kernel_rfl) Try.func6
    (ChangeSpec.witness6 (enc := enc) (C := Try.checked) false ⟨#[], #[.int .i64 0, .int .i64 0, .slice none 0 0], []⟩ 12 (by kernel_rfl) (by kernel_rfl) (by kernel_rfl) (by kernel_rfl)) ?_
  intro W base args ds gs before hval0 hW hcnd hsz0 _
  refine row_of (C := Try.checked) (s := Rows.queuePlaysSpec) (c := bodyOf Try.f6) (tr := 4) cq_L03_QueuePlays Try.func6 rfl (by decide) (by kernel_rfl) (by kernel_rfl) (by kernel_rfl) rfl Try.underlying4 rfl ?_ law_L03_QueuePlays rfl W base args ds gs before hval0 hW hsz0
  intro ds hl
  match ds, hl with
  | [d1, d2, d3], _ => exact ⟨rfl, rfl, rfl⟩
theorem over : Rows.queuePlaysRow.holds Try.pinned (OpenSpec.ofChange Rows.queuePlaysSpec) :=
  OpenClaim.holds_of_wide 6 Try.f6 rfl rfl rfl rfl rfl rfl rfl ⟨rfl, rfl, rfl, rfl, rfl⟩ rfl rfl rfl rfl rfl (by kernel_rfl) Try.func6 (by kernel_rfl)
    (of_decide_eq_true (by kernel_rfl)) (by unfold Func.isWrapper; first | (rw [if_pos (by decide +kernel)]; kernel_rfl) | (rw [if_neg (by decide +kernel)]; exact ⟨rfl, rfl⟩))
    (fun os started H enc _ => lifted os started H enc)
end Go.Proofs.Ytiicmhholjpcbaa.queuePlays
namespace Go.Proofs.Ytiicmhholjpcbaa
/-- The row, under a short name, for the claim. -/
theorem queuePlays_holds : Rows.QueuePlaysSaid := queuePlays.over
end Go.Proofs.Ytiicmhholjpcbaa
