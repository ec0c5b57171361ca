/- becket/becketlaw31.ProcOnce: for every input the law returns true, and each argument reads behind the call as before. No condition. -/
import Derived.Test.YtejedlpnejjnbaaRows
import Derived.Test.YtejedlpnejjnbaaSVcG2
import Derived.Test.YtejedlpnejjnbaaSCL31
import Derived.Test.YtejedlpnejjnbaaSCProcOnce
import Derived.Test.YtejedlpnejjnbaaSMProcOnce
namespace Go.Proofs.Ytejedlpnejjnbaa.procOnce
open Go.ChangeShapes Go.WideShapes Go.ChangeAt Go.RowKit Go.Proofs.YtejedlpnejjnbaaSV
set_option linter.unusedVariables false
theorem own : ownKnob Try.prog.godebug = none := by kernel_rfl
set_option maxRecDepth 100000 in
theorem lifted (os : Os) (started : os.Started) (H : Type) (enc : TypeId × Value → H) :
    ReturnsInHanded {} Try.checked os 5 .any (Rows.procOnceSpec.pre6 enc Try.prog Try.f5 Rows.procOnceRow.domain false) (Rows.procOnceSpec.post enc Try.prog Try.f5 false true false false) := by
  refine returnsInHanded_of_change_sized (C := Try.checked) own started (by kernel_rfl) Try.func5
    (ChangeSpec.witness6 (enc := enc) (C := Try.checked) false ⟨#[], #[.slice none 0 0], []⟩ 12 (by kernel_rfl) (by kernel_rfl) (by kernel_rfl) (by kernel_rfl)) ?_
  intro W base args ds gs before hval0 hW hcnd hsz0 _
  refine row_of (C := Try.checked) (s := Rows.procOnceSpec) (c := bodyOf Try.f5) (tr := 4) cq_L31_ProcOnce Try.func5 rfl (by decide) (by kernel_rfl) (by kernel_rfl) (by kernel_rfl) rfl Try.underlying4 rfl ?_ law_L31_ProcOnce rfl W base args ds gs before hval0 hW hsz0
  intro ds hl
  match ds, hl with
  | [d1], _ => exact ⟨rfl, rfl, rfl⟩
theorem over : Rows.procOnceRow.holds Try.pinned (OpenSpec.ofChange Rows.procOnceSpec) :=
  OpenClaim.holds_of_wide 5 Try.f5 rfl rfl rfl rfl rfl rfl rfl ⟨rfl, rfl, rfl, rfl, rfl⟩ rfl rfl rfl rfl rfl (by kernel_rfl) Try.func5 (by kernel_rfl)
    (of_decide_eq_true (by kernel_rfl)) (by unfold Func.isWrapper; first | (rw [if_pos (by decide +kernel)]; kernel_rfl) | (rw [if_neg (by decide +kernel)]; exact ⟨rfl, rfl⟩))
    (fun os started H enc _ => lifted os started H enc)
end Go.Proofs.Ytejedlpnejjnbaa.procOnce
namespace Go.Proofs.Ytejedlpnejjnbaa
/-- The row, under a short name, for the claim. -/
theorem procOnce_holds : Rows.ProcOnceSaid := procOnce.over
end Go.Proofs.Ytejedlpnejjnbaa
