/- becket/becketlaw27.ChooseTells: for every input the law returns true, and each argument reads behind the call as before. No condition. -/
import Derived.Test.YtoihmfgkmndjfaaRows
import Derived.Test.YtoihmfgkmndjfaaVcG2
import Derived.Test.YtoihmfgkmndjfaaCL27
import Derived.Test.YtoihmfgkmndjfaaML27
namespace Go.Proofs.Ytoihmfgkmndjfaa.chooseTells
open Go.ChangeShapes Go.WideShapes Go.ChangeAt Go.RowKit Go.Proofs.YtoihmfgkmndjfaaV
set_option linter.unusedVariables false
theorem own : ownKnob Try.prog.godebug = none := by kernel_rfl
set_option maxRecDepth 100000 in
theorem lifted (os : Os) (started : os.Started) (H : Type) (enc : TypeId × Value → H) :
    ReturnsInHanded {} Try.checked os 3 .any (Rows.chooseTellsSpec.pre6 enc Try.prog Try.f3 Rows.chooseTellsRow.domain false) (Rows.chooseTellsSpec.post enc Try.prog Try.f3 false true false false) := by
  refine returnsInHanded_of_change_sized (C := Try.checked) own started (by kernel_rfl) Try.func3
    (ChangeSpec.witness6 (enc := enc) (C := Try.checked) false ⟨#[], #[.agg #[.int .i64 0, .int .i64 0, .int .i64 0, .slice none 0 0], .int .i64 0], []⟩ 12 (by kernel_rfl) (by kernel_rfl) (by kernel_rfl) (by kernel_rfl)) ?_
  intro W base args ds gs before hval0 hW hcnd hsz0 _
  refine row_of (C := Try.checked) (s := Rows.chooseTellsSpec) (c := bodyOf Try.f3) (tr := 4) c_L27_ChooseTells Try.func3 rfl (by decide) (by kernel_rfl) (by kernel_rfl) (by kernel_rfl) rfl Try.underlying4 rfl ?_ law_L27_ChooseTells W base args ds gs before hval0 hW hsz0
  intro ds hl
  match ds, hl with
  | [d1, d2], _ => exact ⟨rfl, rfl, rfl⟩
theorem over : Rows.chooseTellsRow.holds Try.pinned (OpenSpec.ofChange Rows.chooseTellsSpec) :=
  OpenClaim.holds_of_wide 3 Try.f3 rfl rfl rfl rfl rfl rfl rfl ⟨rfl, rfl, rfl, rfl, rfl⟩ rfl rfl rfl rfl rfl (by kernel_rfl) Try.func3 (by kernel_rfl)
    (of_decide_eq_true (by kernel_rfl)) (by unfold Func.isWrapper; first | (rw [if_pos (by decide +kernel)]; kernel_rfl) | (rw [if_neg (by decide +kernel)]; exact ⟨rfl, rfl⟩))
    (fun os started H enc _ => lifted os started H enc)
end Go.Proofs.Ytoihmfgkmndjfaa.chooseTells
namespace Go.Proofs.Ytoihmfgkmndjfaa
/-- The row, under a short name, for the claim. -/
theorem chooseTells_holds : Rows.ChooseTellsSaid := chooseTells.over
end Go.Proofs.Ytoihmfgkmndjfaa
