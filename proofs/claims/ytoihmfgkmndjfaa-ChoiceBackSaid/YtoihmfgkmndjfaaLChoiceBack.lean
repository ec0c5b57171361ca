/- becket/becketlaw33.ChoiceBack: for every input the law returns true, and each argument reads behind the call as before. No condition. -/
import Derived.Test.YtoihmfgkmndjfaaRows
import Derived.Test.YtoihmfgkmndjfaaVcG2
import Derived.Test.YtoihmfgkmndjfaaCL33
import Derived.Test.YtoihmfgkmndjfaaCChoiceBack
import Derived.Test.YtoihmfgkmndjfaaMChoiceBack
namespace Go.Proofs.Ytoihmfgkmndjfaa.choiceBack
open Go.ChangeShapes Go.WideShapes Go.ChangeAt Go.RowKit Go.Proofs.YtoihmfgkmndjfaaV
set_option linter.unusedVariables false
theorem own : ownKnob Try.prog.godebug = none := by kernel_rfl
set_option maxRecDepth 100000 in
theorem lifted (os : Os) (started : os.Started) (H : Type) (enc : TypeId × Value → H) :
    ReturnsInHanded {} Try.checked os 14 .any (Rows.choiceBackSpec.pre6 enc Try.prog Try.f14 Rows.choiceBackRow.domain false) (Rows.choiceBackSpec.post enc Try.prog Try.f14 false true false false) := by
  refine returnsInHanded_of_change_sized (C := Try.checked) own started (by kernel_rfl) Try.func14
    (ChangeSpec.witness6 (enc := enc) (C := Try.checked) false ⟨#[], #[.slice none 0 0, .string ⟨#[]⟩, .string ⟨#[]⟩], []⟩ 12 (by kernel_rfl) (by kernel_rfl) (by kernel_rfl) (by kernel_rfl)) ?_
  intro W base args ds gs before hval0 hW hcnd hsz0 _
  refine row_of (C := Try.checked) (s := Rows.choiceBackSpec) (c := bodyOf Try.f14) (tr := 4) cq_L33_ChoiceBack Try.func14 rfl (by decide) (by kernel_rfl) (by kernel_rfl) (by kernel_rfl) rfl Try.underlying4 rfl ?_ law_L33_ChoiceBack rfl W base args ds gs before hval0 hW hsz0
  intro ds hl
  match ds, hl with
  | [d1, d2, d3], _ => exact ⟨rfl, rfl, rfl⟩
theorem over : Rows.choiceBackRow.holds Try.pinned (OpenSpec.ofChange Rows.choiceBackSpec) :=
  OpenClaim.holds_of_wide 14 Try.f14 rfl rfl rfl rfl rfl rfl rfl ⟨rfl, rfl, rfl, rfl, rfl⟩ rfl rfl rfl rfl rfl (by kernel_rfl) Try.func14 (by kernel_rfl)
    (of_decide_eq_true (by kernel_rfl)) (by unfold Func.isWrapper; first | (rw [if_pos (by decide +kernel)]; kernel_rfl) | (rw [if_neg (by decide +kernel)]; exact ⟨rfl, rfl⟩))
    (fun os started H enc _ => lifted os started H enc)
end Go.Proofs.Ytoihmfgkmndjfaa.choiceBack
namespace Go.Proofs.Ytoihmfgkmndjfaa
/-- The row, under a short name, for the claim. -/
theorem choiceBack_holds : Rows.ChoiceBackSaid := choiceBack.over
end Go.Proofs.Ytoihmfgkmndjfaa
