/- becket/becketlaw17.ClaimsTell: for every input the law returns true, and each argument reads behind the call as before. No condition. -/
import Derived.Test.YtoihmfgkmndjfaaRows
import Derived.Test.YtoihmfgkmndjfaaVcG2
import Derived.Test.YtoihmfgkmndjfaaCL17
import Derived.Test.YtoihmfgkmndjfaaML17
namespace Go.Proofs.Ytoihmfgkmndjfaa.claimsTell
open Go.ChangeShapes Go.WideShapes Go.ChangeAt Go.RowKit Go.Proofs.YtoihmfgkmndjfaaV
set_option linter.unusedVariables false
theorem own : ownKnob Try.prog.godebug = none := by kernel_rfl
set_option maxRecDepth 100000 in
theorem lifted (os : Os) (started : os.Started) (H : Type) (enc : TypeId × Value → H) :
    ReturnsInHanded {} Try.checked os 9 .any (Rows.claimsTellSpec.pre6 enc Try.prog Try.f9 Rows.claimsTellRow.domain false) (Rows.claimsTellSpec.post enc Try.prog Try.f9 false true false false) := by
  refine returnsInHanded_of_change_sized (C := Try.checked) own started (by kernel_rfl) Try.func9
    (ChangeSpec.witness6 (enc := enc) (C := Try.checked) false ⟨#[], #[.agg #[.bool false, .slice none 0 0], .int .i64 0], []⟩ 12 (by kernel_rfl) (by kernel_rfl) (by kernel_rfl) (by kernel_rfl)) ?_
  intro W base args ds gs before hval0 hW hcnd hsz0 _
  refine row_of (C := Try.checked) (s := Rows.claimsTellSpec) (c := bodyOf Try.f9) (tr := 4) c_L17_ClaimsTell Try.func9 rfl (by decide) (by kernel_rfl) (by kernel_rfl) (by kernel_rfl) rfl Try.underlying4 rfl ?_ law_L17_ClaimsTell W base args ds gs before hval0 hW hsz0
  intro ds hl
  match ds, hl with
  | [d1, d2], _ => exact ⟨rfl, rfl, rfl⟩
theorem over : Rows.claimsTellRow.holds Try.pinned (OpenSpec.ofChange Rows.claimsTellSpec) :=
  OpenClaim.holds_of_wide 9 Try.f9 rfl rfl rfl rfl rfl rfl rfl ⟨rfl, rfl, rfl, rfl, rfl⟩ rfl rfl rfl rfl rfl (by kernel_rfl) Try.func9 (by kernel_rfl)
    (of_decide_eq_true (by kernel_rfl)) (by unfold Func.isWrapper; first | (rw [if_pos (by decide +kernel)]; kernel_rfl) | (rw [if_neg (by decide +kernel)]; exact ⟨rfl, rfl⟩))
    (fun os started H enc _ => lifted os started H enc)
end Go.Proofs.Ytoihmfgkmndjfaa.claimsTell
namespace Go.Proofs.Ytoihmfgkmndjfaa
/-- The row, under a short name, for the claim. -/
theorem claimsTell_holds : Rows.ClaimsTellSaid := claimsTell.over
end Go.Proofs.Ytoihmfgkmndjfaa
