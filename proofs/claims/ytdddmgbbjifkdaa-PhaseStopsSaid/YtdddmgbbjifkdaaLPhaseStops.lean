/- becket/becketlaw20.PhaseStops: for every input the law returns true, and each argument reads behind the call as before. No condition. -/
import Derived.Test.YtdddmgbbjifkdaaRows
import Derived.Test.YtdddmgbbjifkdaaVcG2
import Derived.Test.YtdddmgbbjifkdaaCL20
import Derived.Test.YtdddmgbbjifkdaaML20
namespace Go.Proofs.Ytdddmgbbjifkdaa.phaseStops
open Go.ChangeShapes Go.WideShapes Go.ChangeAt Go.RowKit Go.Proofs.YtdddmgbbjifkdaaV
set_option linter.unusedVariables false
theorem own : ownKnob Try.prog.godebug = none := by kernel_rfl
set_option maxRecDepth 100000 in
theorem lifted (os : Os) (started : os.Started) (H : Type) (enc : TypeId × Value → H) :
    ReturnsInHanded {} Try.checked os 8 .any (Rows.phaseStopsSpec.pre6 enc Try.prog Try.f8 Rows.phaseStopsRow.domain false) (Rows.phaseStopsSpec.post enc Try.prog Try.f8 false true false false) := by
  refine returnsInHanded_of_change_sized (C := Try.checked) own started (by kernel_rfl) Try.func8
    (ChangeSpec.witness6 (enc := enc) (C := Try.checked) false ⟨#[], #[.int .u16 0, .int .u16 0], []⟩ 12 (by kernel_rfl) (by kernel_rfl) (by kernel_rfl) (by kernel_rfl)) ?_
  intro W base args ds gs before hval0 hW hcnd hsz0 _
  refine row_of (C := Try.checked) (s := Rows.phaseStopsSpec) (c := bodyOf Try.f8) (tr := 4) c_L20_PhaseStops Try.func8 rfl (by decide) (by kernel_rfl) (by kernel_rfl) (by kernel_rfl) rfl Try.underlying4 rfl ?_ law_L20_PhaseStops W base args ds gs before hval0 hW hsz0
  intro ds hl
  match ds, hl with
  | [d1, d2], _ => exact ⟨rfl, rfl, rfl⟩
theorem over : Rows.phaseStopsRow.holds Try.pinned (OpenSpec.ofChange Rows.phaseStopsSpec) :=
  OpenClaim.holds_of_wide 8 Try.f8 rfl rfl rfl rfl rfl rfl rfl ⟨rfl, rfl, rfl, rfl, rfl⟩ rfl rfl rfl rfl rfl (by kernel_rfl) Try.func8 (by kernel_rfl)
    (of_decide_eq_true (by kernel_rfl)) (by unfold Func.isWrapper; first | (rw [if_pos (by decide +kernel)]; kernel_rfl) | (rw [if_neg (by decide +kernel)]; exact ⟨rfl, rfl⟩))
    (fun os started H enc _ => lifted os started H enc)
end Go.Proofs.Ytdddmgbbjifkdaa.phaseStops
namespace Go.Proofs.Ytdddmgbbjifkdaa
/-- The row, under a short name, for the claim. -/
theorem phaseStops_holds : Rows.PhaseStopsSaid := phaseStops.over
end Go.Proofs.Ytdddmgbbjifkdaa
