/- The laws of choose. -/
import Derived.Test.YtoihmfgkmndjfaaMchoose
import Derived.Test.YtoihmfgkmndjfaaDL27
namespace Go.Proofs.YtoihmfgkmndjfaaV
open Go.RowKit choose
theorem alive27 : L27_alive = some true := by decide +kernel
theorem law_L27_ChooseTells : ∀ x : ((.pair (.pair (.int .i64) (.pair (.int .i64) (.pair (.int .i64) (.pair (.sl (.int .i64)) .unit)))) (.pair (.int .i64) .unit)) : Ty).den, wfD (.pair (.pair (.int .i64) (.pair (.int .i64) (.pair (.int .i64) (.pair (.sl (.int .i64)) .unit)))) (.pair (.int .i64) .unit)) x → L27_ChooseTells x.1 x.2.1 = some true := by
  rintro ⟨c, w, _⟩ ⟨⟨_, _, _, hl, _⟩, _⟩
  have hl : c.2.2.2.1.length ≤ 140737488355328 := hl.1
  unfold L27_ChooseTells
  simp only [alive27, choose_eq _ _ hl, rchoose_eq _ _ hl, fine_eq _ hl, rfine_eq _ hl, turn_eq, rturn_eq, Option.bind_some, beq_self_eq_true, cond_true, decide_true]
  simp
end Go.Proofs.YtoihmfgkmndjfaaV
