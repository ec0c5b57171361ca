/- The law ChoiceTells. -/
import Derived.Test.YtoihmfgkmndjfaaVcG2
import Derived.Test.YtoihmfgkmndjfaaMchoices
import Derived.Test.YtoihmfgkmndjfaaDChoiceTells
namespace Go.Proofs.YtoihmfgkmndjfaaV
open Go.RowKit choices
theorem law_L33_ChoiceTells : ∀ x : ((.pair (.sl (.pair (.int .i64) (.pair (.int .i64) (.pair (.int .i64) .unit)))) (.pair (.pair (.int .i64) (.pair (.int .i64) (.pair (.int .i64) .unit))) .unit)) : Ty).den, wfD (.pair (.sl (.pair (.int .i64) (.pair (.int .i64) (.pair (.int .i64) .unit)))) (.pair (.pair (.int .i64) (.pair (.int .i64) (.pair (.int .i64) .unit))) .unit)) x → bulkT (.pair (.sl (.pair (.int .i64) (.pair (.int .i64) (.pair (.int .i64) .unit)))) (.pair (.pair (.int .i64) (.pair (.int .i64) (.pair (.int .i64) .unit))) .unit)) x → L33_ChoiceTells x.1 x.2.1 = some true := by
  intro x hx hb
  obtain ⟨a, c, _⟩ := x
  have key : ∀ (a : List C) (c : C), a.length * 24 ≤ 140737488355328 → L33_ChoiceTells a c = some true := by
    intro a c hl
    unfold L33_ChoiceTells
    simp only [to_eq a (.inr hl), all_eq, Rall_eq, bytes_eq, Rbytes_eq, check_eq, Rcheck_eq, alive, Option.bind_some, decide_true, cond_true, beq_self_eq_true]
    cases decide ((a.length : Int) > 100) <;> cases decide ((a.length : Int) ≤ 2000) <;> rfl
  refine key a c ?_
  have h1 := hb.1
  have h2 : List.length a * 24 ≤ reachBytes := h1
  have h3 : reachBytes = 140737488351232 := rfl
  omega
end Go.Proofs.YtoihmfgkmndjfaaV
