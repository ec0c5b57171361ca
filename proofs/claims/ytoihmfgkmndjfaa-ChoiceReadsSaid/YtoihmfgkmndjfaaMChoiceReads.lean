/- The law ChoiceReads. -/
import Derived.Test.YtoihmfgkmndjfaaMchoices
import Derived.Test.YtoihmfgkmndjfaaDChoiceReads
namespace Go.Proofs.YtoihmfgkmndjfaaV
open Go.RowKit choices
theorem law_L33_ChoiceReads : ∀ x : ((.pair .str (.pair (.int .i64) .unit)) : Ty).den, wfD (.pair .str (.pair (.int .i64) .unit)) x → L33_ChoiceReads x.1 x.2.1 = some true := by
  intro x hx
  obtain ⟨s, p, _⟩ := x
  show L33_ChoiceReads s p = some true
  unfold L33_ChoiceReads
  rw [cond_d]
  split
  · rw [alive]; rfl
  · have hs : s.size ≤ 140737488355328 := by omega
    have hl := readE_len (bt s) s.size p
    rw [read_eq s p hs, Rread_eq s p hs, Option.bind_some, Option.bind_some, back_eq _ (by omega), Option.bind_some, same_eq _ (by omega), Option.bind_some, cond_t, bif_pos rfl, bif_pos rfl, alive]
    rfl
end Go.Proofs.YtoihmfgkmndjfaaV
