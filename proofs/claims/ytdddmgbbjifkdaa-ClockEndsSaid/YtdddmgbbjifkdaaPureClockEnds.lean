/- ClockEnds: at the last instant no tick goes on, and each instant is due; proved for all uint64 arguments, no condition beside their type. -/
import Derived.Test.YtdddmgbbjifkdaaPClockEndsx1
import Derived.Test.YtdddmgbbjifkdaaKit
import Derived.OpenShut
namespace Go.Proofs.Ytdddmgbbjifkdaa.Pure
open Go.RowKit Go.Proofs.Ytdddmgbbjifkdaa.PClockEnds Go.Proofs.Ytdddmgbbjifkdaa.Kit Go.Proofs.YtdddmgbbjifkdaaW.PrintWords Go.Proofs.YtdddmgbbjifkdaaW.PrintLast Go.Proofs.YtdddmgbbjifkdaaW.PrintMore

theorem fine_eq (a : Int) : clock_Fine.f a = some (decide (0 ≤ a ∧ a ≤ 1099511627776)) := by
  unfold clock_Fine.f clock_held_int.f mx mn
  simp only [Option.bind_some, Option.some.injEq]
  rw [Bool.eq_iff_iff]
  simp only [beq_iff_eq, decide_eq_true_eq]
  split <;> split <;> omega

theorem later_eq (a d : Int) (h : 0 ≤ a ∧ a ≤ 1099511627776) : clock_later.f a d = some (if d < 0 then a else if d > 1099511627776 - a then 1099511627776 else a + d) := by
  unfold clock_later.f clock_held_int.f mx mn
  simp only [Option.bind_some, Option.some.injEq]
  rw [wr (x := 1099511627776 - a) (by omega)]
  repeat' split
  all_goals (rw [wr (by omega)]; try omega)

theorem due_eq (a b : Int) (h : 0 ≤ a ∧ a ≤ 1099511627776) (h' : 0 ≤ b ∧ b ≤ 1099511627776) : clock_Due.f a b = some (decide (b ≤ a)) := by
  unfold clock_Due.f
  rw [fine_eq, fine_eq]
  simp [h, h']

theorem left_eq (a b : Int) (h : 0 ≤ a ∧ a ≤ 1099511627776) (h' : 0 ≤ b ∧ b ≤ 1099511627776) : clock_Left.f a b = some (if b ≤ a then 0 else b - a) := by
  unfold clock_Left.f clock_held_int.f mx mn
  rw [fine_eq, fine_eq, wr (x := b - a) (by omega)]
  simp only [h, h', and_self, decide_true, Option.bind_some, if_true, Option.some.injEq]
  repeat' split
  all_goals omega

theorem ClockEnds : becketlaw05_ClockEnds.Pure := by
  intro a0 a1 h0 h1
  have b0 := bounds_u64 h0
  have b1 := bounds_u64 h1
  have al : becketlaw05_alive.f = some true := by decide +kernel
  have e1 : Int.tmod a1 1099511627777 = a1 % 1099511627777 := Int.tmod_eq_emod_of_nonneg (by omega)
  have m1 : 0 ≤ a1 % 1099511627777 ∧ a1 % 1099511627777 < 1099511627777 := ⟨Int.emod_nonneg _ (by omega), Int.emod_lt_of_pos _ (by omega)⟩
  have w0 : wrap64 (a0 / 2) = a0 / 2 := wr (by omega)
  have e2 : Int.tmod (a0 / 2) 1000 = (a0 / 2) % 1000 := Int.tmod_eq_emod_of_nonneg (by omega)
  unfold becketlaw05_ClockEnds.f
  rw [w0, e1, e2, wr (x := a1 % 1099511627777) (by omega), wr (x := 1099511627776 + (a0 / 2) % 1000) (by omega)]
  generalize hd : a0 / 2 = d
  generalize ht : a1 % 1099511627777 = t at *
  have hd0 : 0 ≤ d := by omega
  have hT : clock_Tick.f 1099511627776 d = some (1099511627776, 0) := by
    unfold clock_Tick.f
    rw [fine_eq, later_eq _ _ (by omega)]
    simp only [Option.bind_some]
    rw [if_pos (by decide), if_neg (by omega), if_neg (by omega)]
    by_cases h : d > 1099511627776 - 1099511627776
    · rw [if_pos h]
    · rw [if_neg h, show d = 0 by omega]; rfl
  have hA : clock_After.f t (1099511627776 + d % 1000) = some (1099511627776, 0) := by
    unfold clock_After.f
    rw [fine_eq, later_eq _ _ (by omega)]
    simp only [Option.bind_some]
    rw [if_pos (by rw [decide_eq_true_eq]; omega), if_neg (by omega)]
    by_cases h : 1099511627776 + d % 1000 > 1099511627776 - t
    · rw [if_pos h]
    · rw [if_neg h, show t + (1099511627776 + d % 1000) = 1099511627776 by omega]
  rw [hT, hA]
  simp only [Option.bind_some, if_true]
  rw [due_eq _ _ (by omega) (by omega), left_eq _ _ (by omega) (by omega), left_eq _ _ (by omega) (by omega), al]
  simp only [Option.bind_some]
  rw [if_pos (by rw [decide_eq_true_eq]; omega), if_pos (by rw [if_pos (by omega)])]
  rw [if_pos]
  rw [wr (by omega)]
  split <;> omega

end Go.Proofs.Ytdddmgbbjifkdaa.Pure
