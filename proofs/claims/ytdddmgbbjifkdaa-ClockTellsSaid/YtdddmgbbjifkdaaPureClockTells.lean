/- ClockTells: for every instant and every number, what package clock tells (Fine, Tick, After, Due, Left) is what the reference tells; proved for all int arguments, no condition beside their type. -/
import Derived.Test.YtdddmgbbjifkdaaPClockTellsx1
import Derived.Test.YtdddmgbbjifkdaaKit
import Derived.OpenShut
namespace Go.Proofs.Ytdddmgbbjifkdaa.Pure
open Go.RowKit Go.Proofs.Ytdddmgbbjifkdaa.PClockTells Go.Proofs.Ytdddmgbbjifkdaa.Kit Go.Proofs.YtdddmgbbjifkdaaW.PrintWords Go.Proofs.YtdddmgbbjifkdaaW.PrintLast Go.Proofs.YtdddmgbbjifkdaaW.PrintMore



theorem fine_eq (a : Int) : clock_Fine.f a = some (decide (0 ≤ a ∧ a ≤ 1099511627776)) := by
  unfold clock_Fine.f clock_held_int.f mx mn
  simp only [Option.bind_some, Option.some.injEq]
  rw [Bool.eq_iff_iff]
  simp only [beq_iff_eq, decide_eq_true_eq]
  split <;> split <;> omega

theorem rfine_eq (a : Int) : becketref05_Fine.f a = some (decide (0 ≤ a ∧ a ≤ 1099511627776)) := by
  unfold becketref05_Fine.f
  by_cases h : a ≥ 0
  · rw [if_pos h]; simp [h]
  · rw [if_neg h]; simp; omega

theorem later_eq (a d : Int) (h : 0 ≤ a ∧ a ≤ 1099511627776) : clock_later.f a d = some (if d < 0 then a else if d > 1099511627776 - a then 1099511627776 else a + d) := by
  unfold clock_later.f clock_held_int.f mx mn
  simp only [Option.bind_some, Option.some.injEq]
  rw [wr (x := 1099511627776 - a) (by omega)]
  repeat' split
  all_goals (rw [wr (by omega)]; try omega)

theorem tick_eq (a d : Int) : clock_Tick.f a d = some (if 0 ≤ a ∧ a ≤ 1099511627776 then (if d < 0 then (0, 1) else if d > 1099511627776 - a then (1099511627776, 0) else (a + d, 0)) else (0, 8)) := by
  unfold clock_Tick.f
  rw [fine_eq]
  simp only [Option.bind_some, decide_eq_true_eq]
  by_cases h : 0 ≤ a ∧ a ≤ 1099511627776
  · rw [if_pos h, if_pos h]
    by_cases h2 : d < 0
    · rw [if_pos h2, if_pos h2]
    · rw [if_neg h2, if_neg h2, later_eq a d h, if_neg h2]; simp only [Option.bind_some]; split <;> rfl
  · rw [if_neg h, if_neg h]

theorem rtick_eq (a d : Int) (hd : -9223372036854775808 ≤ d ∧ d ≤ 9223372036854775807) : becketref05_Tick.f a d = some (if 0 ≤ a ∧ a ≤ 1099511627776 then (if d < 0 then (0, 1) else if d > 1099511627776 - a then (1099511627776, 0) else (a + d, 0)) else (0, 8)) := by
  unfold becketref05_Tick.f
  rw [rfine_eq]
  simp only [Option.bind_some, decide_eq_true_eq]
  by_cases h : 0 ≤ a ∧ a ≤ 1099511627776
  · rw [if_pos h, if_pos h, wr (x := 1099511627776 - a) (by omega)]
    by_cases h2 : d < 0
    · rw [if_pos h2, if_pos h2]
    · rw [if_neg h2, if_neg h2]
      by_cases h3 : d > 1099511627776 - a
      · rw [if_pos h3, if_pos h3]
      · rw [if_neg h3, if_neg h3, wr (by omega)]
  · rw [if_neg h, if_neg h]

theorem ClockTells : becketlaw05_ClockTells.Pure := by
  intro a0 a1 h0 h1
  have b0 := bounds_i64 h0
  have b1 := bounds_i64 h1
  have al : becketlaw05_alive.f = some true := by decide +kernel
  have hA : clock_After.f a0 a1 = becketref05_After.f a0 a1 := by
    unfold clock_After.f becketref05_After.f
    rw [fine_eq, rfine_eq]
    simp only [Option.bind_some, decide_eq_true_eq]
    by_cases h : 0 ≤ a0 ∧ a0 ≤ 1099511627776
    · rw [if_pos h, if_pos h, later_eq _ _ h, rtick_eq _ _ b1, if_pos h]
      by_cases h2 : a1 < 0
      · rw [if_pos h2, if_pos h2]; rfl
      · rw [if_neg h2, if_neg h2, if_neg h2]; simp only [Option.bind_some]; split <;> rfl
    · rw [if_neg h, if_neg h]
  have hAs : ∃ r, becketref05_After.f a0 a1 = some r := by
    unfold becketref05_After.f
    rw [rfine_eq, rtick_eq _ _ b1]
    simp only [Option.bind_some]
    repeat' split
    all_goals exact ⟨_, rfl⟩
  have hD : clock_Due.f a0 a1 = becketref05_Due.f a0 a1 := by
    unfold clock_Due.f becketref05_Due.f
    simp only [fine_eq, rfine_eq, Option.bind_some]
  have hDs : ∃ r, becketref05_Due.f a0 a1 = some r := by
    unfold becketref05_Due.f
    simp only [rfine_eq, Option.bind_some]
    repeat' split
    all_goals exact ⟨_, rfl⟩
  have hL : clock_Left.f a0 a1 = becketref05_Left.f a0 a1 := by
    unfold clock_Left.f becketref05_Left.f clock_held_int.f mx mn
    simp only [fine_eq, rfine_eq, Option.bind_some, decide_eq_true_eq]
    by_cases h : 0 ≤ a0 ∧ a0 ≤ 1099511627776
    · rw [if_pos h, if_pos h]
      by_cases h2 : 0 ≤ a1 ∧ a1 ≤ 1099511627776
      · rw [if_pos h2, if_pos h2, wr (x := a1 - a0) (by omega)]
        repeat' split
        all_goals first | rfl | (exfalso; omega) | (congr 1; omega)
      · rw [if_neg h2, if_neg h2]
    · rw [if_neg h, if_neg h]
  have hLs : ∃ r, becketref05_Left.f a0 a1 = some r := by
    unfold becketref05_Left.f
    simp only [rfine_eq, Option.bind_some]
    repeat' split
    all_goals exact ⟨_, rfl⟩
  obtain ⟨rA, hAs⟩ := hAs
  obtain ⟨rD, hDs⟩ := hDs
  obtain ⟨rL, hLs⟩ := hLs
  unfold becketlaw05_ClockTells.f
  rw [tick_eq, rtick_eq _ _ b1, hA, hD, hL, hAs, hDs, hLs, fine_eq, rfine_eq, al]
  simp


end Go.Proofs.Ytdddmgbbjifkdaa.Pure
