/- PoisonTells: what package poison tells of any level and strength (Raise, Hit, Fine) is what the reference tells; proved for all int arguments, no condition beside their type. -/
import Derived.Test.YtdddmgbbjifkdaaPPoisonTellsx2
import Derived.Test.YtdddmgbbjifkdaaKit
import Derived.OpenShut
namespace Go.Proofs.Ytdddmgbbjifkdaa.Pure
open Go.RowKit Go.Proofs.Ytdddmgbbjifkdaa.PPoisonTells Go.Proofs.Ytdddmgbbjifkdaa.Kit Go.Proofs.YtdddmgbbjifkdaaW.PrintWords Go.Proofs.YtdddmgbbjifkdaaW.PrintLast Go.Proofs.YtdddmgbbjifkdaaW.PrintMore

theorem fine_eq (a : Int) : poison_Fine.f a = some (decide (0 ≤ a ∧ a ≤ 255)) := by
  unfold poison_Fine.f
  by_cases h : a ≥ 0
  · rw [if_pos h]; simp [h]
  · rw [if_neg h]; simp; omega

theorem rfine_eq (a : Int) : becketref16_Fine.f a = some (decide (0 ≤ a ∧ a ≤ 255)) := fine_eq a

theorem raise_eq (a b : Int) : poison_Raise.f a b = some (if 0 ≤ a ∧ a ≤ 255 ∧ 1 ≤ b ∧ b ≤ 255 then (if b > a then (b, 0) else (a, 0)) else (0, 8)) := by
  unfold poison_Raise.f mx
  rw [fine_eq, fine_eq]
  simp only [Option.bind_some, decide_eq_true_eq]
  repeat' split
  all_goals first | rfl | (exfalso; omega)

theorem rraise_eq (k : Nat) (a b : Int) : becketref16_Raise.f (k + 1) a b = some (if 0 ≤ a ∧ a ≤ 255 ∧ 1 ≤ b ∧ b ≤ 255 then (if b > a then (b, 0) else (a, 0)) else (0, 8)) := by
  unfold becketref16_Raise.f
  rw [rfine_eq]
  simp only [Option.bind_some, decide_eq_true_eq, becketref16_Raise.j0, if_true]
  repeat' split
  all_goals first | rfl | (exfalso; omega)

theorem PoisonTells : becketlaw16_PoisonTells.Pure := by
  intro a0 a1 h0 h1
  refine ⟨60, ?_⟩
  have al : becketlaw16_alive.f 60 = some true := by decide +kernel
  have hH : poison_Hit.f a0 a1 = becketref16_Hit.f a0 a1 := rfl
  have hHs : ∃ r, becketref16_Hit.f a0 a1 = some r := by
    unfold becketref16_Hit.f
    simp only [rfine_eq, Option.bind_some]
    repeat' split
    all_goals exact ⟨_, rfl⟩
  obtain ⟨r, hr⟩ := hHs
  unfold becketlaw16_PoisonTells.f
  rw [raise_eq, rraise_eq 59, hH, hr, fine_eq, rfine_eq, al]
  simp

end Go.Proofs.Ytdddmgbbjifkdaa.Pure
