/- PhaseTells: for every two numbers, what package phase tells (Fine, Next, Left) is what the reference tells; proved for all int arguments, no condition beside their type. -/
import Derived.Test.YtdddmgbbjifkdaaPPhaseTellsx1
import Derived.Test.YtdddmgbbjifkdaaKit
import Derived.OpenShut
namespace Go.Proofs.Ytdddmgbbjifkdaa.Pure
open Go.RowKit Go.Proofs.Ytdddmgbbjifkdaa.PPhaseTells Go.Proofs.Ytdddmgbbjifkdaa.Kit Go.Proofs.YtdddmgbbjifkdaaW.PrintWords Go.Proofs.YtdddmgbbjifkdaaW.PrintLast Go.Proofs.YtdddmgbbjifkdaaW.PrintMore

theorem fine_eq (a b : Int) : phase_Fine.f a b = becketref20_Fine.f a b := rfl

theorem fine_some (a b : Int) : ∃ r, becketref20_Fine.f a b = some r := by
  unfold becketref20_Fine.f
  repeat' split
  all_goals exact ⟨_, rfl⟩

theorem PhaseTells : becketlaw20_PhaseTells.Pure := by
  intro a0 a1 h0 h1
  refine ⟨10, ?_⟩
  have al : becketlaw20_alive.f 10 = some true := by decide +kernel
  obtain ⟨r, hr⟩ := fine_some a0 a1
  have hN : phase_Next.f a0 a1 = becketref20_Next.f a0 a1 := rfl
  have hNs : ∃ r, becketref20_Next.f a0 a1 = some r := by
    unfold becketref20_Next.f; rw [hr]; simp only [Option.bind_some]
    repeat' split
    all_goals exact ⟨_, rfl⟩
  have hL : phase_Left.f a0 a1 = becketref20_Left.f a0 a1 := rfl
  have hLs : ∃ r, becketref20_Left.f a0 a1 = some r := by
    unfold becketref20_Left.f; rw [hr]; simp only [Option.bind_some]
    repeat' split
    all_goals exact ⟨_, rfl⟩
  obtain ⟨rN, hNs⟩ := hNs
  obtain ⟨rL, hLs⟩ := hLs
  unfold becketlaw20_PhaseTells.f
  rw [hN, hL, fine_eq, hr, hNs, hLs, al]
  simp

end Go.Proofs.Ytdddmgbbjifkdaa.Pure
