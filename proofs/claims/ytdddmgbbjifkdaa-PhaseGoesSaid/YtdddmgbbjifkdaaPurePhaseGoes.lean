/- PhaseGoes: the phase behind any number of next ones, and how many those were, are what the reference tells; proved for all int arguments, no condition beside their type. -/
import Derived.Test.YtdddmgbbjifkdaaPPhaseGoesx1
import Derived.Test.YtdddmgbbjifkdaaKit
import Derived.OpenShut
namespace Go.Proofs.Ytdddmgbbjifkdaa.Pure
open Go.RowKit Go.Proofs.Ytdddmgbbjifkdaa.PPhaseGoes Go.Proofs.Ytdddmgbbjifkdaa.Kit Go.Proofs.YtdddmgbbjifkdaaW.PrintWords Go.Proofs.YtdddmgbbjifkdaaW.PrintLast Go.Proofs.YtdddmgbbjifkdaaW.PrintMore

theorem goes_loop (limit : Int) (hl : 1 ≤ limit ∧ limit ≤ 65535) (d : Nat) : ∀ (n done m i : Int), 0 ≤ n → 0 ≤ i → i ≤ m → m ≤ 65535 → 0 ≤ done → done ≤ i → m - i = d → n + (m - i) ≤ limit →
    Ev (fun k => phase_Goes.l0 k n limit done m i) (n + (m - i), done + (m - i)) := by
  induction d with
  | zero =>
    intro n done m i h0 h1 h2 h3 h4 h5 h6 h7
    refine ev_succ ?_
    simp only [phase_Goes.l0]
    rw [show m - i = 0 by omega]
    refine ev_if_neg (by omega) ?_
    rw [show n + 0 = n by omega, show done + 0 = done by omega]
    exact Ev.now _
  | succ d ih =>
    intro n done m i h0 h1 h2 h3 h4 h5 h6 h7
    refine ev_succ ?_
    simp only [phase_Goes.l0]
    have hN : phase_Next.f n limit = some (n + 1, 0) := by
      unfold phase_Next.f phase_Fine.f
      rw [if_pos (by omega), if_pos (by omega), if_pos (by omega)]
      simp only [Option.bind_some]
      rw [if_pos (by rw [decide_eq_true_eq]; omega), if_neg (by omega), wr (by omega)]
    simp only [hN, Option.bind_some]
    rw [wr (x := done + 1) (by omega), wr (x := i + 1) (by omega)]
    have h := ih (n + 1) (done + 1) m (i + 1) (by omega) (by omega) (by omega) (by omega) (by omega) (by omega) (by omega) (by omega)
    rw [show n + 1 + (m - (i + 1)) = n + (m - i) by omega, show done + 1 + (m - (i + 1)) = done + (m - i) by omega] at h
    simp only [show i < m by omega, if_true]
    exact h

theorem PhaseGoes : becketlaw20_PhaseGoes.Pure := by
  intro a0 a1 a2 h0 h1 h2
  have b0 := bounds_i64 h0
  have b1 := bounds_i64 h1
  have b2 := bounds_i64 h2
  have al : becketlaw20_alive.f 10 = some true := by decide +kernel
  have hal := Ev.of becketlaw20_alive.mono al
  have hfine : becketref20_Fine.f a0 a1 = phase_Fine.f a0 a1 := rfl
  have hleft : becketref20_Left.f a0 a1 = phase_Left.f a0 a1 := rfl
  have hf : phase_Fine.f a0 a1 = some (decide (1 ≤ a1 ∧ a1 ≤ 65535 ∧ 0 ≤ a0 ∧ a0 ≤ a1)) := by
    unfold phase_Fine.f
    repeat' split
    all_goals first | (simp; omega) | (simp_all; omega) | simp_all
  refine Ev.rounds ?_
  unfold becketlaw20_PhaseGoes.f
  by_cases hF : 1 ≤ a1 ∧ a1 ≤ 65535 ∧ 0 ≤ a0 ∧ a0 ≤ a1
  · rw [decide_eq_true hF] at hf
    have hL : phase_Left.f a0 a1 = some (a1 - a0) := by
      unfold phase_Left.f
      rw [hf]; simp only [Option.bind_some, if_true]; rw [wr (by omega)]
    generalize hm : mx 0 (mn a2 (a1 - a0)) = m
    have hm' : 0 ≤ m ∧ m ≤ a1 - a0 := by subst hm; unfold mx mn; repeat' split
                                         all_goals omega
    have hg : Ev (fun k => phase_Goes.f k a0 a1 a2) (a0 + m, m) := by
      unfold phase_Goes.f
      simp only [hf, hL, Option.bind_some, if_true, hm]
      have h := goes_loop a1 (by omega) m.toNat a0 0 m 0 (by omega) (by omega) (by omega) (by omega) (by omega) (by omega) (by omega) (by omega)
      simpa using h
    have hr : becketref20_Goes.f a0 a1 a2 = some (a0 + m, m) := by
      unfold becketref20_Goes.f
      rw [hleft, hfine, hL, hf]
      simp only [Option.bind_some, if_true, hm]
      rw [wr (by omega)]
    refine ev_bind hg ?_
    simp only [hr, Option.bind_some, if_true]
    exact ev_bind hal (Ev.now _)
  · rw [decide_eq_false hF] at hf
    have hg : ∀ k, phase_Goes.f k a0 a1 a2 = some (0, 0) := by
      intro k
      unfold phase_Goes.f
      simp [hf]
    have hr : becketref20_Goes.f a0 a1 a2 = some (0, 0) := by
      unfold becketref20_Goes.f
      rw [hleft, hfine, hf]
      unfold phase_Left.f
      simp [hf]
    simp only [hg, hr, Option.bind_some, if_true]
    exact ev_bind hal (Ev.now _)

end Go.Proofs.Ytdddmgbbjifkdaa.Pure
