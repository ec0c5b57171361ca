/- A law of phase. -/
import Derived.Test.YtdddmgbbjifkdaaMKit
import Derived.Test.YtdddmgbbjifkdaaDL20
namespace Go.Proofs.YtdddmgbbjifkdaaV
set_option linter.unusedVariables false
set_option linter.unusedSimpArgs false
open Go.RowKit
theorem alive20 : L20_alive = some true := by decide +kernel
namespace L20
theorem fine_eq (n l : Int) (h : 0 ≤ n ∧ n ≤ l ∧ 1 ≤ l ∧ l ≤ 65535) : phase_Fine n l = some true := by
  unfold phase_Fine
  rw [bif_pos (by omega), bif_pos (by omega), bif_pos (by omega), decide_eq_true (by omega)]
theorem stops (lim many : Int) (h1 : 0 ≤ lim ∧ lim ≤ 65535) (h2 : 0 ≤ many ∧ many ≤ 65535) : L20_PhaseStops lim many = some true := by
  unfold L20_PhaseStops
  rw [w64 (x := lim) (by omega) (by omega), w64 (x := many) (by omega) (by omega)]
  obtain ⟨l, hl⟩ : ∃ l, l = max 1 lim := ⟨_, rfl⟩
  obtain ⟨m, hm⟩ : ∃ m, m = min many 300 := ⟨_, rfl⟩
  rw [← hl, ← hm]
  refine loop_up (fun x => x.2) m (fun x : Int × Int => 0 ≤ x.2 ∧ x.2 ≤ m ∧ x.1 = min x.2 l) (fun _ => some true) ⟨by simp, by simp; omega, by simp; omega⟩ (by simp; omega) ?_
  rintro k ⟨n, i⟩ ⟨i0, i1, hn⟩ hk
  simp only at i0 i1 hn
  unfold L20_PhaseStops_L1
  simp only
  by_cases hi : i < m
  · have hk := hk hi
    rw [bif_pos hi]
    unfold phase_Next
    rw [fine_eq n l (by omega)]
    simp only [Option.bind_some, Bool.not_true, cond_false]
    rw [w64 (x := i + 1) (by omega) (by omega), w64 (x := n + 1) (by omega) (by omega)]
    by_cases h : n = l
    · rw [bif_pos h]
      simp only [Option.bind_some]
      rw [decide_eq_false (show ¬ i < l by omega)]
      exact hk (n, i + 1) ⟨by simp only; omega, by simp only; omega, by simp only; omega⟩ rfl
    · rw [bif_neg h]
      simp only [Option.bind_some]
      unfold phase_Left
      rw [decide_eq_true (show i < l by omega), fine_eq n l (by omega), fine_eq (n + 1) l (by omega)]
      simp only [Option.bind_some, Bool.not_true, cond_false]
      rw [w64 (x := l - n) (by omega) (by omega), w64 (x := l - (n + 1)) (by omega) (by omega), w64 (x := l - n - 1) (by omega) (by omega), decide_eq_true (show l - (n + 1) = l - n - 1 by omega)]
      exact hk (n + 1, i + 1) ⟨by simp only; omega, by simp only; omega, by simp only; omega⟩ rfl
  · rw [bif_neg hi]
    unfold L20_PhaseStops_J1
    rw [w64 (x := many) (by omega) (by omega), ← hm, bif_pos (by omega), alive20]
    rfl
end L20
theorem law_L20_PhaseStops : ∀ x : ((.pair (.int .u16) (.pair (.int .u16) .unit)) : Ty).den, wfD (.pair (.int .u16) (.pair (.int .u16) .unit)) x → L20_PhaseStops x.1 x.2.1 = some true :=
  fun x hx => L20.stops x.1 x.2.1 (wfu16 hx.1) (wfu16 hx.2.1)
end Go.Proofs.YtdddmgbbjifkdaaV
