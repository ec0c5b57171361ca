/- A law of clock. -/
import Derived.Test.YtdddmgbbjifkdaaMKit
import Derived.Test.YtdddmgbbjifkdaaDL05
namespace Go.Proofs.YtdddmgbbjifkdaaV
set_option linter.unusedVariables false
set_option linter.unusedSimpArgs false
open Go.RowKit
theorem alive05 : L05_alive = some true := by decide +kernel
namespace L05
theorem fine_eq (t : Int) : clock_Fine t = some (decide (0 ≤ t ∧ t ≤ 1099511627776)) := by
  unfold clock_Fine clock_held_int
  simp only [Option.bind_some]
  congr 1
  rw [decide_eq_decide]
  omega
theorem tick_eq (now n : Int) (h : 0 ≤ now ∧ now ≤ 1099511627776) (hn : 0 ≤ n ∧ n ≤ 1000000) : clock_Tick now n = some (min (now + n) 1099511627776, 0, ()) := by
  unfold clock_Tick clock_later clock_held_int
  rw [fine_eq, decide_eq_true h]
  simp only [Option.bind_some, Bool.not_true, cond_false]
  rw [bif_neg (by omega), w64 (x := 1099511627776 - now) (by omega) (by omega), w64 (by omega) (by omega)]
  congr 2
  omega
theorem due_eq (now t : Int) (h : 0 ≤ now ∧ now ≤ 1099511627776) (ht : 0 ≤ t ∧ t ≤ 1099511627776) : clock_Due now t = some (decide (t ≤ now)) := by
  unfold clock_Due
  rw [fine_eq, fine_eq, decide_eq_true h, decide_eq_true ht]
  rfl
theorem left_eq (now t : Int) (h : 0 ≤ now ∧ now ≤ 1099511627776) (ht : 0 ≤ t ∧ t ≤ 1099511627776) : clock_Left now t = some (max 0 (t - now)) := by
  unfold clock_Left clock_held_int
  rw [fine_eq, fine_eq, decide_eq_true h, decide_eq_true ht]
  simp only [Option.bind_some, Bool.not_true, cond_false]
  rw [w64 (by omega) (by omega)]
  congr 1
  omega
theorem goes (now : Int) (n : List Int) (t : Int) (h0 : 0 ≤ now ∧ now ≤ 4294967295) (ha : 0 ≤ n.getD 0 0 ∧ n.getD 0 0 ≤ 65535) (hb : 0 ≤ n.getD 1 0 ∧ n.getD 1 0 ≤ 65535) (ht : 0 ≤ t ∧ t ≤ 4294967295) : L05_ClockGoes now n t = some true := by
  unfold L05_ClockGoes
  rw [show (0 : Int).toNat = 0 from rfl, show (1 : Int).toNat = 1 from rfl]
  generalize n.getD 0 0 = a at ha
  generalize n.getD 1 0 = b at hb
  rw [chk_pos (by omega), chk_pos (by omega), w64 (x := now) (by omega) (by omega), w64 (x := a) (by omega) (by omega), w64 (x := b) (by omega) (by omega), w64 (x := t) (by omega) (by omega), w64 (x := a + b) (by omega) (by omega)]
  rw [tick_eq now a (by omega) (by omega), tick_eq now (a + b) (by omega) (by omega)]
  simp only [Option.bind_some]
  obtain ⟨x, hx⟩ : ∃ x, x = min (now + a) 1099511627776 := ⟨_, rfl⟩
  rw [← hx, tick_eq x b (by omega) (by omega)]
  simp only [Option.bind_some]
  obtain ⟨y, hy⟩ : ∃ y, y = min (x + b) 1099511627776 := ⟨_, rfl⟩
  rw [← hy, show min (now + (a + b)) 1099511627776 = y by omega, due_eq x t (by omega) (by omega), due_eq y t (by omega) (by omega), left_eq x t (by omega) (by omega), left_eq y t (by omega) (by omega)]
  simp only [Option.bind_some]
  rw [bnot_pos trivial, bnot_pos trivial, bnot_pos trivial, bnot_pos trivial, bif_neg (by omega), bif_neg (by omega), w64 (x := max 0 (t - x) - b) (by omega) (by omega), alive05]
  by_cases h : t ≤ x
  · rw [decide_eq_true h, decide_eq_true (show t ≤ y by omega), decide_eq_false (show ¬ max 0 (t - x) > 0 by omega), decide_eq_true (show max 0 (t - y) = max 0 (max 0 (t - x) - b) by omega)]
    rfl
  · rw [decide_eq_false h, decide_eq_true (show max 0 (t - x) > 0 by omega), decide_eq_true (show max 0 (t - y) = max 0 (max 0 (t - x) - b) by omega)]
    rfl
end L05
theorem wfu32 {n : Int} (h : wfD (.int .u32) n) : 0 ≤ n ∧ n ≤ 4294967295 := by
  have h : (Lit.int .u32 n).wf = true := h
  simp [Lit.wf, IntKind.min, IntKind.max, IntKind.signed, IntKind.bits] at h
  omega
theorem law_L05_ClockGoes : ∀ x : ((.pair (.int .u32) (.pair (.arr 2 (.int .u16)) (.pair (.int .u32) .unit))) : Ty).den, wfD (.pair (.int .u32) (.pair (.arr 2 (.int .u16)) (.pair (.int .u32) .unit))) x → L05_ClockGoes x.1 x.2.1 x.2.2.1 = some true := by
  rintro ⟨now, n, t, _⟩ ⟨h1, h2, h3, _⟩
  exact L05.goes now n t (wfu32 h1) (u16_at h2 0) (u16_at h2 1) (wfu32 h3)
end Go.Proofs.YtdddmgbbjifkdaaV
