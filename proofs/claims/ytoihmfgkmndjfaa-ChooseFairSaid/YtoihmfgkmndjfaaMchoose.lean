/- What the functions of choose and of becketref27 answer. -/
import Derived.Test.YtoihmfgkmndjfaaMKit
import Derived.Test.YtoihmfgkmndjfaaDchoose
import Derived.Test.YtoihmfgkmndjfaaDR27
namespace Go.Proofs.YtoihmfgkmndjfaaV
open Go.RowKit
namespace choose
abbrev Ch := Int × Int × Int × List Int × Unit
/-- Each is above the last, and a guard. -/
def okFrom (n : Int) : Int → List Int → Bool
  | _, [] => true
  | l, x :: xs => decide (l < x ∧ 0 ≤ x ∧ x < n) && okFrom n x xs
def fine (c : Ch) : Bool := decide (0 ≤ c.1 ∧ c.1 ≤ 2 ∧ 1 ≤ c.2.1 ∧ c.2.1 ≤ 6 ∧ 0 ≤ c.2.2.1 ∧ c.2.2.1 < c.2.1) && okFrom c.2.1 (-1) c.2.2.2.1

theorem guard_eq (a n : Int) : choose_guard a n = some (decide (1 ≤ n ∧ n ≤ 6 ∧ 0 ≤ a ∧ a < n)) := by
  unfold choose_guard
  simp only [Bool.cond_decide]
  repeat' split
  all_goals (congr 1; first | (rw [decide_eq_decide]; omega) | (symm; apply decide_eq_false; omega))
theorem fine_eq (c : Ch) (hl : c.2.2.2.1.length ≤ 140737488355328) : choose_Fine c = some (fine c) := by
  obtain ⟨m, n, t, xs, u⟩ := c
  have hl : xs.length ≤ 140737488355328 := hl
  unfold choose_Fine
  simp only [guard_eq, Option.bind_some, Bool.cond_decide, Bool.cond_not]
  have key : 1 ≤ n → n ≤ 6 → loop (choose_Fine_L1 (xs.length : Int) (m, n, t, xs, u)) (-1, 0) = some (okFrom n (-1) xs) := by
    intro hn hn6
    refine (loop_up (fun x => x.2) xs.length (fun x : Int × Int => 0 ≤ x.2) (fun x => some (okFrom n x.1 (xs.drop x.2.toNat))) (by simp) (by simp; omega) ?_).trans (by simp)
    rintro k ⟨l, j⟩ (h0 : 0 ≤ j) hk
    unfold choose_Fine_L1
    by_cases hj : j < (xs.length : Int)
    · have hk := hk hj
      rw [bif_pos hj, chk_at h0 hj, drop_at (d := 0) h0 hj]
      simp only [guard_eq, Option.bind_some, Bool.cond_decide, Bool.cond_not, okFrom]
      rw [w64 (by omega) (by omega), hk _ (show 0 ≤ j + 1 by omega) rfl]
      generalize xs.getD j.toNat 0 = x
      split
      · rw [decide_eq_false (by omega)]; rfl
      · split
        · rename_i h1 h2
          rw [decide_eq_true (by omega)]; rfl
        · rw [decide_eq_false (by omega)]; rfl
    · rw [bif_neg hj, drop_end hj]; rfl
  unfold fine
  simp only
  by_cases h : 0 ≤ m ∧ m ≤ 2 ∧ 1 ≤ n ∧ n ≤ 6 ∧ 0 ≤ t ∧ t < n
  · rw [decide_eq_true h, if_neg (by omega), if_neg (by omega), if_pos (by omega), key (by omega) (by omega)]; rfl
  · rw [decide_eq_false h]
    repeat' split
    all_goals first | rfl | omega
theorem rfine_eq (c : Ch) (hl : c.2.2.2.1.length ≤ 140737488355328) : R27_Fine c = some (fine c) := by
  obtain ⟨m, n, t, xs, u⟩ := c
  have hl : xs.length ≤ 140737488355328 := hl
  unfold R27_Fine
  simp only [Bool.cond_decide]
  have key : loop (R27_Fine_L1 (m, n, t, xs, u)) 0 = some (okFrom n (-1) xs) := by
    refine (loop_up (fun j => j) xs.length (fun j => 0 ≤ j) (fun j => some (okFrom n (if j = 0 then -1 else xs.getD (j - 1).toNat 0) (xs.drop j.toNat))) (by simp) (by simp; omega) ?_).trans (by simp)
    intro k j (h0 : 0 ≤ j) hk
    unfold R27_Fine_L1
    by_cases hj : j < (xs.length : Int)
    · have hk := hk hj (j + 1) (by omega) rfl
      rw [if_neg (by omega), Int.add_sub_cancel] at hk
      simp only
      rw [bif_pos hj, chk_at h0 hj, drop_at (d := 0) h0 hj, w64 (x := j + 1) (by omega) (by omega), w64 (x := j - 1) (by omega) (by omega), hk]
      simp only [chk_at h0 hj, okFrom, Bool.cond_decide]
      by_cases hz : j = 0
      · subst hz
        simp only [if_true]
        repeat' split
        all_goals first | omega | (rw [decide_eq_false (by omega)]; rfl) | (rw [decide_eq_true (by omega)]; rfl)
      · rw [if_pos (show j > 0 by omega), if_neg hz, chk_pos (by omega)]
        repeat' split
        all_goals first | (rw [decide_eq_false (by omega)]; rfl) | (rw [decide_eq_true (by omega)]; rfl)
    · simp only
      rw [bif_neg hj, drop_end hj]; rfl
  unfold fine
  simp only
  by_cases h : 0 ≤ m ∧ m ≤ 2 ∧ 1 ≤ n ∧ n ≤ 6 ∧ 0 ≤ t ∧ t < n
  · rw [decide_eq_true h, if_neg (by omega), if_neg (by omega), if_neg (by omega), if_neg (by omega), if_neg (by omega), if_neg (by omega), key]; rfl
  · rw [decide_eq_false h]
    repeat' split
    all_goals first | rfl | omega
theorem tmod_pos {w n : Int} (hn : 0 < n) : -n < Int.tmod w n ∧ Int.tmod w n < n ∧ (if Int.tmod w n < 0 then Int.tmod w n + n else Int.tmod w n) = w % n := by
  have h1 := Int.emod_nonneg w (show n ≠ 0 by omega)
  have h2 := Int.emod_lt_of_pos w hn
  rw [Int.tmod_eq_emod]
  split <;> split <;> omega
theorem tmod2 {w n : Int} (hn : 0 < n) : Int.tmod (Int.tmod w n + n) n = w % n := by
  obtain ⟨h1, h2, h3⟩ := tmod_pos (w := w) hn
  rw [Int.tmod_eq_emod_of_nonneg (by omega), Int.add_emod_right]
  split at h3
  · rw [← h3, ← Int.add_emod_right, Int.emod_eq_of_lt (by omega) (by omega)]
  · rw [Int.emod_eq_of_lt (by omega) (by omega)]; exact h3
/-- Which one is taken. -/
def ch (c : Ch) (w : Int) : Int × Int × Unit :=
  if fine c then
    if c.2.2.2.1.length = 0 then (0, 6, ()) else
    if c.1 = 1 then ((c.2.2.2.1.find? fun x => decide (x ≥ c.2.2.1)).getD (c.2.2.2.1.getD 0 0), 0, ()) else
    if c.1 = 2 then (c.2.2.2.1.getD (w % (c.2.2.2.1.length : Int)).toNat 0, 0, ()) else (c.2.2.2.1.getD 0 0, 0, ())
  else (0, 1, ())
theorem find_drop {p : Int → Bool} {xs : List Int} {d : Int} {j : Int} (h0 : 0 ≤ j) (h : j < (xs.length : Int)) : (xs.drop j.toNat).find? p = if p (xs.getD j.toNat d) then some (xs.getD j.toNat d) else (xs.drop (j + 1).toNat).find? p := by
  rw [drop_at (d := d) h0 h, List.find?_cons]
  cases p (xs.getD j.toNat d) <;> rfl
theorem choose_eq (c : Ch) (w : Int) (hl : c.2.2.2.1.length ≤ 140737488355328) : choose_Choose c w = some (ch c w) := by
  obtain ⟨m, n, t, xs, u⟩ := c
  unfold choose_Choose ch
  simp only [fine_eq _ hl, Option.bind_some]
  have hl : xs.length ≤ 140737488355328 := hl
  cases fine (m, n, t, xs, u) with
  | false => rfl
  | true =>
    simp only [Bool.not_true, cond_false, Bool.cond_decide, if_true]
    by_cases hz : xs.length = 0
    · rw [if_pos (by omega), if_pos hz]
    · rw [if_neg (by omega), if_neg hz]
      have hpos : 0 < xs.length := by omega
      split
      · refine (loop_up (fun x => x) xs.length (fun j : Int => 0 ≤ j) (fun j => some (((xs.drop j.toNat).find? fun x => decide (x ≥ t)).getD (xs.getD 0 0), 0, ())) (Int.le_refl 0) (by omega) ?_).trans (by rw [Int.toNat_zero, List.drop_zero])
        intro k j (h0 : 0 ≤ j) hk
        unfold choose_Choose_L1
        by_cases hj : j < (xs.length : Int)
        · have hk := hk hj
          simp only
          rw [bif_pos hj, chk_at h0 hj, find_drop (d := 0) h0 hj, w64 (by omega) (by omega), hk _ (show 0 ≤ j + 1 by omega) rfl, Bool.cond_decide]
          generalize xs.getD j.toNat 0 = x
          by_cases hx : x ≥ t
          · rw [if_pos hx, decide_eq_true hx]; rfl
          · rw [if_neg hx, decide_eq_false hx]; rfl
        · rw [bif_neg hj, drop_end hj]
          unfold choose_Choose_J2 choose_Choose_J1
          simp only [List.find?_nil, Option.getD_none]
          rw [chk_pos (by omega)]; rfl
      · split
        · obtain ⟨h1, h2, h3⟩ := tmod_pos (w := w) (n := xs.length) (by omega)
          have h4 := Int.emod_nonneg w (show (xs.length : Int) ≠ 0 by omega)
          have h5 := Int.emod_lt_of_pos w (show 0 < (xs.length : Int) by omega)
          rw [chk_pos (by omega), chk_pos (by omega), w64 (by omega) (by omega), tmod2 (by omega), chk_pos ⟨h4, h5⟩, letv_eq]
        · unfold choose_Choose_J1
          simp only
          rw [chk_pos (by omega)]; rfl
theorem rchoose_eq (c : Ch) (w : Int) (hl : c.2.2.2.1.length ≤ 140737488355328) : R27_Choose c w = some (ch c w) := by
  obtain ⟨m, n, t, xs, u⟩ := c
  unfold R27_Choose ch
  simp only [rfine_eq _ hl, Option.bind_some]
  have hl : xs.length ≤ 140737488355328 := hl
  cases fine (m, n, t, xs, u) with
  | false => rfl
  | true =>
    simp only [Bool.not_true, cond_false, Bool.cond_decide, if_true]
    by_cases hz : xs.length = 0
    · rw [if_pos (by omega), if_pos hz]
    · rw [if_neg (by omega), if_neg hz]
      have hpos : 0 < xs.length := by omega
      split
      · rename_i hm
        refine (loop_up (fun x => x) xs.length (fun j : Int => 0 ≤ j) (fun j => some (((xs.drop j.toNat).find? fun x => decide (x ≥ t)).getD (xs.getD 0 0), 0, ())) (Int.le_refl 0) (by omega) ?_).trans (by rw [Int.toNat_zero, List.drop_zero])
        intro k j (h0 : 0 ≤ j) hk
        unfold R27_Choose_L1
        by_cases hj : j < (xs.length : Int)
        · have hk := hk hj
          simp only
          rw [bif_pos hj, chk_at h0 hj, find_drop (d := 0) h0 hj, w64 (by omega) (by omega), hk _ (show 0 ≤ j + 1 by omega) rfl, Bool.cond_decide]
          simp only [chk_at h0 hj]
          generalize xs.getD j.toNat 0 = x
          by_cases hx : x ≥ t
          · rw [if_pos hx, decide_eq_true hx]; rfl
          · rw [if_neg hx, decide_eq_false hx]; rfl
        · rw [bif_neg hj, drop_end hj]
          unfold R27_Choose_J1
          simp only [List.find?_nil, Option.getD_none]
          rw [bif_neg (by omega), chk_pos (by omega)]; rfl
      · split
        · obtain ⟨h1, h2, h3⟩ := tmod_pos (w := w) (n := xs.length) (by omega)
          have h4 := Int.emod_nonneg w (show (xs.length : Int) ≠ 0 by omega)
          have h5 := Int.emod_lt_of_pos w (show 0 < (xs.length : Int) by omega)
          rw [chk_pos (by omega)]
          split at h3
          · rw [if_pos (by assumption), letv_eq, w64 (by omega) (by omega), h3, chk_pos ⟨h4, h5⟩]
          · rw [if_neg (by assumption), h3, chk_pos ⟨h4, h5⟩, letv_eq]
        · rw [chk_pos (by omega)]; rfl
theorem turn_eq (a n : Int) : choose_Turn a n = some (if 1 ≤ n ∧ n ≤ 6 ∧ 0 ≤ a ∧ a < n - 1 then a + 1 else 0) := by
  unfold choose_Turn
  simp only [guard_eq, Option.bind_some, Bool.cond_not, Bool.cond_decide]
  split
  · rename_i h
    rw [chk_pos (by omega), w64 (by omega) (by omega)]
    congr 1
    by_cases e : a + 1 = n
    · rw [if_neg (by omega), e, Int.tmod_self]
    · rw [if_pos (by omega), Int.tmod_eq_of_lt (by omega) (by omega)]
  · rw [if_neg (by omega)]
theorem rturn_eq (a n : Int) : R27_Turn a n = some (if 1 ≤ n ∧ n ≤ 6 ∧ 0 ≤ a ∧ a < n - 1 then a + 1 else 0) := by
  unfold R27_Turn
  simp only [Bool.cond_decide]
  by_cases h : 1 ≤ n ∧ n ≤ 6 ∧ 0 ≤ a ∧ a < n
  · rw [if_neg (by omega), if_neg (by omega), if_neg (by omega), if_neg (by omega), w64 (by omega) (by omega), w64 (by omega) (by omega)]
    split
    · rw [if_neg (by omega)]
    · rw [if_pos (by omega)]
  · rw [if_neg (c := 1 ≤ n ∧ n ≤ 6 ∧ 0 ≤ a ∧ a < n - 1) (by omega)]
    repeat' split
    all_goals first | rfl | omega
end choose
end Go.Proofs.YtoihmfgkmndjfaaV
