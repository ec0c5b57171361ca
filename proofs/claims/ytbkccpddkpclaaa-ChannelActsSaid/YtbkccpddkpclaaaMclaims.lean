/- What the functions of claims and of becketref17 answer. -/
import Derived.Test.YtbkccpddkpclaaaMlists
import Derived.Test.YtbkccpddkpclaaaDclaims
import Derived.Test.YtbkccpddkpclaaaDR17
namespace Go.Proofs.YtbkccpddkpclaaaV
set_option linter.unusedVariables false
set_option linter.unusedSimpArgs false
open Go.RowKit lists
namespace claims
abbrev Line := Bool × List Int × Unit
/-- Each is a process, and none stands there twice. -/
def okW : List Int → List Int → Bool
  | _, [] => true
  | pre, x :: r => decide (0 ≤ x ∧ x ≤ 15 ∧ x ∉ pre) && okW (pre ++ [x]) r
def fine (c : Line) : Bool := okW [] c.2.1 && (c.1 || decide (c.2.1.length ≤ 1))
def join (c : Line) (p : Int) : Line × Int × Unit :=
  if fine c = false then (c, 1, ())
  else if ¬ (0 ≤ p ∧ p ≤ 15) then (c, 8, ())
  else if p ∈ c.2.1 then (c, 7, ())
  else if c.1 = false ∧ c.2.1 ≠ [] then (c, 15, ())
  else ((c.1, c.2.1 ++ [p], ()), 0, ())
def leave (c : Line) (p : Int) : Line × Bool × Unit :=
  if fine c = true ∧ p ∈ c.2.1 then ((c.1, c.2.1.take (ixf c.2.1 p 0).toNat ++ c.2.1.drop ((ixf c.2.1 p 0).toNat + 1), ()), true, ()) else (c, false, ())
def head (c : Line) : Int × Bool × Unit :=
  if fine c = true ∧ c.2.1 ≠ [] then (c.2.1.getD 0 0, true, ()) else (0, false, ())
def ahead (c : Line) (p : Int) : Int × Bool × Unit :=
  if fine c = true ∧ p ∈ c.2.1 then (ixf c.2.1 p 0, true, ()) else (0, false, ())

theorem process_eq (p : Int) : claims_process p = some (decide (0 ≤ p ∧ p ≤ 15)) := by
  unfold claims_process
  by_cases h : p ≥ 0
  · rw [bif_pos h]; congr 1; rw [decide_eq_decide]; omega
  · rw [bif_neg h, decide_eq_false (by omega)]
theorem at_eq (xs : List Int) (v : Int) (hl : xs.length ≤ 140737488355328) : R17_At xs v = some (ixf xs v 0) := by
  unfold R17_At
  refine (loop_up (fun j => j) xs.length (fun j => 0 ≤ j) (fun j => some (ixf (xs.drop j.toNat) v j)) (by simp) (by simp; omega) ?_).trans (by simp)
  intro k j (h0 : 0 ≤ j) hk
  unfold R17_At_L1
  by_cases hj : j < (xs.length : Int)
  · have hk := hk hj (j + 1) (by omega) rfl
    rw [bif_pos hj, chk_at h0 hj, drop_at (d := 0) h0 hj, w64 (by omega) (by omega), hk, ixf]
    by_cases e : xs.getD j.toNat 0 = v
    · rw [bif_pos e, if_pos e]
    · rw [bif_neg e, if_neg e]
  · rw [bif_neg hj, drop_end hj]; rfl
theorem at_self {xs : List Int} {j : Int} (h0 : 0 ≤ j) (hj : j < (xs.length : Int)) : ixf xs (xs.getD j.toNat 0) 0 = j ↔ xs.getD j.toNat 0 ∉ xs.take j.toNat := by
  have hs : xs = xs.take j.toNat ++ (xs.getD j.toNat 0 :: xs.drop (j + 1).toNat) := by rw [← drop_at h0 hj, List.take_append_drop]
  have hl : (xs.take j.toNat).length = j.toNat := by rw [List.length_take]; omega
  generalize xs.getD j.toNat 0 = x at hs ⊢
  have e : ixf xs x 0 = if x ∈ xs.take j.toNat then ixf (xs.take j.toNat) x 0 else j := by
    conv => lhs; rw [hs]
    rw [ixf_app, ixf, if_pos rfl, hl]
    congr 1
    omega
  rw [e]
  by_cases hm : x ∈ xs.take j.toNat
  · rw [if_pos hm]
    have := ixf_mem hm 0
    rw [hl] at this
    constructor
    · intro h; omega
    · intro h; exact absurd hm h
  · rw [if_neg hm]
    exact ⟨fun _ => hm, fun _ => rfl⟩
theorem fine_eq (c : Line) (hl : c.2.1.length ≤ 140737488355328) : claims_Fine c = some (fine c) := by
  obtain ⟨sh, xs, u⟩ := c
  have hl : xs.length ≤ 140737488355328 := hl
  unfold claims_Fine
  refine (loop_up (fun j => j) xs.length (fun j => 0 ≤ j) (fun j => some (okW (xs.take j.toNat) (xs.drop j.toNat) && (sh || decide (xs.length ≤ 1)))) (by simp) (by simp; omega) ?_).trans (by simp [fine])
  intro k j (h0 : 0 ≤ j) hk
  unfold claims_Fine_L1
  simp only
  by_cases hj : j < (xs.length : Int)
  · have hk := hk hj (j + 1) (by omega) rfl
    rw [bif_pos hj, chk_at h0 hj, drop_at (d := 0) h0 hj, w64 (by omega) (by omega), hk, process_eq, take_at (d := 0) h0 hj, okW]
    simp only [Option.bind_some]
    rw [chk_pos ⟨by omega, h0, by omega⟩, Int.toNat_zero, List.drop_zero, contains_eq _ _ (by rw [List.length_take]; omega)]
    generalize xs.getD j.toNat 0 = x
    by_cases h1 : 0 ≤ x ∧ x ≤ 15
    · by_cases h2 : x ∈ xs.take j.toNat
      · rw [decide_eq_true h1, decide_eq_false (p := 0 ≤ x ∧ x ≤ 15 ∧ x ∉ xs.take j.toNat) (fun h => h.2.2 h2)]
        simp [h2]
      · rw [decide_eq_true h1, decide_eq_true (p := 0 ≤ x ∧ x ≤ 15 ∧ x ∉ xs.take j.toNat) ⟨h1.1, h1.2, h2⟩]
        simp [h2]
    · rw [decide_eq_false h1, decide_eq_false (p := 0 ≤ x ∧ x ≤ 15 ∧ x ∉ xs.take j.toNat) (fun h => h1 ⟨h.1, h.2.1⟩)]
      simp
  · rw [bif_neg hj, drop_end hj]
    unfold claims_Fine_J1
    simp only [okW, Bool.true_and]
    cases sh with
    | true => rfl
    | false => simp; omega
theorem rfine_eq (c : Line) (hl : c.2.1.length ≤ 140737488355328) : R17_Fine c = some (fine c) := by
  obtain ⟨sh, xs, u⟩ := c
  have hl : xs.length ≤ 140737488355328 := hl
  unfold R17_Fine
  refine (loop_up (fun j => j) xs.length (fun j => 0 ≤ j) (fun j => some (okW (xs.take j.toNat) (xs.drop j.toNat) && (sh || decide (xs.length ≤ 1)))) (by simp) (by simp; omega) ?_).trans (by simp [fine])
  intro k j (h0 : 0 ≤ j) hk
  unfold R17_Fine_L1
  simp only
  by_cases hj : j < (xs.length : Int)
  · have hk := hk hj (j + 1) (by omega) rfl
    rw [bif_pos hj, chk_at h0 hj, chk_at h0 hj, chk_at h0 hj, drop_at (d := 0) h0 hj, w64 (by omega) (by omega), hk, at_eq _ _ hl, take_at (d := 0) h0 hj, okW]
    simp only [Option.bind_some]
    have hs := at_self h0 hj
    generalize xs.getD j.toNat 0 = x at hs
    by_cases h1 : x < 0
    · rw [bif_pos h1, decide_eq_false (p := 0 ≤ x ∧ x ≤ 15 ∧ x ∉ xs.take j.toNat) (fun h => by omega)]; rfl
    · by_cases h2 : x > 15
      · rw [bif_neg h1, bif_pos h2, decide_eq_false (p := 0 ≤ x ∧ x ≤ 15 ∧ x ∉ xs.take j.toNat) (fun h => by omega)]; rfl
      · rw [bif_neg h1, bif_neg h2]
        by_cases h3 : ixf xs x 0 = j
        · rw [bnot_pos h3, decide_eq_true (p := 0 ≤ x ∧ x ≤ 15 ∧ x ∉ xs.take j.toNat) ⟨by omega, by omega, hs.1 h3⟩]; rfl
        · rw [bnot_neg h3, decide_eq_false (p := 0 ≤ x ∧ x ≤ 15 ∧ x ∉ xs.take j.toNat) (fun h => h3 (hs.2 h.2.2))]; rfl
  · rw [bif_neg hj, drop_end hj]
    unfold R17_Fine_J1
    simp only [okW, Bool.true_and]
    cases sh with
    | true => rfl
    | false => simp; omega
theorem okW_len : ∀ (xs pre : List Int), okW pre xs = true → ∀ x ∈ xs, 0 ≤ x ∧ x ≤ 15
  | [], _, _, x, hx => by cases hx
  | y :: xs, pre, h, x, hx => by
    simp only [okW, Bool.and_eq_true, decide_eq_true_eq] at h
    rcases List.mem_cons.1 hx with rfl | hx
    · exact ⟨h.1.1, h.1.2.1⟩
    · exact okW_len xs _ h.2 x hx
theorem join_eq (c : Line) (p : Int) (hl : c.2.1.length ≤ 1000000) : claims_Join c p = some (join c p) := by
  obtain ⟨sh, xs, u⟩ := c
  have hl : xs.length ≤ 1000000 := hl
  unfold claims_Join join
  rw [fine_eq _ (show xs.length ≤ 140737488355328 by omega), process_eq, contains_eq _ _ (show xs.length ≤ 140737488355328 by omega)]
  simp only [Option.bind_some]
  cases hf : fine (sh, xs, u) with
  | false => rfl
  | true =>
    rw [if_neg (by simp)]
    by_cases h1 : 0 ≤ p ∧ p ≤ 15
    · rw [if_neg (not_not_intro h1), decide_eq_true h1]
      by_cases h2 : p ∈ xs
      · rw [if_pos h2, decide_eq_true h2]; rfl
      · rw [if_neg h2, decide_eq_false h2]
        have key : (chk (True ∧ 0 ≤ (IntKind.i64.wrap ((xs.length : Int) + 1)) ∧ (IntKind.i64.wrap ((xs.length : Int) + 1)) ≤ 4294967296) <|
          letv (List.replicate (IntKind.i64.wrap ((xs.length : Int) + 1)).toNat (0 : Int)) fun l3 =>
          letv (xs.take l3.length ++ l3.drop xs.length) fun l4 =>
          chk (0 ≤ (xs.length : Int) ∧ (xs.length : Int) < (l4.length : Int)) <|
          some ((sh, l4.set (xs.length : Int).toNat p, ()), (0 : Int), ())) = some ((sh, xs ++ [p], ()), 0, ()) := by
          rw [w64 (by omega) (by omega), chk_pos ⟨trivial, by omega, by omega⟩]
          simp only [letv_eq]
          have e1 : ((xs.length : Int) + 1).toNat = xs.length + 1 := by omega
          rw [e1]
          have e2 : xs.take (List.replicate (xs.length + 1) (0 : Int)).length ++ (List.replicate (xs.length + 1) (0 : Int)).drop xs.length = xs ++ [0] := by
            rw [List.length_replicate, List.take_of_length_le (by omega), List.drop_replicate, show xs.length + 1 - xs.length = 1 by omega]; rfl
          rw [e2, chk_pos ⟨by omega, by simp; omega⟩]
          simp
        simp only [key]
        cases sh with
        | true => simp
        | false =>
          cases xs with
          | nil => simp
          | cons x xs => simp <;> omega
    · rw [if_pos h1, decide_eq_false h1]; rfl
theorem rjoin_eq (c : Line) (p : Int) (hl : c.2.1.length ≤ 1000000) : R17_Join c p = some (join c p) := by
  obtain ⟨sh, xs, u⟩ := c
  have hl : xs.length ≤ 1000000 := hl
  unfold R17_Join join
  rw [rfine_eq _ (show xs.length ≤ 140737488355328 by omega), at_eq _ _ (show xs.length ≤ 140737488355328 by omega)]
  simp only [Option.bind_some]
  cases hf : fine (sh, xs, u) with
  | false => rfl
  | true =>
    rw [if_neg (by simp)]
    by_cases h1 : 0 ≤ p ∧ p ≤ 15
    · rw [if_neg (not_not_intro h1)]
      simp only [Bool.not_true, cond_false]
      rw [bif_neg (by omega), bif_neg (by omega)]
      by_cases h2 : p ∈ xs
      · rw [if_pos h2, bif_pos (ixf_ge.2 h2)]
      · rw [if_neg h2, bif_neg (fun h => h2 (ixf_ge.1 h)), chk_pos (by omega), chk_pos (by simp; omega)]
        cases sh with
        | true => simp
        | false =>
          cases xs with
          | nil => simp
          | cons x xs => simp <;> omega
    · rw [if_pos h1]
      by_cases h2 : p < 0
      · simp [h2]
      · have : p > 15 := by omega
        simp [h2, this]
theorem place_eq (c : Line) (p : Int) (hl : c.2.1.length ≤ 1000000) : claims_place c p = some (ahead c p) := by
  obtain ⟨sh, xs, u⟩ := c
  have hl : xs.length ≤ 1000000 := hl
  unfold claims_place ahead
  rw [fine_eq _ (show xs.length ≤ 140737488355328 by omega), index_eq _ _ (show xs.length ≤ 140737488355328 by omega)]
  simp only [Option.bind_some]
  cases hf : fine (sh, xs, u) with
  | false => simp
  | true =>
    by_cases h2 : p ∈ xs
    · rw [if_pos ⟨rfl, h2⟩]
      have := (ixf_mem h2 0).1
      simp only [Bool.not_true, cond_false]
      rw [decide_eq_true this, Int.max_eq_left this]
    · rw [if_neg (fun h => h2 h.2), ixf_not h2]; rfl
theorem ahead_eq (c : Line) (p : Int) (hl : c.2.1.length ≤ 1000000) : claims_Ahead c p = some (ahead c p) := by
  unfold claims_Ahead
  rw [place_eq c p hl]; rfl
theorem head_eq (c : Line) (hl : c.2.1.length ≤ 1000000) : claims_Head c = some (head c) := by
  obtain ⟨sh, xs, u⟩ := c
  have hl : xs.length ≤ 1000000 := hl
  unfold claims_Head head
  rw [fine_eq _ (show xs.length ≤ 140737488355328 by omega)]
  simp only [Option.bind_some]
  cases hf : fine (sh, xs, u) with
  | false => simp
  | true =>
    cases xs with
    | nil => simp
    | cons x xs =>
      rw [if_pos ⟨rfl, by simp⟩, bif_neg (by simp <;> omega), chk_pos ⟨by omega, by simp <;> omega⟩]; rfl
theorem leave_eq (c : Line) (p : Int) (hl : c.2.1.length ≤ 1000000) : claims_Leave c p = some (leave c p) := by
  unfold claims_Leave
  rw [place_eq c p hl]
  obtain ⟨sh, xs, u⟩ := c
  have hl : xs.length ≤ 1000000 := hl
  unfold ahead leave
  simp only [Option.bind_some]
  by_cases h : fine (sh, xs, u) = true ∧ p ∈ xs
  · rw [if_pos h, if_pos h]
    have h1 := ixf_mem h.2 0
    rw [nilq_eq (fun h0 => by rw [h0] at h; cases h.2)]
    simp only [cond_true, cond_false, List.nil_append, List.length_nil]
    rw [w64 (by omega) (by omega), chk_pos (by omega), chk_pos ⟨h1.1, by omega, by omega⟩, show (ixf xs p 0 + 1).toNat = (ixf xs p 0).toNat + 1 by omega]
  · rw [if_neg h, if_neg h]; rfl
theorem rleave_eq (c : Line) (p : Int) (hl : c.2.1.length ≤ 1000000) : R17_Leave c p = some (leave c p) := by
  obtain ⟨sh, xs, u⟩ := c
  have hl : xs.length ≤ 1000000 := hl
  unfold R17_Leave leave
  rw [rfine_eq _ (show xs.length ≤ 140737488355328 by omega), at_eq _ _ (show xs.length ≤ 140737488355328 by omega)]
  simp only [Option.bind_some]
  cases hf : fine (sh, xs, u) with
  | false => simp
  | true =>
    by_cases h2 : p ∈ xs
    · rw [if_pos ⟨rfl, h2⟩]
      have h1 := ixf_mem h2 0
      simp only [Bool.not_true, cond_false, letv_eq]
      rw [bif_neg (by omega), chk_pos ⟨by omega, h1.1, by omega⟩, w64 (by omega) (by omega), chk_pos ⟨by omega, by omega, by omega⟩, chk_pos (by simp; omega), chk_pos (by simp; omega), show (ixf xs p 0 + 1).toNat = (ixf xs p 0).toNat + 1 by omega]
      simp
    · rw [if_neg (fun h => h2 h.2), ixf_not h2]; rfl
end claims
end Go.Proofs.YtbkccpddkpclaaaV
