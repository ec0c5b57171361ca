/- What the small functions on lists of numbers answer. -/
import Derived.Test.YtiicmhholjpcbaaMKit
import Derived.Test.YtiicmhholjpcbaaDslices
import Derived.Test.YtiicmhholjpcbaaDR02
namespace Go.Proofs.YtiicmhholjpcbaaV
set_option linter.unusedVariables false
set_option linter.unusedSimpArgs false
open Go.RowKit
namespace lists
/-- Where the first one stands, counted from i on; -1: nowhere. -/
def ixf : List Int → Int → Int → Int
  | [], _, _ => -1
  | x :: xs, v, i => if x = v then i else ixf xs v (i + 1)
theorem ixf_not : ∀ {xs : List Int} {v : Int} (h : v ∉ xs) (i : Int), ixf xs v i = -1
  | [], _, _, _ => rfl
  | x :: xs, v, h, i => by
    unfold ixf
    rw [if_neg (fun e => h (by rw [e]; exact List.mem_cons_self)), ixf_not (fun h2 => h (List.mem_cons_of_mem _ h2))]
theorem ixf_mem : ∀ {xs : List Int} {v : Int} (h : v ∈ xs) (i : Int), i ≤ ixf xs v i ∧ ixf xs v i < i + xs.length
  | x :: xs, v, h, i => by
    unfold ixf
    by_cases e : x = v
    · rw [if_pos e]; simp; omega
    · rw [if_neg e]
      have := ixf_mem (List.mem_of_ne_of_mem (Ne.symm e) h) (i + 1)
      simp; omega
theorem ixf_app : ∀ (a b : List Int) (v i : Int), ixf (a ++ b) v i = if v ∈ a then ixf a v i else ixf b v (i + a.length)
  | [], b, v, i => by simp
  | x :: a, b, v, i => by
    simp only [List.cons_append, ixf]
    by_cases e : x = v
    · rw [if_pos e, if_pos (by rw [e]; exact List.mem_cons_self), if_pos e]
    · rw [if_neg e, if_neg e, ixf_app a b v (i + 1)]
      have : v ∈ x :: a ↔ v ∈ a := by simp [Ne.symm e]
      simp only [this, List.length_cons]
      split
      · rfl
      · congr 1; omega
theorem ixf_ge {xs : List Int} {v : Int} : 0 ≤ ixf xs v 0 ↔ v ∈ xs := by
  constructor
  · intro h
    by_cases hv : v ∈ xs
    · exact hv
    · rw [ixf_not hv] at h; omega
  · intro h; exact (ixf_mem h 0).1
/-- The list around it. -/
theorem ixf_split : ∀ {xs : List Int} {v : Int} (h : v ∈ xs) (i : Int), ∃ a b, xs = a ++ v :: b ∧ v ∉ a ∧ ixf xs v i = i + a.length
  | x :: xs, v, h, i => by
    unfold ixf
    by_cases e : x = v
    · exact ⟨[], xs, by rw [e]; rfl, by simp, by rw [if_pos e]; simp⟩
    · obtain ⟨a, b, h1, h2, h3⟩ := ixf_split (List.mem_of_ne_of_mem (Ne.symm e) h) (i + 1)
      refine ⟨x :: a, b, by rw [h1]; rfl, by simp [Ne.symm e, h2], ?_⟩
      rw [if_neg e, h3]; simp; omega
theorem index_eq (xs : List Int) (v : Int) (hl : xs.length ≤ 140737488355328) : slices_Index_int_int xs v = some (ixf xs v 0) := by
  unfold slices_Index_int_int
  refine (loop_up (fun j => j) xs.length (fun j => 0 ≤ j) (fun j => some (ixf (xs.drop j.toNat) v j)) (by simp) (by simp; omega) ?_).trans (by simp)
  intro k j (h0 : 0 ≤ j) hk
  unfold slices_Index_int_int_L1
  by_cases hj : j < (xs.length : Int)
  · have hk := hk hj (j + 1) (by omega) rfl
    rw [bif_pos hj, chk_at h0 hj, drop_at (d := 0) h0 hj, w64 (by omega) (by omega), hk, ixf]
    by_cases e : v = xs.getD j.toNat 0
    · rw [bif_pos e, if_pos e.symm]
    · rw [bif_neg e, if_neg (Ne.symm e)]
  · rw [bif_neg hj, drop_end hj]; rfl
theorem contains_eq (xs : List Int) (v : Int) (hl : xs.length ≤ 140737488355328) : slices_Contains_int_int xs v = some (decide (v ∈ xs)) := by
  unfold slices_Contains_int_int
  rw [index_eq _ _ hl]
  simp only [Option.bind_some]
  rw [show decide (ixf xs v 0 ≥ 0) = decide (v ∈ xs) from decide_eq_decide.2 ixf_ge]
theorem same_eq (xs ys : List Int) (hl : xs.length ≤ 140737488355328) : R02_Same xs ys = some (decide (xs = ys)) := by
  unfold R02_Same
  by_cases hn : (xs.length : Int) = (ys.length : Int)
  · rw [bnot_pos hn]
    refine (loop_up (fun j => j) xs.length (fun j => 0 ≤ j) (fun j => some (decide (xs.drop j.toNat = ys.drop j.toNat))) (by simp) (by simp; omega) ?_).trans (by simp)
    intro k j (h0 : 0 ≤ j) hk
    unfold R02_Same_L1
    by_cases hj : j < (xs.length : Int)
    · have hk := hk hj (j + 1) (by omega) rfl
      rw [bif_pos hj, chk_at h0 hj, chk_at h0 (by omega), drop_at (d := 0) h0 hj, drop_at (xs := ys) (d := 0) h0 (by omega), w64 (by omega) (by omega), hk]
      by_cases e : xs.getD j.toNat 0 = ys.getD j.toNat 0
      · rw [bnot_pos e, e]
        congr 1
        rw [decide_eq_decide]
        simp
      · rw [bnot_neg e, decide_eq_false (fun h => e (List.cons.inj h).1)]
    · rw [bif_neg hj, drop_end hj, List.drop_of_length_le (by omega)]; rfl
  · rw [bnot_neg hn, decide_eq_false (fun h => hn (by rw [h]))]
end lists
end Go.Proofs.YtiicmhholjpcbaaV
