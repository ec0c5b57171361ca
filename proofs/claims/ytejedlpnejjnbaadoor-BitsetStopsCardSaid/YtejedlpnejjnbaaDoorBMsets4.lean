/- The document's rising lists. -/
import Derived.Test.YtejedlpnejjnbaaDoorBMsets3
namespace Go.Proofs.YtejedlpnejjnbaaDoorBV
set_option linter.unusedVariables false
set_option linter.unusedSimpArgs false
namespace BS
/-- A loop that goes through a list and keeps what fits. -/
theorem filt_loop {F : (Int × List Int → Option (List Int)) → Int × List Int → Option (List Int)} (l : List Int) (c : Int → Bool) (hl : l.length ≤ 140737488355328)
    (h1 : ∀ k (i : Int) out, 0 ≤ i → i < (l.length : Int) → out.length ≤ l.length → F k (i, out) = if c (l.getD i.toNat 0) then k (i + 1, out ++ [l.getD i.toNat 0]) else k (i + 1, out))
    (h2 : ∀ k (i : Int) out, ¬ i < (l.length : Int) → F k (i, out) = some out) : loop F (0, []) = some (l.filter c) := by
  refine loop_up (fun x => x.1) l.length (fun x => ∃ k : Nat, x = ((k : Int), (l.take k).filter c) ∧ k ≤ l.length) (fun _ => some (l.filter c)) ⟨0, by simp, by omega⟩ (by show (l.length : Int) - 0 < _; omega) ?_
  rintro kk x ⟨k, rfl, hk⟩ hnext
  simp only at hnext
  by_cases h : (k : Int) < (l.length : Int)
  · have hle : ((l.take k).filter c).length ≤ l.length := Nat.le_trans (List.length_filter_le _ _) (by simp; omega)
    rw [h1 kk _ _ (by omega) h hle]
    have ht := take_at (xs := l) (i := (k : Int)) (d := 0) (by omega) h
    rw [show ((k : Int) + 1).toNat = k + 1 by omega, show ((k : Int)).toNat = k by omega] at ht
    rw [show ((k : Int)).toNat = k by omega]
    split
    · rename_i hc
      exact hnext h _ ⟨k + 1, by rw [ht, List.filter_append, List.filter_cons_of_pos hc]; rfl, by omega⟩ rfl
    · rename_i hc
      exact hnext h _ ⟨k + 1, by rw [ht, List.filter_append, List.filter_cons_of_neg hc]; simp, by omega⟩ rfl
  · rw [h2 kk _ _ h, List.take_of_length_le (by omega)]
theorem rHas_eq (l : List Int) (v : Int) (hl : l.length ≤ 140737488355328) : R04_Has l v = some (decide (v ∈ l)) := by
  unfold R04_Has
  refine loop_up (fun i => i) l.length (fun i => ∃ k : Nat, i = (k : Int) ∧ k ≤ l.length ∧ v ∉ l.take k) (fun _ => some (decide (v ∈ l))) ⟨0, rfl, by omega, by simp⟩ (by omega) ?_
  rintro kk x ⟨k, rfl, hk, hv⟩ hnext
  unfold R04_Has_L1
  by_cases h : (k : Int) < (l.length : Int)
  · rw [bif_pos h, chk_at (by omega) h]
    have ht := take_at (xs := l) (i := (k : Int)) (d := 0) (by omega) h
    rw [show ((k : Int) + 1).toNat = k + 1 by omega, show ((k : Int)).toNat = k by omega] at ht
    rw [show ((k : Int)).toNat = k by omega]
    by_cases he : l.getD k 0 = v
    · rw [bif_pos he, decide_eq_true]
      have := getD_mem (xs := l) (i := (k : Int)) (d := 0) (by omega) h
      rw [show ((k : Int)).toNat = k by omega, he] at this
      exact this
    · rw [bif_neg he, w64 (by omega) (by omega)]
      refine hnext h _ ⟨k + 1, rfl, by omega, ?_⟩ rfl
      rw [ht, List.mem_append]
      rintro (h1 | h1)
      · exact hv h1
      · exact he (List.mem_singleton.1 h1).symm
  · rw [bif_neg h]
    unfold R04_Has_J1
    rw [List.take_of_length_le (by omega)] at hv
    rw [decide_eq_false hv]
theorem rOf_eq (l : List Int) (hl : l.length ≤ 140737488355328) : R04_Of l = some (ids fun i => decide ((i : Int) ∈ l)) := by
  unfold R04_Of
  refine loop_up (fun x => x.1) 256 (fun x => ∃ k : Nat, x = ((k : Int), idsTo (fun i => decide ((i : Int) ∈ l)) k) ∧ k ≤ 256) (fun _ => some (ids fun i => decide ((i : Int) ∈ l))) ⟨0, rfl, by omega⟩ (by show (256 : Int) - 0 < _; omega) ?_
  rintro kk x ⟨k, rfl, hk⟩ hnext
  unfold R04_Of_L1
  simp only at hnext ⊢
  by_cases h : (k : Int) ≤ 255
  · rw [bif_pos h, rHas_eq _ _ hl, Option.bind_some]
    have hlen := idsTo_len (fun i => decide ((i : Int) ∈ l)) k
    by_cases hm : (k : Int) ∈ l
    · rw [decide_eq_true hm, cond_true, chk_pos (by simp; omega), w64 (by omega) (by omega)]
      exact hnext (by omega) _ ⟨k + 1, by rw [idsTo_succ (by simp [hm])]; rfl, by omega⟩ rfl
    · rw [decide_eq_false hm, cond_false, w64 (by omega) (by omega)]
      refine hnext (by omega) _ ⟨k + 1, ?_, by omega⟩ rfl
      rw [idsTo_ext (p := fun i => decide ((i : Int) ∈ l)) (i := k) (j := k + 1) (by omega) (fun q h1 h2 => by have e : q = k := (by omega); rw [e]; exact decide_eq_false hm)]
      rfl
  · rw [bif_neg h]
    obtain rfl : k = 256 := by omega
    rfl
theorem rAdd_eq (l : List Int) (a : Int) (hl : l.length ≤ 4294967295) : R04_Add l a = some (ids fun i => decide ((i : Int) ∈ l ++ [a])) := by
  unfold R04_Add
  rw [chk_pos (by omega), chk_pos (by simp; omega), rOf_eq _ (by simp; omega)]; rfl
theorem rUnion_eq (l m : List Int) (hl : l.length ≤ 4294967295) (hm : l.length + m.length ≤ 4294967296) : R04_Union l m = some (ids fun i => decide ((i : Int) ∈ l ++ m)) := by
  unfold R04_Union
  rw [chk_pos (by omega), chk_pos (by omega), rOf_eq _ (by simp; omega)]; rfl
theorem rDrop_eq (l : List Int) (a : Int) (hl : l.length ≤ 4294967295) : R04_Drop l a = some (l.filter fun x => !decide (x = a)) := by
  unfold R04_Drop
  refine filt_loop l _ (by omega) (fun k i out h0 h h2 => ?_) (fun k i out h => ?_)
  · unfold R04_Drop_L1
    simp only
    rw [bif_pos h, chk_at h0 h, w64 (by omega) (by omega)]
    by_cases he : l.getD i.toNat 0 = a
    · rw [bnot_pos he, if_neg (by rw [decide_eq_true he]; decide)]
    · rw [bnot_neg he, chk_at h0 h, chk_pos (by simp; omega), if_pos (by rw [decide_eq_false he]; rfl)]
  · unfold R04_Drop_L1; rw [bif_neg h]; rfl
theorem rInter_eq (l m : List Int) (hl : l.length ≤ 4294967295) (hm : m.length ≤ 140737488355328) : R04_Inter l m = some (l.filter fun x => decide (x ∈ m)) := by
  unfold R04_Inter
  refine filt_loop l _ (by omega) (fun k i out h0 h h2 => ?_) (fun k i out h => ?_)
  · unfold R04_Inter_L1
    simp only
    rw [bif_pos h, chk_at h0 h, w64 (by omega) (by omega), rHas_eq _ _ hm, Option.bind_some]
    by_cases he : l.getD i.toNat 0 ∈ m
    · rw [decide_eq_true he, cond_true, chk_at h0 h, chk_pos (by simp; omega)]; rfl
    · rw [decide_eq_false he, cond_false]; rfl
  · unfold R04_Inter_L1; rw [bif_neg h]; rfl
theorem rLess_eq (l m : List Int) (hl : l.length ≤ 4294967295) (hm : m.length ≤ 140737488355328) : R04_Less l m = some (l.filter fun x => !decide (x ∈ m)) := by
  unfold R04_Less
  refine filt_loop l _ (by omega) (fun k i out h0 h h2 => ?_) (fun k i out h => ?_)
  · unfold R04_Less_L1
    simp only
    rw [bif_pos h, chk_at h0 h, w64 (by omega) (by omega), rHas_eq _ _ hm, Option.bind_some]
    by_cases he : l.getD i.toNat 0 ∈ m
    · rw [decide_eq_true he]; rfl
    · rw [decide_eq_false he, Bool.not_false, cond_true, chk_at h0 h, chk_pos (by simp; omega)]; rfl
  · unfold R04_Less_L1; rw [bif_neg h]; rfl
theorem same_eq (a b : List Int) (hl : a.length ≤ 140737488355328) (hb : b.length ≤ 140737488355328) : R02_Same a b = some (decide (a = b)) := by
  unfold R02_Same
  by_cases he : a.length = b.length
  · rw [bnot_pos (by omega)]
    refine loop_up (fun i => i) a.length (fun i => ∃ k : Nat, i = (k : Int) ∧ k ≤ a.length ∧ a.take k = b.take k) (fun _ => some (decide (a = b))) ⟨0, rfl, by omega, by simp⟩ (by omega) ?_
    rintro kk x ⟨k, rfl, hk, hv⟩ hnext
    unfold R02_Same_L1
    by_cases h : (k : Int) < (a.length : Int)
    · rw [bif_pos h, chk_at (by omega) h, chk_at (by omega) (by omega)]
      have ha := take_at (xs := a) (i := (k : Int)) (d := 0) (by omega) h
      have hb := take_at (xs := b) (i := (k : Int)) (d := 0) (by omega) (by omega)
      rw [show ((k : Int) + 1).toNat = k + 1 by omega, show ((k : Int)).toNat = k by omega] at ha hb
      rw [show ((k : Int)).toNat = k by omega]
      by_cases hx : a.getD k 0 = b.getD k 0
      · rw [bnot_pos hx, w64 (by omega) (by omega)]
        exact hnext h _ ⟨k + 1, rfl, by omega, by rw [ha, hb, hv, hx]⟩ rfl
      · rw [bnot_neg hx, decide_eq_false (fun e => hx (by rw [e]))]
    · rw [bif_neg h]
      rw [List.take_of_length_le (by omega), List.take_of_length_le (by omega)] at hv
      rw [decide_eq_true hv]; rfl
  · rw [bnot_neg (by omega), decide_eq_false (fun e => he (by rw [e]))]
theorem ids_mem {p : Nat → Bool} {v : Int} : v ∈ ids p ↔ 0 ≤ v ∧ v < 256 ∧ p v.toNat = true := by
  unfold ids idsTo
  rw [List.mem_map]
  constructor
  · rintro ⟨i, hi, rfl⟩
    rw [List.mem_filter, List.mem_range] at hi
    exact ⟨by omega, by omega, by simpa using hi.2⟩
  · rintro ⟨h0, h1, h2⟩
    exact ⟨v.toNat, by rw [List.mem_filter, List.mem_range]; exact ⟨by omega, h2⟩, by omega⟩
theorem ids_mem_nat {p : Nat → Bool} {i : Nat} : (i : Int) ∈ ids p ↔ i < 256 ∧ p i = true := by
  rw [ids_mem]; simp only [Int.toNat_natCast]; constructor
  · rintro ⟨_, h1, h2⟩; exact ⟨by omega, h2⟩
  · rintro ⟨h1, h2⟩; exact ⟨by omega, by omega, h2⟩
theorem ids_congr {p q : Nat → Bool} (h : ∀ i, i < 256 → p i = q i) : ids p = ids q := by
  unfold ids idsTo
  congr 1
  refine List.filter_congr fun i hi => h i (List.mem_range.1 hi)
theorem ids_filter {p : Nat → Bool} (c : Int → Bool) : (ids p).filter c = ids fun i => p i && c (i : Int) := by
  unfold ids idsTo
  rw [List.filter_map, List.filter_filter]
  congr 1
  refine List.filter_congr fun i hi => ?_
  simp [Bool.and_comm]
theorem ids_len (p : Nat → Bool) : (ids p).length ≤ 256 := idsTo_len p 256
end BS
end Go.Proofs.YtejedlpnejjnbaaDoorBV
