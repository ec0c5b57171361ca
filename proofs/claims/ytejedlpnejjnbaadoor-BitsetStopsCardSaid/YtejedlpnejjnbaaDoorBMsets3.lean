/- Sets of ids: the next id, all ids; out of a list. -/
import Derived.Test.YtejedlpnejjnbaaDoorBMsets2
namespace Go.Proofs.YtejedlpnejjnbaaDoorBV
set_option linter.unusedVariables false
set_option linter.unusedSimpArgs false
namespace BS
/-- The first from j on. -/
def nxt (p : Nat → Bool) (j : Nat) : Option Nat := (List.range' j (256 - j)).find? p
def res : Option Nat → Int × Bool × Unit
  | some i => ((i : Int), true, ())
  | none => (0, false, ())
theorem find_range' {p : Nat → Bool} : ∀ (n j i : Nat), j ≤ i → i < j + n → p i = true → (∀ k, j ≤ k → k < i → p k = false) → (List.range' j n).find? p = some i
  | 0, j, i, h1, h2, _, _ => by omega
  | n + 1, j, i, h1, h2, h3, h4 => by
    rw [List.range'_succ, List.find?_cons]
    by_cases h : j = i
    · subst h; rw [h3]
    · rw [h4 j (Nat.le_refl _) (by omega)]
      exact find_range' n (j + 1) i (by omega) (by omega) h3 (fun k hk => h4 k (by omega))
theorem nxt_some {p : Nat → Bool} {j i : Nat} (h1 : j ≤ i) (h2 : i < 256) (h3 : p i = true) (h4 : ∀ k, j ≤ k → k < i → p k = false) : nxt p j = some i := find_range' _ j i h1 (by omega) h3 h4
theorem nxt_none {p : Nat → Bool} {j : Nat} (h : ∀ k, j ≤ k → k < 256 → p k = false) : nxt p j = none := by
  unfold nxt
  rw [List.find?_eq_none]
  intro k hk
  rw [List.mem_range'_1] at hk
  rw [h k hk.1 (by omega)]; simp
theorem nxt_out {p : Nat → Bool} {j i : Nat} (h : nxt p j = some i) : j ≤ i ∧ i < 256 ∧ p i = true ∧ ∀ k, j ≤ k → k < i → p k = false := by
  have h1 := List.find?_some h
  have h2 := List.mem_of_find?_eq_some h
  rw [List.mem_range'_1] at h2
  refine ⟨h2.1, by omega, h1, fun k hk hk2 => ?_⟩
  cases hp : p k with
  | false => rfl
  | true =>
    obtain ⟨m, m1, m2, m3, m4⟩ : ∃ m, j ≤ m ∧ m ≤ k ∧ p m = true ∧ ∀ q, j ≤ q → q < m → p q = false := by
      obtain ⟨m, hm, hl⟩ := least (p := fun m => j ≤ m ∧ p m = true) ⟨k, hk, hp⟩
      refine ⟨m, hm.1, hl k ⟨hk, hp⟩, hm.2, fun q hq hqm => ?_⟩
      cases hpq : p q with
      | false => rfl
      | true => have := hl q ⟨hq, hpq⟩; omega
    have := nxt_some m1 (by omega) m3 m4
    rw [h] at this
    cases this
    omega
theorem nxt_no {p : Nat → Bool} {j : Nat} (h : nxt p j = none) : ∀ k, j ≤ k → k < 256 → p k = false := by
  intro k hk hk2
  unfold nxt at h
  rw [List.find?_eq_none] at h
  have := h k (by rw [List.mem_range'_1]; omega)
  simpa using this
theorem next_nat {s : List Int} (h : Wf s) (j : Nat) (hj : j ≤ 9223372036854775807) : loop (bitset_Next_L1 (j : Int) s) ((j / 64 : Nat) : Int) = some (res (nxt (mem s) j)) := by
  refine loop_up (fun x => x) 4 (fun x => ∃ k : Nat, x = (k : Int) ∧ j / 64 ≤ k ∧ (k ≤ 4 ∨ k = j / 64) ∧ ∀ i, j ≤ i → i < 64 * k → mem s i = false) (fun _ => some (res (nxt (mem s) j))) ⟨j / 64, rfl, Nat.le_refl _, .inr rfl, fun i h1 h2 => by omega⟩ (by omega) ?_
  rintro kk x ⟨k, rfl, hk, hk4, hno⟩ hnext
  have e1 : IntKind.i64.wrap (Int.tdiv (j : Int) 64) = ((j / 64 : Nat) : Int) := by
    rw [Int.tdiv_eq_ediv_of_nonneg (by omega), w64 (by omega) (by omega)]; omega
  have e2 : Int.tmod (j : Int) 64 = ((j % 64 : Nat) : Int) := by rw [Int.tmod_eq_emod_of_nonneg (by omega)]; omega
  unfold bitset_Next_L1
  by_cases h4 : (k : Int) < 4
  · rw [bif_pos h4, chk_pos (by omega), chk_pos (by omega), e1]
    obtain ⟨w1, w2⟩ := h.wd k
    have hmem : ∀ b, b < 64 → mem s (64 * k + b) = (wd s k).testBit b := by
      intro b hb
      unfold mem
      rw [show (64 * k + b) / 64 = k by omega, show (64 * k + b) % 64 = b by omega]
    -- what is looked at, and what it says
    have fin : ∀ (v : Nat), v < 18446744073709551616 → (∀ b, b < 64 → v.testBit b = (decide (j ≤ 64 * k + b) && (wd s k).testBit b)) →
        (v = 0 → ∀ i, j ≤ i → i < 64 * (k + 1) → mem s i = false) ∧ (v ≠ 0 → ∃ t, math_bits_TrailingZeros64 (v : Int) = some t ∧ IntKind.i64.wrap (IntKind.i64.wrap ((k : Int) * 64) + t) = (res (nxt (mem s) j)).1 ∧ (res (nxt (mem s) j)) = ((res (nxt (mem s) j)).1, true, ())) := by
      intro v hv hb
      constructor
      · rintro rfl i h1 h2
        by_cases hi : i < 64 * k
        · exact hno i h1 hi
        · have := hb (i - 64 * k) (by omega)
          rw [Nat.zero_testBit, show 64 * k + (i - 64 * k) = i by omega, decide_eq_true h1, Bool.true_and] at this
          have h3 := hmem (i - 64 * k) (by omega)
          rw [show 64 * k + (i - 64 * k) = i by omega] at h3
          rw [h3, ← this]
      · intro hv0
        obtain ⟨b, b1, ⟨b2, b3⟩, b4⟩ := tz_eq hv0 hv
        have hb' := hb b b1
        rw [b2] at hb'
        have hb' := hb'.symm
        rw [Bool.and_eq_true, decide_eq_true_iff] at hb'
        have hn : nxt (mem s) j = some (64 * k + b) := by
          refine nxt_some hb'.1 (by omega) (by rw [hmem b b1]; exact hb'.2) fun q q1 q2 => ?_
          by_cases hq : q < 64 * k
          · exact hno q q1 hq
          · have h5 := hb (q - 64 * k) (by omega)
            rw [b3 _ (by omega), show 64 * k + (q - 64 * k) = q by omega, decide_eq_true q1, Bool.true_and] at h5
            have h3 := hmem (q - 64 * k) (by omega)
            rw [show 64 * k + (q - 64 * k) = q by omega] at h3
            rw [h3, ← h5]
        refine ⟨_, b4, ?_, by rw [hn]; rfl⟩
        rw [hn, w64 (x := (k : Int) * 64) (by omega) (by omega), w64 (by omega) (by omega)]
        show (k : Int) * 64 + b = ((64 * k + b : Nat) : Int)
        omega
    have go : (∀ i, j ≤ i → i < 64 * (k + 1) → mem s i = false) → kk (IntKind.i64.wrap ((k : Int) + 1)) = some (res (nxt (mem s) j)) := fun hz => by
      rw [w64 (by omega) (by omega)]
      exact hnext h4 _ ⟨k + 1, by simp, by omega, by omega, hz⟩ rfl
    by_cases he : k = j / 64
    · rw [bif_pos (by omega), chk_pos (by omega), e2, chk_pos (by omega), chk_pos (by omega), chk_pos (by omega), letv_eq]
      have es : (((k : Nat) : Int)).toNat = k := by omega
      rw [es, w1, shr_eq _ _ (by omega)]
      have ep : ((2 : Int) ^ min (((j % 64 : Nat) : Int)).toNat 64) = ((2 ^ (j % 64) : Nat) : Int) := by
        rw [show min (((j % 64 : Nat) : Int)).toNat 64 = j % 64 by omega]; simp
      rw [ep]
      have hle : wd s k / 2 ^ (j % 64) * 2 ^ (j % 64) ≤ wd s k := Nat.div_mul_le_self _ _
      have w3 : wd s k < 18446744073709551616 := w2
      generalize hz : wd s k / 2 ^ (j % 64) * 2 ^ (j % 64) = z at hle
      rw [← Int.natCast_mul, hz, wu64 (by omega) (by omega)]
      have hbits : ∀ b, b < 64 → z.testBit b = (decide (j ≤ 64 * k + b) && (wd s k).testBit b) := by
        intro b hb
        rw [← hz, Nat.testBit_mul_two_pow, Nat.testBit_div_two_pow]
        by_cases hr : j % 64 ≤ b
        · rw [decide_eq_true hr, decide_eq_true (by omega), Bool.true_and, Bool.true_and, show b - j % 64 + j % 64 = b by omega]
        · rw [decide_eq_false hr, decide_eq_false (by omega)]; rfl
      obtain ⟨f1, f2⟩ := fin _ (by omega) hbits
      by_cases hv : z = 0
      · rw [bnot_pos (by omega)]
        exact go (f1 hv)
      · obtain ⟨t, t1, t2, t3⟩ := f2 hv
        rw [bnot_neg (by omega), t1, Option.bind_some, letv_eq, t2, ← t3]
    · rw [bif_neg (by omega)]
      have es : (((k : Nat) : Int)).toNat = k := by omega
      rw [es, w1]
      obtain ⟨f1, f2⟩ := fin (wd s k) w2 (fun b hb => by rw [decide_eq_true (by omega), Bool.true_and])
      by_cases hv : wd s k = 0
      · rw [bnot_pos (by omega)]
        exact go (f1 hv)
      · obtain ⟨t, t1, t2, t3⟩ := f2 hv
        rw [bnot_neg (by omega), t1, Option.bind_some, letv_eq, t2, ← t3]
  · rw [bif_neg h4]
    unfold bitset_Next_J1
    rw [nxt_none (fun i h1 h2 => hno i h1 (by omega))]; rfl
theorem Next_eq {s : List Int} (h : Wf s) (a : Int) (ha : a ≤ 9223372036854775807) : bitset_Next s a = some (res (nxt (mem s) (max a 0).toNat)) := by
  unfold bitset_Next
  obtain ⟨j, hj⟩ : ∃ j : Nat, max a 0 = (j : Int) := ⟨(max a 0).toNat, by omega⟩
  rw [hj, chk_pos (by omega), letv_eq, Int.tdiv_eq_ediv_of_nonneg (by omega), w64 (by omega) (by omega)]
  have := next_nat h j (by omega)
  rw [show ((j : Int)).toNat = j by omega]
  rw [← this]
  congr 1
/-- All ids below j. -/
def idsTo (p : Nat → Bool) (j : Nat) : List Int := ((List.range j).filter p).map fun (i : Nat) => (i : Int)
def ids (p : Nat → Bool) : List Int := idsTo p 256
theorem idsTo_len (p : Nat → Bool) (j : Nat) : (idsTo p j).length ≤ j := by
  unfold idsTo
  rw [List.length_map]
  have := List.length_filter_le p (List.range j)
  simpa using this
theorem idsTo_ext {p : Nat → Bool} {i j : Nat} (hij : i ≤ j) (h : ∀ k, i ≤ k → k < j → p k = false) : idsTo p j = idsTo p i := by
  induction j with
  | zero => obtain rfl : i = 0 := by omega
            rfl
  | succ j ih =>
    by_cases he : i = j + 1
    · rw [he]
    · rw [← ih (by omega) (fun k h1 h2 => h k h1 (by omega))]
      unfold idsTo
      rw [List.range_succ, List.filter_append]
      simp [h j (by omega) (by omega)]
theorem idsTo_succ {p : Nat → Bool} {j : Nat} (h : p j = true) : idsTo p (j + 1) = idsTo p j ++ [(j : Int)] := by
  unfold idsTo
  rw [List.range_succ, List.filter_append]
  simp [h]
theorem List_eq {s : List Int} (h : Wf s) : bitset_List s = some (ids (mem s)) := by
  unfold bitset_List
  rw [cutv_eq]
  unfold bitset_List_C1 bitset_List_R1
  rw [Next_eq h 0 (by omega), Option.bind_some]
  refine loop_by (fun x => ∃ j : Nat, j ≤ 256 ∧ x = ((res (nxt (mem s) j)).1, (res (nxt (mem s) j)).2.1, idsTo (mem s) j)) (fun x => 257 - x.2.2.length) (fun _ => some (ids (mem s))) ⟨0, by omega, rfl⟩ (by simp) ?_
  rintro k x ⟨j, hj, rfl⟩ hk
  unfold bitset_List_L1
  simp only at hk ⊢
  have hlen := idsTo_len (mem s) j
  cases hn : nxt (mem s) j with
  | none =>
    simp only [res, cond_false]
    unfold bitset_List_J2 bitset_List_J1
    unfold ids
    rw [idsTo_ext hj (nxt_no hn)]
  | some i =>
    obtain ⟨i1, i2, i3, i4⟩ := nxt_out hn
    simp only [res, cond_true]
    rw [chk_pos (by simp; omega), w64 (by omega) (by omega), Next_eq h _ (by omega), Option.bind_some]
    have e : (max ((i : Int) + 1) 0).toNat = i + 1 := by omega
    rw [e]
    have e2 : idsTo (mem s) j ++ [(i : Int)] = idsTo (mem s) (i + 1) := by rw [idsTo_succ i3, idsTo_ext i1 i4]
    rw [e2]
    have hlen2 := idsTo_len (mem s) (i + 1)
    refine hk _ ⟨i + 1, by omega, rfl⟩ ?_
    show 257 - (idsTo (mem s) (i + 1)).length < 257 - (idsTo (mem s) j).length
    rw [← e2, List.length_append]
    have : ([(i : Int)]).length = 1 := rfl
    have := idsTo_len (mem s) (i + 1)
    rw [← e2, List.length_append] at this
    omega
/-- The set of a list's ids. -/
def ofs : List Int → List Int → List Int
  | s, [] => s
  | s, a :: l => ofs ((bitset_Add s a).getD []) l
theorem ofs_eq : ∀ (l : List Int) (s : List Int), Wf s → Wf (ofs s l) ∧ ∀ i, i < 256 → mem (ofs s l) i = (mem s i || decide ((i : Int) ∈ l))
  | [], s, h => ⟨h, fun i _ => by simp [ofs]⟩
  | a :: l, s, h => by
    obtain ⟨t, t1, t2, t3⟩ := add_eq h a
    unfold ofs
    rw [t1, Option.getD_some]
    obtain ⟨g1, g2⟩ := ofs_eq l t t2
    refine ⟨g1, fun i hi => ?_⟩
    rw [g2 i hi, t3 i hi, Bool.or_assoc]
    congr 1
    rw [Bool.eq_iff_iff]; simp
theorem ofs_app : ∀ (l : List Int) (s : List Int) (a : Int), ofs s (l ++ [a]) = (bitset_Add (ofs s l) a).getD []
  | [], s, a => rfl
  | b :: l, s, a => by
    show ofs _ (l ++ [a]) = _
    rw [ofs_app l]; rfl
theorem Of_eq (l : List Int) (hl : l.length ≤ 140737488355328) : ∃ s, bitset_Of l = some s ∧ Wf s ∧ ∀ i, i < 256 → mem s i = decide ((i : Int) ∈ l) := by
  have hz := zero_wf
  refine ⟨ofs (List.replicate 4 0) l, ?_, (ofs_eq l _ hz).1, fun i hi => by rw [(ofs_eq l _ hz).2 i hi, zero_mem, Bool.false_or]⟩
  unfold bitset_Of
  refine loop_up (fun x => x.1) l.length (fun x => ∃ k : Nat, x = ((k : Int), ofs (List.replicate 4 0) (l.take k)) ∧ k ≤ l.length) (fun _ => some (ofs (List.replicate 4 0) l)) ⟨0, rfl, by omega⟩ (by show (l.length : Int) - 0 < _; omega) ?_
  rintro kk x ⟨k, rfl, hk⟩ hnext
  unfold bitset_Of_L1
  simp only at hnext ⊢
  by_cases h : (k : Int) < (l.length : Int)
  · rw [bif_pos h, chk_at (by omega) h]
    obtain ⟨t, t1, _, _⟩ := add_eq (ofs_eq (l.take k) _ hz).1 (l.getD k 0)
    rw [show ((k : Int)).toNat = k by omega, t1, Option.bind_some, w64 (by omega) (by omega)]
    refine hnext h _ ⟨k + 1, ?_, by omega⟩ rfl
    have := take_at (xs := l) (i := (k : Int)) (d := 0) (by omega) h
    rw [show ((k : Int) + 1).toNat = k + 1 by omega, show ((k : Int)).toNat = k by omega] at this
    rw [this, ofs_app, t1]; simp
  · rw [bif_neg h]
    unfold bitset_Of_J1
    rw [List.take_of_length_le (by omega)]
end BS
end Go.Proofs.YtejedlpnejjnbaaDoorBV
