/- Sets of ids as four words; the document's rising lists. -/
import Derived.Test.YtejedlpnejjnbaaDoorBMbits
import Derived.Test.YtejedlpnejjnbaaDoorBDbitset
import Derived.Test.YtejedlpnejjnbaaDoorBDR02
import Derived.Test.YtejedlpnejjnbaaDoorBDR04
namespace Go.Proofs.YtejedlpnejjnbaaDoorBV
set_option linter.unusedVariables false
set_option linter.unusedSimpArgs false
namespace BS
abbrev M : Nat := 18446744073709551616
structure Wf (s : List Int) : Prop where
  ex : ∃ a b c d : Nat, s = [(a : Int), (b : Int), (c : Int), (d : Int)] ∧ a < M ∧ b < M ∧ c < M ∧ d < M
def wd (s : List Int) (k : Nat) : Nat := (s.getD k 0).toNat
def mem (s : List Int) (i : Nat) : Bool := (wd s (i / 64)).testBit (i % 64)
theorem Wf.len {s : List Int} (h : Wf s) : s.length = 4 := by obtain ⟨a, b, c, d, rfl, _⟩ := h.ex; rfl
theorem Wf.wd {s : List Int} (h : Wf s) (k : Nat) : s.getD k 0 = (BS.wd s k : Int) ∧ BS.wd s k < M := by
  obtain ⟨a, b, c, d, rfl, ha, hb, hc, hd⟩ := h.ex
  unfold BS.wd
  match k with
  | 0 => exact ⟨by simp, by simpa using ha⟩
  | 1 => exact ⟨by simp, by simpa using hb⟩
  | 2 => exact ⟨by simp, by simpa using hc⟩
  | 3 => exact ⟨by simp, by simpa using hd⟩
  | k + 4 => exact ⟨by simp, by simp⟩
theorem Wf.bit {s : List Int} (h : Wf s) (k i : Nat) (hi : 64 ≤ i) : (BS.wd s k).testBit i = false := by
  refine Nat.testBit_lt_two_pow (Nat.lt_of_lt_of_le (h.wd k).2 ?_)
  have : (2 : Nat) ^ 64 ≤ 2 ^ i := Nat.pow_le_pow_right (by omega) hi
  have e : (2 : Nat) ^ 64 = M := by decide
  omega
theorem ext {s t : List Int} (hs : Wf s) (ht : Wf t) (h : ∀ i, i < 256 → mem s i = mem t i) : s = t := by
  have hw : ∀ k, k < 4 → wd s k = wd t k := by
    intro k hk
    apply Nat.eq_of_testBit_eq
    intro i
    by_cases hi : i < 64
    · have := h (64 * k + i) (by omega)
      unfold mem at this
      rw [show (64 * k + i) / 64 = k by omega, show (64 * k + i) % 64 = i by omega] at this
      exact this
    · rw [hs.bit k i (by omega), ht.bit k i (by omega)]
  apply List.ext_getElem?
  intro k
  by_cases hk : k < 4
  · have e1 := (hs.wd k).1
    have e2 := (ht.wd k).1
    rw [List.getD_eq_getElem?_getD, List.getElem?_eq_getElem (by rw [hs.len]; exact hk)] at e1
    rw [List.getD_eq_getElem?_getD, List.getElem?_eq_getElem (by rw [ht.len]; exact hk)] at e2
    rw [List.getElem?_eq_getElem (by rw [hs.len]; exact hk), List.getElem?_eq_getElem (by rw [ht.len]; exact hk)]
    simp only [Option.getD_some] at e1 e2
    rw [e1, e2, hw k hk]
  · rw [List.getElem?_eq_none (by rw [hs.len]; omega), List.getElem?_eq_none (by rw [ht.len]; omega)]
/-- One word anew. -/
theorem Wf.set {s : List Int} (h : Wf s) (k v : Nat) (hk : k < 4) (hv : v < M) : Wf (s.set k (v : Int)) ∧ ∀ i, i < 256 → mem (s.set k (v : Int)) i = if i / 64 = k then v.testBit (i % 64) else mem s i := by
  refine ⟨?_, fun i hi => ?_⟩
  · obtain ⟨a, b, c, d, rfl, ha, hb, hc, hd⟩ := h.ex
    match k, hk with
    | 0, _ => exact ⟨v, b, c, d, rfl, hv, hb, hc, hd⟩
    | 1, _ => exact ⟨a, v, c, d, rfl, ha, hv, hc, hd⟩
    | 2, _ => exact ⟨a, b, v, d, rfl, ha, hb, hv, hd⟩
    | 3, _ => exact ⟨a, b, c, v, rfl, ha, hb, hc, hv⟩
  · unfold mem BS.wd
    rw [List.getD_eq_getElem?_getD, List.getD_eq_getElem?_getD, List.getElem?_set]
    by_cases hik : i / 64 = k
    · rw [if_pos hik.symm, if_pos hik, if_pos (by rw [h.len]; omega)]; simp
    · rw [if_neg (fun e => hik e.symm), if_neg hik]
theorem fine_eq (a : Int) : bitset_fine a = some (decide (0 ≤ a ∧ a ≤ 255)) := by
  unfold bitset_fine
  by_cases h : a ≥ 0
  · rw [bif_pos h]; congr 1; rw [decide_eq_decide]; omega
  · rw [bif_neg h, decide_eq_false (by omega)]
theorem at_eq {n : Nat} (h : n < 256) : IntKind.i64.wrap (Int.tdiv (n : Int) 64) = ((n / 64 : Nat) : Int) ∧ Int.tmod (n : Int) 64 = ((n % 64 : Nat) : Int) := by
  rw [Int.tdiv_eq_ediv_of_nonneg (by omega), Int.tmod_eq_emod_of_nonneg (by omega)]
  exact ⟨by rw [w64 (by omega) (by omega)]; omega, by omega⟩
theorem bit_eq {r : Nat} (h : r < 64) : IntKind.u64.wrap (1 * 2 ^ min ((r : Nat) : Int).toNat 64) = ((2 ^ r : Nat) : Int) ∧ 2 ^ r < M := by
  have h1 : (2 : Nat) ^ r < 2 ^ 64 := Nat.pow_lt_pow_right (by omega) h
  have e : (2 : Nat) ^ 64 = M := by decide
  have e2 : min ((r : Nat) : Int).toNat 64 = r := by omega
  rw [e2, Int.one_mul]
  have e3 : ((2 : Int) ^ r) = ((2 ^ r : Nat) : Int) := by simp
  rw [e3]
  generalize 2 ^ r = z at h1
  exact ⟨wu64 (by omega) (by omega), by omega⟩
theorem add_eq {s : List Int} (h : Wf s) (a : Int) : ∃ t, bitset_Add s a = some t ∧ Wf t ∧ ∀ i, i < 256 → mem t i = (mem s i || decide ((i : Int) = a)) := by
  unfold bitset_Add
  rw [fine_eq]
  by_cases ha : 0 ≤ a ∧ a ≤ 255
  · obtain ⟨n, rfl⟩ : ∃ n : Nat, a = (n : Int) := ⟨a.toNat, by omega⟩
    rw [decide_eq_true ha, Option.bind_some, cond_true]
    obtain ⟨e1, e2⟩ := at_eq (n := n) (by omega)
    obtain ⟨e3, e4⟩ := bit_eq (r := n % 64) (by omega)
    rw [e1, e2, e3]
    have e5 : (((n / 64 : Nat) : Int)).toNat = n / 64 := by omega
    rw [e5]
    obtain ⟨w1, w2⟩ := h.wd (n / 64)
    rw [chk_pos (by omega), chk_pos (by omega), chk_pos (by omega), chk_pos (by omega), chk_pos (by omega), w1, or_nat w2 e4]
    have hlt : BS.wd s (n / 64) ||| 2 ^ (n % 64) < M := by
      have := Nat.or_lt_two_pow (x := BS.wd s (n / 64)) (y := 2 ^ (n % 64)) (n := 64) w2 e4
      exact this
    obtain ⟨g1, g2⟩ := h.set (n / 64) _ (by omega) hlt
    refine ⟨_, rfl, g1, fun i hi => ?_⟩
    rw [g2 i hi]
    split
    · rename_i hk
      rw [Nat.testBit_or, Nat.testBit_two_pow]
      unfold mem
      rw [hk]
      congr 1
      rw [decide_eq_decide]; omega
    · rename_i hk
      rw [decide_eq_false (by omega), Bool.or_false]
  · rw [decide_eq_false ha, Option.bind_some, cond_false]
    exact ⟨s, rfl, h, fun i hi => by rw [decide_eq_false (by omega), Bool.or_false]⟩
theorem drop_eq {s : List Int} (h : Wf s) (a : Int) : ∃ t, bitset_Drop s a = some t ∧ Wf t ∧ ∀ i, i < 256 → mem t i = (mem s i && !decide ((i : Int) = a)) := by
  unfold bitset_Drop
  rw [fine_eq]
  by_cases ha : 0 ≤ a ∧ a ≤ 255
  · obtain ⟨n, rfl⟩ : ∃ n : Nat, a = (n : Int) := ⟨a.toNat, by omega⟩
    rw [decide_eq_true ha, Option.bind_some, cond_true]
    obtain ⟨e1, e2⟩ := at_eq (n := n) (by omega)
    obtain ⟨e3, e4⟩ := bit_eq (r := n % 64) (by omega)
    rw [e1, e2, e3]
    have e5 : (((n / 64 : Nat) : Int)).toNat = n / 64 := by omega
    rw [e5]
    obtain ⟨w1, w2⟩ := h.wd (n / 64)
    rw [chk_pos (by omega), chk_pos (by omega), chk_pos (by omega), chk_pos (by omega), chk_pos (by omega), w1, andNot_nat w2 e4]
    have hlt : BS.wd s (n / 64) &&& (18446744073709551615 - 2 ^ (n % 64)) < M := Nat.and_lt_two_pow (n := 64) _ (Nat.lt_of_le_of_lt (Nat.sub_le _ _) (by decide))
    obtain ⟨g1, g2⟩ := h.set (n / 64) _ (by omega) hlt
    refine ⟨_, rfl, g1, fun i hi => ?_⟩
    rw [g2 i hi]
    split
    · rename_i hk
      rw [Nat.testBit_and, not_bit e4, Nat.testBit_two_pow]
      unfold mem
      rw [hk, decide_eq_true (by omega : i % 64 < 64), Bool.true_and]
      congr 2
      rw [decide_eq_decide]; omega
    · rename_i hk
      rw [decide_eq_false (by omega)]; simp
  · rw [decide_eq_false ha, Option.bind_some, cond_false]
    exact ⟨s, rfl, h, fun i hi => by rw [decide_eq_false (by omega)]; simp⟩
theorem shr_eq (x r : Nat) (h : r < 64) : Int.fdiv (x : Int) (2 ^ min ((r : Nat) : Int).toNat 64) = ((x / 2 ^ r : Nat) : Int) := by
  have e2 : min ((r : Nat) : Int).toNat 64 = r := by omega
  rw [e2]
  have e3 : ((2 : Int) ^ r) = ((2 ^ r : Nat) : Int) := by simp
  rw [e3, Int.fdiv_eq_ediv_of_nonneg _ (Int.natCast_nonneg _)]
  exact (Int.natCast_ediv _ _).symm
theorem has_eq {s : List Int} (h : Wf s) (a : Int) : bitset_Has s a = some (decide (0 ≤ a ∧ a ≤ 255) && mem s a.toNat) := by
  unfold bitset_Has
  rw [fine_eq]
  by_cases ha : 0 ≤ a ∧ a ≤ 255
  · obtain ⟨n, rfl⟩ : ∃ n : Nat, a = (n : Int) := ⟨a.toNat, by omega⟩
    rw [decide_eq_true ha, Option.bind_some, cond_true]
    obtain ⟨e1, e2⟩ := at_eq (n := n) (by omega)
    rw [e1, e2]
    have e5 : (((n / 64 : Nat) : Int)).toNat = n / 64 := by omega
    rw [e5]
    obtain ⟨w1, w2⟩ := h.wd (n / 64)
    rw [chk_pos (by omega), chk_pos (by omega), chk_pos (by omega), chk_pos (by omega), w1, shr_eq _ _ (by omega), letv_eq]
    have hb : BS.wd s (n / 64) / 2 ^ (n % 64) < 18446744073709551616 := Nat.lt_of_le_of_lt (Nat.div_le_self _ _) w2
    have := and_nat hb (b := 1) (by omega)
    rw [show ((1 : Nat) : Int) = 1 from rfl] at this
    rw [this, Nat.and_one_is_mod]
    have ht : mem s n = decide (BS.wd s (n / 64) / 2 ^ (n % 64) % 2 = 1) := by
      unfold mem
      rw [Nat.testBit_eq_decide_div_mod_eq]
    rw [show ((n : Int)).toNat = n by omega, ht, Bool.true_and]
    congr 1
    rw [decide_eq_decide]; omega
  · rw [decide_eq_false ha, Option.bind_some, cond_false, Bool.false_and]
end BS
end Go.Proofs.YtejedlpnejjnbaaDoorBV
