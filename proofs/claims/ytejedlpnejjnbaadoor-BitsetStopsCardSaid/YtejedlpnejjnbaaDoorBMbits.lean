/- Words of 64 bits, as natural numbers: their bits, the last one, how many there are. -/
import Derived.Test.YtejedlpnejjnbaaDoorBMKit
import Derived.Test.YtejedlpnejjnbaaDoorBDbits
namespace Go.Proofs.YtejedlpnejjnbaaDoorBV
set_option linter.unusedVariables false
set_option linter.unusedSimpArgs false
namespace BS
theorem wrap_u64 (n : Int) : IntKind.u64.wrap n = n % 18446744073709551616 := by simp [IntKind.wrap, IntKind.bits, IntKind.signed]
theorem wu64 {n : Int} (h0 : 0 ≤ n) (h1 : n < 18446744073709551616) : IntKind.u64.wrap n = n := by rw [wrap_u64]; omega
theorem ofInt_nat {n : Nat} (h : n < 18446744073709551616) : (BitVec.ofInt 64 (n : Int)).toNat = n := by
  rw [BitVec.toNat_ofInt]
  have e : ((2 ^ 64 : Nat) : Int) = 18446744073709551616 := by decide
  rw [e]; omega
theorem and_nat {a b : Nat} (ha : a < 18446744073709551616) (hb : b < 18446744073709551616) : bitsOp .and .u64 (a : Int) (b : Int) = ((a &&& b : Nat) : Int) := by
  show IntKind.u64.wrap (BitVec.ofInt 64 (a : Int) &&& BitVec.ofInt 64 (b : Int)).toNat = _
  rw [BitVec.toNat_and, ofInt_nat ha, ofInt_nat hb]
  have := Nat.and_lt_two_pow a (y := b) (n := 64) hb
  exact wu64 (by omega) (by omega)
theorem or_nat {a b : Nat} (ha : a < 18446744073709551616) (hb : b < 18446744073709551616) : bitsOp .or .u64 (a : Int) (b : Int) = ((a ||| b : Nat) : Int) := by
  show IntKind.u64.wrap (BitVec.ofInt 64 (a : Int) ||| BitVec.ofInt 64 (b : Int)).toNat = _
  rw [BitVec.toNat_or, ofInt_nat ha, ofInt_nat hb]
  have := Nat.or_lt_two_pow (x := a) (y := b) (n := 64) ha hb
  exact wu64 (by omega) (by omega)
theorem andNot_nat {a b : Nat} (ha : a < 18446744073709551616) (hb : b < 18446744073709551616) : bitsOp .andNot .u64 (a : Int) (b : Int) = ((a &&& (18446744073709551615 - b) : Nat) : Int) := by
  show IntKind.u64.wrap (BitVec.ofInt 64 (a : Int) &&& ~~~BitVec.ofInt 64 (b : Int)).toNat = _
  rw [BitVec.toNat_and, BitVec.toNat_not, ofInt_nat ha, ofInt_nat hb]
  rw [show (2 ^ 64 - 1 - b : Nat) = 18446744073709551615 - b from rfl]
  have := Nat.and_lt_two_pow a (y := 18446744073709551615 - b) (n := 64) (by omega)
  exact wu64 (by omega) (by omega)
theorem not_bit {b : Nat} (hb : b < 18446744073709551616) (i : Nat) : (18446744073709551615 - b).testBit i = (decide (i < 64) && !b.testBit i) := by
  have := Nat.testBit_two_pow_sub_succ (n := 64) hb i
  rw [← this]; congr 1; omega

/-! The last bit. -/
theorem low_and (k m : Nat) (hk : k < 64) (h : 2 ^ k * (2 * m + 1) < 2 ^ 64) : (2 ^ k * (2 * m + 1)) &&& (2 ^ 64 - 2 ^ k * (2 * m + 1)) = 2 ^ k := by
  apply Nat.eq_of_testBit_eq
  intro i
  have e1 : 2 ^ 64 - 2 ^ k * (2 * m + 1) = 2 ^ 64 - ((2 ^ k * (2 * m + 1) - 1) + 1) := by
    have : 0 < 2 ^ k * (2 * m + 1) := Nat.mul_pos (Nat.two_pow_pos k) (by omega)
    omega
  have hp : 0 < 2 ^ k := Nat.two_pow_pos k
  have hx : 2 ^ k * (2 * m + 1) - 1 = 2 ^ k * (2 * m) + (2 ^ k - 1) := by
    rw [Nat.mul_add, Nat.mul_one]; omega
  rw [Nat.testBit_and, e1, Nat.testBit_two_pow_sub_succ (by omega), hx, Nat.testBit_two_pow_mul, Nat.testBit_two_pow_mul_add _ (by omega), Nat.testBit_two_pow, Nat.testBit_two_pow_sub_one]
  by_cases hik : i < k
  · have : ¬ i ≥ k := by omega
    simp [hik, this]; omega
  · by_cases he : k = i
    · subst he
      simp [hk]
    · have h1 : i - k = (i - k - 1) + 1 := by omega
      have hge : i ≥ k := by omega
      simp only [hik, hge, he, decide_true, decide_false, Bool.true_and, if_false]
      rw [h1, Nat.testBit_succ, Nat.testBit_succ]
      have e3 : (2 * m + 1) / 2 = m := by omega
      have e4 : (2 * m) / 2 = m := by omega
      rw [e3, e4]
      cases m.testBit (i - k - 1) <;> simp
/-- A number's last bit. -/
theorem low_ex {x : Nat} (h : x ≠ 0) : ∃ k m, x = 2 ^ k * (2 * m + 1) := by
  induction x using Nat.strongRecOn with
  | _ x ih =>
    by_cases ho : x % 2 = 1
    · exact ⟨0, x / 2, by omega⟩
    · obtain ⟨k, m, hk⟩ := ih (x / 2) (by omega) (by omega)
      refine ⟨k + 1, m, ?_⟩
      rw [Nat.pow_succ, Nat.mul_comm (2 ^ k) 2, Nat.mul_assoc, ← hk]; omega
def tz (x : Nat) (k : Nat) : Prop := x.testBit k = true ∧ ∀ i, i < k → x.testBit i = false
theorem low_tz (k m : Nat) : tz (2 ^ k * (2 * m + 1)) k := by
  constructor
  · rw [Nat.testBit_two_pow_mul]; simp
  · intro i hi
    rw [Nat.testBit_two_pow_mul]
    have : ¬ i ≥ k := by omega
    simp [this]
theorem tz_unique {x j k : Nat} (h1 : tz x j) (h2 : tz x k) : j = k := by
  rcases Nat.lt_trichotomy j k with h | h | h
  · have := h2.2 j h; rw [h1.1] at this; cases this
  · exact h
  · have := h1.2 k h; rw [h2.1] at this; cases this
def tzT (k : Nat) : Bool := decide (Int.fdiv (IntKind.u64.wrap (((2 ^ k : Nat) : Int) * 285870213051353865)) (2 ^ min (58 : Int).toNat 64) = ((Int.fdiv (IntKind.u64.wrap (((2 ^ k : Nat) : Int) * 285870213051353865)) (2 ^ min (58 : Int).toNat 64)).toNat : Int)) && decide (Int.fdiv (IntKind.u64.wrap (((2 ^ k : Nat) : Int) * 285870213051353865)) (2 ^ min (58 : Int).toNat 64) < 64) && decide (IntKind.i64.wrap (gl_math_bits_deBruijn64tab.getD (Int.fdiv (IntKind.u64.wrap (((2 ^ k : Nat) : Int) * 285870213051353865)) (2 ^ min (58 : Int).toNat 64)).toNat 0) = (k : Int))
theorem tzT_all : (List.range 64).all tzT = true := by decide +kernel
theorem tz_eq {x : Nat} (h : x ≠ 0) (hx : x < 18446744073709551616) : ∃ k, k < 64 ∧ tz x k ∧ math_bits_TrailingZeros64 (x : Int) = some (k : Int) := by
  obtain ⟨k, m, hkm⟩ := low_ex h
  have hk : k < 64 := by
    rcases Nat.lt_or_ge k 64 with h | h
    · exact h
    · exfalso
      have h1 : 2 ^ 64 ≤ 2 ^ k := Nat.pow_le_pow_right (by omega) h
      have h2 : 2 ^ k * 1 ≤ 2 ^ k * (2 * m + 1) := Nat.mul_le_mul_left _ (by omega)
      have : (2 : Nat) ^ 64 = 18446744073709551616 := by decide
      omega
  refine ⟨k, hk, hkm ▸ low_tz k m, ?_⟩
  unfold math_bits_TrailingZeros64
  have e0 : ((x : Nat) : Int) ≠ 0 := by omega
  rw [bif_neg e0]
  have e1 : IntKind.u64.wrap (0 - (x : Int)) = ((18446744073709551616 - x : Nat) : Int) := by rw [wrap_u64]; omega
  have e2 : bitsOp .and .u64 (x : Int) (IntKind.u64.wrap (0 - (x : Int))) = ((2 ^ k : Nat) : Int) := by
    rw [e1, and_nat hx (by omega)]
    congr 1
    have := low_and k m hk (by rw [← hkm]; exact hx)
    rw [← hkm] at this
    exact this
  rw [e2]
  have ht := List.all_eq_true.1 tzT_all k (List.mem_range.2 hk)
  unfold tzT at ht
  simp only [Bool.and_eq_true, decide_eq_true_eq] at ht
  obtain ⟨⟨t1, t2⟩, t3⟩ := ht
  rw [chk_pos (by omega), chk_pos ⟨by omega, t2⟩, letv_eq, t3]
end BS
end Go.Proofs.YtejedlpnejjnbaaDoorBV
