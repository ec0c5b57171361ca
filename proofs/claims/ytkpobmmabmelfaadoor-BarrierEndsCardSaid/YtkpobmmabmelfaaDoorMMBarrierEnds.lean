/- The plain law of BarrierEnds. -/
import Derived.Test.YtkpobmmabmelfaaDoorVcG1
import Derived.OpenShut
import Derived.Test.YtkpobmmabmelfaaDoorDbits
import Derived.Test.YtkpobmmabmelfaaDoorDbitset
import Derived.Test.YtkpobmmabmelfaaDoorDR02
import Derived.Test.YtkpobmmabmelfaaDoorDR04
import Derived.Test.YtkpobmmabmelfaaDoorDroll
import Derived.Test.YtkpobmmabmelfaaDoorDR21
import Derived.Test.YtkpobmmabmelfaaDoorDL21
import Derived.Test.YtkpobmmabmelfaaDoorDbarrier
import Derived.Test.YtkpobmmabmelfaaDoorDphase
import Derived.Test.YtkpobmmabmelfaaDoorDR20
import Derived.Test.YtkpobmmabmelfaaDoorDR22
import Derived.Test.YtkpobmmabmelfaaDoorDL22
import Derived.Test.YtkpobmmabmelfaaDoorDBarrierEnds
/- Small lemmas on numbers, lists, and what the functions of data are built of. No program stands here. -/
namespace Go.Proofs.YtkpobmmabmelfaaDoorV
open Go.RowKit

theorem w64 {x : Int} (h1 : -9223372036854775808 ≤ x) (h2 : x ≤ 9223372036854775807) : IntKind.i64.wrap x = x := by
  rw [IntKind.wrap_i64]; omega
theorem wfi {n : Int} (h : wfD (.int .i64) n) : -9223372036854775808 ≤ n ∧ n ≤ 9223372036854775807 := wf_i64 h
theorem wfu8 {n : Int} (h : wfD (.int .u8) n) : 0 ≤ n ∧ n ≤ 255 := by
  have h : (Lit.int .u8 n).wf = true := h
  simp [Lit.wf, IntKind.min, IntKind.max, IntKind.signed, IntKind.bits] at h
  omega
theorem wfl {e : Ty} {xs : List e.den} (h : wfD (.sl e) xs) : xs.length ≤ 140737488355328 ∧ ∀ x ∈ xs, wfD e x := h
theorem cond_some {b : Bool} : (cond b (some true) (some false) : Option Bool) = some b := by cases b <;> rfl
theorem cond_bind {α β : Type} (b : Bool) (x y : Option α) (f : α → Option β) : Option.bind (cond b x y) f = cond b (Option.bind x f) (Option.bind y f) := by cases b <;> rfl
theorem bif_pos {R : Type} {p : Prop} [Decidable p] {x y : R} (h : p) : cond (decide p) x y = x := by rw [decide_eq_true h]; rfl
theorem bif_neg {R : Type} {p : Prop} [Decidable p] {x y : R} (h : ¬ p) : cond (decide p) x y = y := by rw [decide_eq_false h]; rfl
theorem bnot_pos {R : Type} {p : Prop} [Decidable p] {x y : R} (h : p) : cond (!decide p) x y = y := by rw [decide_eq_true h]; rfl
theorem bnot_neg {R : Type} {p : Prop} [Decidable p] {x y : R} (h : ¬ p) : cond (!decide p) x y = x := by rw [decide_eq_false h]; rfl

/-- The element at a place that is there. -/
theorem getD_at {α : Type} {xs : List α} {i : Int} {d : α} (h : i.toNat < xs.length) : xs.getD i.toNat d = xs[i.toNat] := by
  rw [List.getD_eq_getElem?_getD, List.getElem?_eq_getElem h]; rfl
theorem getD_mem {α : Type} {xs : List α} {i : Int} {d : α} (h0 : 0 ≤ i) (h : i < (xs.length : Int)) : xs.getD i.toNat d ∈ xs := by
  rw [getD_at (by omega)]; exact List.getElem_mem _
theorem drop_at {α : Type} {xs : List α} {i : Int} {d : α} (h0 : 0 ≤ i) (h : i < (xs.length : Int)) : xs.drop i.toNat = xs.getD i.toNat d :: xs.drop (i + 1).toNat := by
  rw [getD_at (by omega), show (i + 1).toNat = i.toNat + 1 by omega]
  exact List.drop_eq_getElem_cons (by omega)
theorem drop_end {α : Type} {xs : List α} {i : Int} (h : ¬ i < (xs.length : Int)) : xs.drop i.toNat = [] := List.drop_of_length_le (by omega)
theorem take_at {α : Type} {xs : List α} {i : Int} {d : α} (h0 : 0 ≤ i) (h : i < (xs.length : Int)) : xs.take (i + 1).toNat = xs.take i.toNat ++ [xs.getD i.toNat d] := by
  rw [getD_at (by omega), show (i + 1).toNat = i.toNat + 1 by omega]
  exact List.take_succ_eq_append_getElem (by omega)
theorem take_end {α : Type} {xs : List α} {i : Int} (h : ¬ i < (xs.length : Int)) : xs.take i.toNat = xs := List.take_of_length_le (by omega)
theorem chk_at {α R : Type} {xs : List α} {i : Int} {x : Option R} (h0 : 0 ≤ i) (h : i < (xs.length : Int)) : chk (0 ≤ i ∧ i < (xs.length : Int)) x = x := chk_pos ⟨h0, h⟩

theorem u8_at {xs : List Int} {m : Nat} (h : wfD (.arr m (.int .u8)) xs) (i : Nat) : 0 ≤ xs.getD i 0 ∧ xs.getD i 0 ≤ 255 := by
  by_cases hi : i < xs.length
  · have := getD_mem (xs := xs) (i := (i : Int)) (d := 0) (by omega) (by omega)
    exact wfu8 (h.2 _ (by simpa using this))
  · rw [List.getD_eq_getElem?_getD, List.getElem?_eq_none (by omega)]; simp
theorem wfu16 {n : Int} (h : wfD (.int .u16) n) : 0 ≤ n ∧ n ≤ 65535 := by
  have h : (Lit.int .u16 n).wf = true := h
  simp [Lit.wf, IntKind.min, IntKind.max, IntKind.signed, IntKind.bits] at h
  omega
theorem u16_at {xs : List Int} {m : Nat} (h : wfD (.arr m (.int .u16)) xs) (i : Nat) : 0 ≤ xs.getD i 0 ∧ xs.getD i 0 ≤ 65535 := by
  by_cases hi : i < xs.length
  · have := getD_mem (xs := xs) (i := (i : Int)) (d := 0) (by omega) (by omega)
    exact wfu16 (h.2 _ (by simpa using this))
  · rw [List.getD_eq_getElem?_getD, List.getElem?_eq_none (by omega)]; simp
/-- A loop that counts up from i to n: what it answers, by what is known while it runs. -/
theorem loop_up {X R : Type} {F : (X → Option R) → X → Option R} (idx : X → Int) (n : Int) (inv : X → Prop) (spec : X → Option R) {x : X} (hx : inv x) (hn : n - idx x < 1152921504606846976)
    (h : ∀ k x, inv x → (idx x < n → ∀ y, inv y → idx y = idx x + 1 → k y = spec y) → F k x = spec x) : loop F x = spec x := by
  refine loop_by inv (fun x => (n - idx x).toNat) spec hx (by omega) fun k x hi hk => h k x hi fun hl y hy he => hk y hy (by omega)
/-- The same, where what it answers is told by a relation. -/
theorem loop_to {X R : Type} {F : (X → Option R) → X → Option R} (idx : X → Int) (n : Int) (inv : X → Option R → Prop) {x : X} {r : Option R} (hx : inv x r) (hn : n - idx x < 1152921504606846976)
    (h : ∀ k x r, inv x r → (idx x < n → ∀ y r', inv y r' → idx y = idx x + 1 → k y = r') → F k x = r) : loop F x = r := by
  have key : ∀ m x r, inv x r → (n - idx x).toNat < m → fixN F m x = r := by
    intro m
    induction m with
    | zero => intro x r _ h; omega
    | succ m ih => intro x r hi hm; exact h _ x r hi fun hl y r' hy he => ih y r' hy (by omega)
  unfold loop
  exact key FUEL x r hx (by rw [FUEL_eq]; omega)
end Go.Proofs.YtkpobmmabmelfaaDoorV
/- Words of 64 bits, as natural numbers: their bits, the last one, how many there are. -/
namespace Go.Proofs.YtkpobmmabmelfaaDoorV
set_option linter.unusedVariables false
set_option linter.unusedSimpArgs false
namespace BS
theorem wrap_u64 (n : Int) : IntKind.u64.wrap n = n % 18446744073709551616 := by simp [IntKind.wrap, IntKind.bits, IntKind.signed]
theorem wu64 {n : Int} (h0 : 0 ≤ n) (h1 : n < 18446744073709551616) : IntKind.u64.wrap n = n := by rw [wrap_u64]; omega
theorem ofInt_nat {n : Nat} (h : n < 18446744073709551616) : (BitVec.ofInt 64 (n : Int)).toNat = n := by
  rw [BitVec.toNat_ofInt]
  have e : ((2 ^ 64 : Nat) : Int) = 18446744073709551616 := by decide
  rw [e]; omega
theorem and_nat {a b : Nat} (ha : a < 18446744073709551616) (hb : b < 18446744073709551616) : bitsOp .and .u64 (a : Int) (b : Int) = ((a &&& b : Nat) : Int) := by
  show IntKind.u64.wrap (BitVec.ofInt 64 (a : Int) &&& BitVec.ofInt 64 (b : Int)).toNat = _
  rw [BitVec.toNat_and, ofInt_nat ha, ofInt_nat hb]
  have := Nat.and_lt_two_pow a (y := b) (n := 64) hb
  exact wu64 (by omega) (by omega)
theorem or_nat {a b : Nat} (ha : a < 18446744073709551616) (hb : b < 18446744073709551616) : bitsOp .or .u64 (a : Int) (b : Int) = ((a ||| b : Nat) : Int) := by
  show IntKind.u64.wrap (BitVec.ofInt 64 (a : Int) ||| BitVec.ofInt 64 (b : Int)).toNat = _
  rw [BitVec.toNat_or, ofInt_nat ha, ofInt_nat hb]
  have := Nat.or_lt_two_pow (x := a) (y := b) (n := 64) ha hb
  exact wu64 (by omega) (by omega)
theorem andNot_nat {a b : Nat} (ha : a < 18446744073709551616) (hb : b < 18446744073709551616) : bitsOp .andNot .u64 (a : Int) (b : Int) = ((a &&& (18446744073709551615 - b) : Nat) : Int) := by
  show IntKind.u64.wrap (BitVec.ofInt 64 (a : Int) &&& ~~~BitVec.ofInt 64 (b : Int)).toNat = _
  rw [BitVec.toNat_and, BitVec.toNat_not, ofInt_nat ha, ofInt_nat hb]
  rw [show (2 ^ 64 - 1 - b : Nat) = 18446744073709551615 - b from rfl]
  have := Nat.and_lt_two_pow a (y := 18446744073709551615 - b) (n := 64) (by omega)
  exact wu64 (by omega) (by omega)
theorem not_bit {b : Nat} (hb : b < 18446744073709551616) (i : Nat) : (18446744073709551615 - b).testBit i = (decide (i < 64) && !b.testBit i) := by
  have := Nat.testBit_two_pow_sub_succ (n := 64) hb i
  rw [← this]; congr 1; omega

/-! The last bit. -/
theorem low_and (k m : Nat) (hk : k < 64) (h : 2 ^ k * (2 * m + 1) < 2 ^ 64) : (2 ^ k * (2 * m + 1)) &&& (2 ^ 64 - 2 ^ k * (2 * m + 1)) = 2 ^ k := by
  apply Nat.eq_of_testBit_eq
  intro i
  have e1 : 2 ^ 64 - 2 ^ k * (2 * m + 1) = 2 ^ 64 - ((2 ^ k * (2 * m + 1) - 1) + 1) := by
    have : 0 < 2 ^ k * (2 * m + 1) := Nat.mul_pos (Nat.two_pow_pos k) (by omega)
    omega
  have hp : 0 < 2 ^ k := Nat.two_pow_pos k
  have hx : 2 ^ k * (2 * m + 1) - 1 = 2 ^ k * (2 * m) + (2 ^ k - 1) := by
    rw [Nat.mul_add, Nat.mul_one]; omega
  rw [Nat.testBit_and, e1, Nat.testBit_two_pow_sub_succ (by omega), hx, Nat.testBit_two_pow_mul, Nat.testBit_two_pow_mul_add _ (by omega), Nat.testBit_two_pow, Nat.testBit_two_pow_sub_one]
  by_cases hik : i < k
  · have : ¬ i ≥ k := by omega
    simp [hik, this]; omega
  · by_cases he : k = i
    · subst he
      simp [hk]
    · have h1 : i - k = (i - k - 1) + 1 := by omega
      have hge : i ≥ k := by omega
      simp only [hik, hge, he, decide_true, decide_false, Bool.true_and, if_false]
      rw [h1, Nat.testBit_succ, Nat.testBit_succ]
      have e3 : (2 * m + 1) / 2 = m := by omega
      have e4 : (2 * m) / 2 = m := by omega
      rw [e3, e4]
      cases m.testBit (i - k - 1) <;> simp
/-- A number's last bit. -/
theorem low_ex {x : Nat} (h : x ≠ 0) : ∃ k m, x = 2 ^ k * (2 * m + 1) := by
  induction x using Nat.strongRecOn with
  | _ x ih =>
    by_cases ho : x % 2 = 1
    · exact ⟨0, x / 2, by omega⟩
    · obtain ⟨k, m, hk⟩ := ih (x / 2) (by omega) (by omega)
      refine ⟨k + 1, m, ?_⟩
      rw [Nat.pow_succ, Nat.mul_comm (2 ^ k) 2, Nat.mul_assoc, ← hk]; omega
def tz (x : Nat) (k : Nat) : Prop := x.testBit k = true ∧ ∀ i, i < k → x.testBit i = false
theorem low_tz (k m : Nat) : tz (2 ^ k * (2 * m + 1)) k := by
  constructor
  · rw [Nat.testBit_two_pow_mul]; simp
  · intro i hi
    rw [Nat.testBit_two_pow_mul]
    have : ¬ i ≥ k := by omega
    simp [this]
theorem tz_unique {x j k : Nat} (h1 : tz x j) (h2 : tz x k) : j = k := by
  rcases Nat.lt_trichotomy j k with h | h | h
  · have := h2.2 j h; rw [h1.1] at this; cases this
  · exact h
  · have := h1.2 k h; rw [h2.1] at this; cases this
def tzT (k : Nat) : Bool := decide (Int.fdiv (IntKind.u64.wrap (((2 ^ k : Nat) : Int) * 285870213051353865)) (2 ^ min (58 : Int).toNat 64) = ((Int.fdiv (IntKind.u64.wrap (((2 ^ k : Nat) : Int) * 285870213051353865)) (2 ^ min (58 : Int).toNat 64)).toNat : Int)) && decide (Int.fdiv (IntKind.u64.wrap (((2 ^ k : Nat) : Int) * 285870213051353865)) (2 ^ min (58 : Int).toNat 64) < 64) && decide (IntKind.i64.wrap (gl_math_bits_deBruijn64tab.getD (Int.fdiv (IntKind.u64.wrap (((2 ^ k : Nat) : Int) * 285870213051353865)) (2 ^ min (58 : Int).toNat 64)).toNat 0) = (k : Int))
theorem tzT_all : (List.range 64).all tzT = true := by decide +kernel
theorem tz_eq {x : Nat} (h : x ≠ 0) (hx : x < 18446744073709551616) : ∃ k, k < 64 ∧ tz x k ∧ math_bits_TrailingZeros64 (x : Int) = some (k : Int) := by
  obtain ⟨k, m, hkm⟩ := low_ex h
  have hk : k < 64 := by
    rcases Nat.lt_or_ge k 64 with h | h
    · exact h
    · exfalso
      have h1 : 2 ^ 64 ≤ 2 ^ k := Nat.pow_le_pow_right (by omega) h
      have h2 : 2 ^ k * 1 ≤ 2 ^ k * (2 * m + 1) := Nat.mul_le_mul_left _ (by omega)
      have : (2 : Nat) ^ 64 = 18446744073709551616 := by decide
      omega
  refine ⟨k, hk, hkm ▸ low_tz k m, ?_⟩
  unfold math_bits_TrailingZeros64
  have e0 : ((x : Nat) : Int) ≠ 0 := by omega
  rw [bif_neg e0]
  have e1 : IntKind.u64.wrap (0 - (x : Int)) = ((18446744073709551616 - x : Nat) : Int) := by rw [wrap_u64]; omega
  have e2 : bitsOp .and .u64 (x : Int) (IntKind.u64.wrap (0 - (x : Int))) = ((2 ^ k : Nat) : Int) := by
    rw [e1, and_nat hx (by omega)]
    congr 1
    have := low_and k m hk (by rw [← hkm]; exact hx)
    rw [← hkm] at this
    exact this
  rw [e2]
  have ht := List.all_eq_true.1 tzT_all k (List.mem_range.2 hk)
  unfold tzT at ht
  simp only [Bool.and_eq_true, decide_eq_true_eq] at ht
  obtain ⟨⟨t1, t2⟩, t3⟩ := ht
  rw [chk_pos (by omega), chk_pos ⟨by omega, t2⟩, letv_eq, t3]
end BS
end Go.Proofs.YtkpobmmabmelfaaDoorV
/- Sets of ids as four words; the document's rising lists. -/
namespace Go.Proofs.YtkpobmmabmelfaaDoorV
set_option linter.unusedVariables false
set_option linter.unusedSimpArgs false
namespace BS
abbrev M : Nat := 18446744073709551616
structure Wf (s : List Int) : Prop where
  ex : ∃ a b c d : Nat, s = [(a : Int), (b : Int), (c : Int), (d : Int)] ∧ a < M ∧ b < M ∧ c < M ∧ d < M
def wd (s : List Int) (k : Nat) : Nat := (s.getD k 0).toNat
def mem (s : List Int) (i : Nat) : Bool := (wd s (i / 64)).testBit (i % 64)
theorem Wf.len {s : List Int} (h : Wf s) : s.length = 4 := by obtain ⟨a, b, c, d, rfl, _⟩ := h.ex; rfl
theorem Wf.wd {s : List Int} (h : Wf s) (k : Nat) : s.getD k 0 = (BS.wd s k : Int) ∧ BS.wd s k < M := by
  obtain ⟨a, b, c, d, rfl, ha, hb, hc, hd⟩ := h.ex
  unfold BS.wd
  match k with
  | 0 => exact ⟨by simp, by simpa using ha⟩
  | 1 => exact ⟨by simp, by simpa using hb⟩
  | 2 => exact ⟨by simp, by simpa using hc⟩
  | 3 => exact ⟨by simp, by simpa using hd⟩
  | k + 4 => exact ⟨by simp, by simp⟩
theorem Wf.bit {s : List Int} (h : Wf s) (k i : Nat) (hi : 64 ≤ i) : (BS.wd s k).testBit i = false := by
  refine Nat.testBit_lt_two_pow (Nat.lt_of_lt_of_le (h.wd k).2 ?_)
  have : (2 : Nat) ^ 64 ≤ 2 ^ i := Nat.pow_le_pow_right (by omega) hi
  have e : (2 : Nat) ^ 64 = M := by decide
  omega
theorem ext {s t : List Int} (hs : Wf s) (ht : Wf t) (h : ∀ i, i < 256 → mem s i = mem t i) : s = t := by
  have hw : ∀ k, k < 4 → wd s k = wd t k := by
    intro k hk
    apply Nat.eq_of_testBit_eq
    intro i
    by_cases hi : i < 64
    · have := h (64 * k + i) (by omega)
      unfold mem at this
      rw [show (64 * k + i) / 64 = k by omega, show (64 * k + i) % 64 = i by omega] at this
      exact this
    · rw [hs.bit k i (by omega), ht.bit k i (by omega)]
  apply List.ext_getElem?
  intro k
  by_cases hk : k < 4
  · have e1 := (hs.wd k).1
    have e2 := (ht.wd k).1
    rw [List.getD_eq_getElem?_getD, List.getElem?_eq_getElem (by rw [hs.len]; exact hk)] at e1
    rw [List.getD_eq_getElem?_getD, List.getElem?_eq_getElem (by rw [ht.len]; exact hk)] at e2
    rw [List.getElem?_eq_getElem (by rw [hs.len]; exact hk), List.getElem?_eq_getElem (by rw [ht.len]; exact hk)]
    simp only [Option.getD_some] at e1 e2
    rw [e1, e2, hw k hk]
  · rw [List.getElem?_eq_none (by rw [hs.len]; omega), List.getElem?_eq_none (by rw [ht.len]; omega)]
/-- One word anew. -/
theorem Wf.set {s : List Int} (h : Wf s) (k v : Nat) (hk : k < 4) (hv : v < M) : Wf (s.set k (v : Int)) ∧ ∀ i, i < 256 → mem (s.set k (v : Int)) i = if i / 64 = k then v.testBit (i % 64) else mem s i := by
  refine ⟨?_, fun i hi => ?_⟩
  · obtain ⟨a, b, c, d, rfl, ha, hb, hc, hd⟩ := h.ex
    match k, hk with
    | 0, _ => exact ⟨v, b, c, d, rfl, hv, hb, hc, hd⟩
    | 1, _ => exact ⟨a, v, c, d, rfl, ha, hv, hc, hd⟩
    | 2, _ => exact ⟨a, b, v, d, rfl, ha, hb, hv, hd⟩
    | 3, _ => exact ⟨a, b, c, v, rfl, ha, hb, hc, hv⟩
  · unfold mem BS.wd
    rw [List.getD_eq_getElem?_getD, List.getD_eq_getElem?_getD, List.getElem?_set]
    by_cases hik : i / 64 = k
    · rw [if_pos hik.symm, if_pos hik, if_pos (by rw [h.len]; omega)]; simp
    · rw [if_neg (fun e => hik e.symm), if_neg hik]
theorem fine_eq (a : Int) : bitset_fine a = some (decide (0 ≤ a ∧ a ≤ 255)) := by
  unfold bitset_fine
  by_cases h : a ≥ 0
  · rw [bif_pos h]; congr 1; rw [decide_eq_decide]; omega
  · rw [bif_neg h, decide_eq_false (by omega)]
theorem at_eq {n : Nat} (h : n < 256) : IntKind.i64.wrap (Int.tdiv (n : Int) 64) = ((n / 64 : Nat) : Int) ∧ Int.tmod (n : Int) 64 = ((n % 64 : Nat) : Int) := by
  rw [Int.tdiv_eq_ediv_of_nonneg (by omega), Int.tmod_eq_emod_of_nonneg (by omega)]
  exact ⟨by rw [w64 (by omega) (by omega)]; omega, by omega⟩
theorem bit_eq {r : Nat} (h : r < 64) : IntKind.u64.wrap (1 * 2 ^ min ((r : Nat) : Int).toNat 64) = ((2 ^ r : Nat) : Int) ∧ 2 ^ r < M := by
  have h1 : (2 : Nat) ^ r < 2 ^ 64 := Nat.pow_lt_pow_right (by omega) h
  have e : (2 : Nat) ^ 64 = M := by decide
  have e2 : min ((r : Nat) : Int).toNat 64 = r := by omega
  rw [e2, Int.one_mul]
  have e3 : ((2 : Int) ^ r) = ((2 ^ r : Nat) : Int) := by simp
  rw [e3]
  generalize 2 ^ r = z at h1
  exact ⟨wu64 (by omega) (by omega), by omega⟩
theorem add_eq {s : List Int} (h : Wf s) (a : Int) : ∃ t, bitset_Add s a = some t ∧ Wf t ∧ ∀ i, i < 256 → mem t i = (mem s i || decide ((i : Int) = a)) := by
  unfold bitset_Add
  rw [fine_eq]
  by_cases ha : 0 ≤ a ∧ a ≤ 255
  · obtain ⟨n, rfl⟩ : ∃ n : Nat, a = (n : Int) := ⟨a.toNat, by omega⟩
    rw [decide_eq_true ha, Option.bind_some, cond_true]
    obtain ⟨e1, e2⟩ := at_eq (n := n) (by omega)
    obtain ⟨e3, e4⟩ := bit_eq (r := n % 64) (by omega)
    rw [e1, e2, e3]
    have e5 : (((n / 64 : Nat) : Int)).toNat = n / 64 := by omega
    rw [e5]
    obtain ⟨w1, w2⟩ := h.wd (n / 64)
    rw [chk_pos (by omega), chk_pos (by omega), chk_pos (by omega), chk_pos (by omega), chk_pos (by omega), w1, or_nat w2 e4]
    have hlt : BS.wd s (n / 64) ||| 2 ^ (n % 64) < M := by
      have := Nat.or_lt_two_pow (x := BS.wd s (n / 64)) (y := 2 ^ (n % 64)) (n := 64) w2 e4
      exact this
    obtain ⟨g1, g2⟩ := h.set (n / 64) _ (by omega) hlt
    refine ⟨_, rfl, g1, fun i hi => ?_⟩
    rw [g2 i hi]
    split
    · rename_i hk
      rw [Nat.testBit_or, Nat.testBit_two_pow]
      unfold mem
      rw [hk]
      congr 1
      rw [decide_eq_decide]; omega
    · rename_i hk
      rw [decide_eq_false (by omega), Bool.or_false]
  · rw [decide_eq_false ha, Option.bind_some, cond_false]
    exact ⟨s, rfl, h, fun i hi => by rw [decide_eq_false (by omega), Bool.or_false]⟩
theorem drop_eq {s : List Int} (h : Wf s) (a : Int) : ∃ t, bitset_Drop s a = some t ∧ Wf t ∧ ∀ i, i < 256 → mem t i = (mem s i && !decide ((i : Int) = a)) := by
  unfold bitset_Drop
  rw [fine_eq]
  by_cases ha : 0 ≤ a ∧ a ≤ 255
  · obtain ⟨n, rfl⟩ : ∃ n : Nat, a = (n : Int) := ⟨a.toNat, by omega⟩
    rw [decide_eq_true ha, Option.bind_some, cond_true]
    obtain ⟨e1, e2⟩ := at_eq (n := n) (by omega)
    obtain ⟨e3, e4⟩ := bit_eq (r := n % 64) (by omega)
    rw [e1, e2, e3]
    have e5 : (((n / 64 : Nat) : Int)).toNat = n / 64 := by omega
    rw [e5]
    obtain ⟨w1, w2⟩ := h.wd (n / 64)
    rw [chk_pos (by omega), chk_pos (by omega), chk_pos (by omega), chk_pos (by omega), chk_pos (by omega), w1, andNot_nat w2 e4]
    have hlt : BS.wd s (n / 64) &&& (18446744073709551615 - 2 ^ (n % 64)) < M := Nat.and_lt_two_pow (n := 64) _ (Nat.lt_of_le_of_lt (Nat.sub_le _ _) (by decide))
    obtain ⟨g1, g2⟩ := h.set (n / 64) _ (by omega) hlt
    refine ⟨_, rfl, g1, fun i hi => ?_⟩
    rw [g2 i hi]
    split
    · rename_i hk
      rw [Nat.testBit_and, not_bit e4, Nat.testBit_two_pow]
      unfold mem
      rw [hk, decide_eq_true (by omega : i % 64 < 64), Bool.true_and]
      congr 2
      rw [decide_eq_decide]; omega
    · rename_i hk
      rw [decide_eq_false (by omega)]; simp
  · rw [decide_eq_false ha, Option.bind_some, cond_false]
    exact ⟨s, rfl, h, fun i hi => by rw [decide_eq_false (by omega)]; simp⟩
theorem shr_eq (x r : Nat) (h : r < 64) : Int.fdiv (x : Int) (2 ^ min ((r : Nat) : Int).toNat 64) = ((x / 2 ^ r : Nat) : Int) := by
  have e2 : min ((r : Nat) : Int).toNat 64 = r := by omega
  rw [e2]
  have e3 : ((2 : Int) ^ r) = ((2 ^ r : Nat) : Int) := by simp
  rw [e3, Int.fdiv_eq_ediv_of_nonneg _ (Int.natCast_nonneg _)]
  exact (Int.natCast_ediv _ _).symm
theorem has_eq {s : List Int} (h : Wf s) (a : Int) : bitset_Has s a = some (decide (0 ≤ a ∧ a ≤ 255) && mem s a.toNat) := by
  unfold bitset_Has
  rw [fine_eq]
  by_cases ha : 0 ≤ a ∧ a ≤ 255
  · obtain ⟨n, rfl⟩ : ∃ n : Nat, a = (n : Int) := ⟨a.toNat, by omega⟩
    rw [decide_eq_true ha, Option.bind_some, cond_true]
    obtain ⟨e1, e2⟩ := at_eq (n := n) (by omega)
    rw [e1, e2]
    have e5 : (((n / 64 : Nat) : Int)).toNat = n / 64 := by omega
    rw [e5]
    obtain ⟨w1, w2⟩ := h.wd (n / 64)
    rw [chk_pos (by omega), chk_pos (by omega), chk_pos (by omega), chk_pos (by omega), w1, shr_eq _ _ (by omega), letv_eq]
    have hb : BS.wd s (n / 64) / 2 ^ (n % 64) < 18446744073709551616 := Nat.lt_of_le_of_lt (Nat.div_le_self _ _) w2
    have := and_nat hb (b := 1) (by omega)
    rw [show ((1 : Nat) : Int) = 1 from rfl] at this
    rw [this, Nat.and_one_is_mod]
    have ht : mem s n = decide (BS.wd s (n / 64) / 2 ^ (n % 64) % 2 = 1) := by
      unfold mem
      rw [Nat.testBit_eq_decide_div_mod_eq]
    rw [show ((n : Int)).toNat = n by omega, ht, Bool.true_and]
    congr 1
    rw [decide_eq_decide]; omega
  · rw [decide_eq_false ha, Option.bind_some, cond_false, Bool.false_and]
end BS
end Go.Proofs.YtkpobmmabmelfaaDoorV
/- Sets of ids: what is made of two; the next id, all ids, how many. -/
namespace Go.Proofs.YtkpobmmabmelfaaDoorV
set_option linter.unusedVariables false
set_option linter.unusedSimpArgs false
namespace BS
/-- Word by word. -/
structure Part (f : Nat → Nat → Nat) (s t cur : List Int) (i : Int) : Prop where
  wf : Wf cur
  lo : ∀ k : Nat, (k : Int) < i → k < 4 → wd cur k = f (wd s k) (wd t k)
  hi : ∀ k : Nat, i ≤ (k : Int) → wd cur k = wd s k
theorem wd_set {s : List Int} (h : Wf s) (k v j : Nat) (hk : k < 4) : wd (s.set k (v : Int)) j = if j = k then v else wd s j := by
  unfold wd
  rw [List.getD_eq_getElem?_getD, List.getD_eq_getElem?_getD, List.getElem?_set]
  by_cases hj : k = j
  · rw [if_pos hj, if_pos hj.symm, if_pos (by rw [h.len]; exact hk)]; simp
  · rw [if_neg hj, if_neg (fun e => hj e.symm)]
theorem part0 (f : Nat → Nat → Nat) {s t : List Int} (hs : Wf s) : Part f s t s 0 := ⟨hs, fun k h => by omega, fun k _ => rfl⟩
theorem part_step {f : Nat → Nat → Nat} {s t cur : List Int} {k : Nat} (hf : ∀ a b, a < M → b < M → f a b < M) (hs : Wf s) (ht : Wf t) (hk : k < 4) (h : Part f s t cur (k : Int)) : Part f s t (cur.set k ((f (wd s k) (wd t k) : Nat) : Int)) ((k : Int) + 1) := by
  refine ⟨(h.wf.set k _ hk (hf _ _ (hs.wd k).2 (ht.wd k).2)).1, fun j hj h4 => ?_, fun j hj => ?_⟩
  · rw [wd_set h.wf k _ j hk]
    split
    · rename_i e; rw [e]
    · exact h.lo j (by omega) h4
  · rw [wd_set h.wf k _ j hk, if_neg (by omega)]
    exact h.hi j (by omega)
theorem part_mem {f : Nat → Nat → Nat} {g : Bool → Bool → Bool} (hg : ∀ a b i, i < 64 → a < M → b < M → (f a b).testBit i = g (a.testBit i) (b.testBit i)) {s t cur : List Int} (hs : Wf s) (ht : Wf t) (h : Part f s t cur 4) (i : Nat) (hi : i < 256) : mem cur i = g (mem s i) (mem t i) := by
  unfold mem
  rw [h.lo (i / 64) (by omega) (by omega), hg _ _ _ (by omega) (hs.wd _).2 (ht.wd _).2]
def zipf (f : Nat → Nat → Nat) (s t : List Int) : List Int := [((f (wd s 0) (wd t 0) : Nat) : Int), ((f (wd s 1) (wd t 1) : Nat) : Int), ((f (wd s 2) (wd t 2) : Nat) : Int), ((f (wd s 3) (wd t 3) : Nat) : Int)]
theorem part_zip {f : Nat → Nat → Nat} {s t cur : List Int} (hf : ∀ a b, a < M → b < M → f a b < M) (hs : Wf s) (ht : Wf t) (h : Part f s t cur 4) : cur = zipf f s t := by
  have l0 := h.lo 0 (by omega) (by omega)
  have l1 := h.lo 1 (by omega) (by omega)
  have l2 := h.lo 2 (by omega) (by omega)
  have l3 := h.lo 3 (by omega) (by omega)
  obtain ⟨a, b, c, d, rfl, _⟩ := h.wf.ex
  unfold zipf
  rw [← l0, ← l1, ← l2, ← l3]
  simp [wd]
theorem zip_mem {f : Nat → Nat → Nat} {g : Bool → Bool → Bool} (hf : ∀ a b, a < M → b < M → f a b < M) (hg : ∀ a b i, i < 64 → a < M → b < M → (f a b).testBit i = g (a.testBit i) (b.testBit i)) {s t : List Int} (hs : Wf s) (ht : Wf t) : Wf (zipf f s t) ∧ ∀ i, i < 256 → mem (zipf f s t) i = g (mem s i) (mem t i) := by
  have h : Wf (zipf f s t) := ⟨_, _, _, _, rfl, hf _ _ (hs.wd _).2 (ht.wd _).2, hf _ _ (hs.wd _).2 (ht.wd _).2, hf _ _ (hs.wd _).2 (ht.wd _).2, hf _ _ (hs.wd _).2 (ht.wd _).2⟩
  refine ⟨h, fun i hi => ?_⟩
  have hw : ∀ k, k < 4 → wd (zipf f s t) k = f (wd s k) (wd t k) := by
    intro k hk
    match k, hk with
    | 0, _ => simp [zipf, wd]
    | 1, _ => simp [zipf, wd]
    | 2, _ => simp [zipf, wd]
    | 3, _ => simp [zipf, wd]
  unfold mem
  rw [hw _ (by omega), hg _ _ _ (by omega) (hs.wd _).2 (ht.wd _).2]
theorem or_lt {a b : Nat} (ha : a < M) (hb : b < M) : a ||| b < M := Nat.or_lt_two_pow (n := 64) ha hb
theorem and_lt {a b : Nat} (ha : a < M) (hb : b < M) : a &&& b < M := Nat.and_lt_two_pow (n := 64) a hb
theorem andNot_lt {a b : Nat} (ha : a < M) (hb : b < M) : a &&& (18446744073709551615 - b) < M := Nat.and_lt_two_pow (n := 64) a (Nat.lt_of_le_of_lt (Nat.sub_le _ _) (by decide))
theorem Less_zip {s t : List Int} (hs : Wf s) (ht : Wf t) : bitset_Less s t = some (zipf (fun a b => a &&& (18446744073709551615 - b)) s t) := by
  unfold bitset_Less
  rw [cutv_eq]
  unfold bitset_Less_C2
  refine loop_up (fun x => x.1) 4 (fun x => ∃ (k : Nat) (cur : List Int), x = ((k : Int), s, t, List.replicate 4 0, cur, t, List.replicate 4 0) ∧ k ≤ 4 ∧ Part (fun a b => a &&& (18446744073709551615 - b)) s t cur (k : Int)) (fun _ => some (zipf (fun a b => a &&& (18446744073709551615 - b)) s t)) ⟨0, s, rfl, by omega, part0 _ hs⟩ (by show (4 : Int) - 0 < _; omega) ?_
  rintro k2 x ⟨k, cur, rfl, hk, hp⟩ hnext
  unfold bitset_Less_L1
  simp only at hnext ⊢
  by_cases h4 : (k : Int) < 4
  · rw [bif_pos h4, cutv_eq]
    unfold bitset_Less_C1 bitset_Less_1 bitset_Less_R1
    simp only [Int.toNat_natCast]
    rw [chk_pos (by omega), chk_pos (by omega), (hp.wf.wd k).1, (ht.wd k).1, andNot_nat (hp.wf.wd k).2 (ht.wd k).2, Option.bind_some, chk_pos (by omega), hp.hi k (Int.le_refl _), w64 (by omega) (by omega)]
    refine hnext h4 _ ⟨k + 1, _, rfl, by omega, ?_⟩ (by simp)
    have := part_step (f := fun a b => a &&& (18446744073709551615 - b)) (fun a b ha hb => andNot_lt ha hb) hs ht (by omega) hp
    exact_mod_cast this
  · rw [bif_neg h4]
    unfold bitset_Less_J1 bitset_Less_R2
    simp only
    obtain rfl : k = 4 := by omega
    rw [part_zip (fun a b ha hb => andNot_lt ha hb) hs ht hp]
theorem Less_eq {s t : List Int} (hs : Wf s) (ht : Wf t) : ∃ u, bitset_Less s t = some u ∧ Wf u ∧ ∀ i, i < 256 → mem u i = (mem s i && !mem t i) := by
  obtain ⟨h1, h2⟩ := zip_mem (f := fun a b => a &&& (18446744073709551615 - b)) (g := fun a b => (a && !b)) (fun a b ha hb => andNot_lt ha hb) (fun a b i hi ha hb => by rw [Nat.testBit_and, not_bit hb, decide_eq_true hi, Bool.true_and]) hs ht
  exact ⟨_, Less_zip hs ht, h1, h2⟩
theorem zero_wf : Wf (List.replicate 4 0) := ⟨0, 0, 0, 0, rfl, by decide, by decide, by decide, by decide⟩
theorem zero_mem (i : Nat) : mem (List.replicate 4 0) i = false := by
  unfold mem wd
  rw [List.getD_eq_getElem?_getD, List.getElem?_replicate]
  split <;> simp
def sub (s t : List Int) : Bool := (List.range 256).all fun i => !mem s i || mem t i
theorem sub_iff {s t : List Int} : sub s t = true ↔ ∀ i, i < 256 → mem s i = true → mem t i = true := by
  unfold sub
  rw [List.all_eq_true]
  constructor
  · intro h i hi hm
    have := h i (List.mem_range.2 hi)
    rw [hm] at this; simpa using this
  · intro h i hi
    cases hm : mem s i with
    | false => rfl
    | true => rw [h i (List.mem_range.1 hi) hm]; rfl
theorem Sub_eq {s t : List Int} (hs : Wf s) (ht : Wf t) : bitset_Sub s t = some (sub s t) := by
  obtain ⟨u, h1, h2, h3⟩ := Less_eq hs ht
  unfold bitset_Sub
  rw [h1, Option.bind_some, letv_eq]
  congr 1
  rw [Bool.eq_iff_iff, decide_eq_true_iff, sub_iff]
  constructor
  · rintro rfl i hi hm
    have := h3 i hi
    rw [zero_mem, hm] at this
    cases ht2 : mem t i with
    | true => rfl
    | false => rw [ht2] at this; cases this
  · intro h
    refine ext h2 zero_wf fun i hi => ?_
    rw [zero_mem, h3 i hi]
    cases hm : mem s i with
    | false => rfl
    | true => rw [h i hi hm]; rfl
end BS
end Go.Proofs.YtkpobmmabmelfaaDoorV
/- Sets of ids: the next id, all ids; out of a list. -/
namespace Go.Proofs.YtkpobmmabmelfaaDoorV
set_option linter.unusedVariables false
set_option linter.unusedSimpArgs false
namespace BS
/-- The first from j on. -/
def nxt (p : Nat → Bool) (j : Nat) : Option Nat := (List.range' j (256 - j)).find? p
def res : Option Nat → Int × Bool × Unit
  | some i => ((i : Int), true, ())
  | none => (0, false, ())
theorem find_range' {p : Nat → Bool} : ∀ (n j i : Nat), j ≤ i → i < j + n → p i = true → (∀ k, j ≤ k → k < i → p k = false) → (List.range' j n).find? p = some i
  | 0, j, i, h1, h2, _, _ => by omega
  | n + 1, j, i, h1, h2, h3, h4 => by
    rw [List.range'_succ, List.find?_cons]
    by_cases h : j = i
    · subst h; rw [h3]
    · rw [h4 j (Nat.le_refl _) (by omega)]
      exact find_range' n (j + 1) i (by omega) (by omega) h3 (fun k hk => h4 k (by omega))
theorem nxt_some {p : Nat → Bool} {j i : Nat} (h1 : j ≤ i) (h2 : i < 256) (h3 : p i = true) (h4 : ∀ k, j ≤ k → k < i → p k = false) : nxt p j = some i := find_range' _ j i h1 (by omega) h3 h4
theorem nxt_none {p : Nat → Bool} {j : Nat} (h : ∀ k, j ≤ k → k < 256 → p k = false) : nxt p j = none := by
  unfold nxt
  rw [List.find?_eq_none]
  intro k hk
  rw [List.mem_range'_1] at hk
  rw [h k hk.1 (by omega)]; simp
theorem nxt_out {p : Nat → Bool} {j i : Nat} (h : nxt p j = some i) : j ≤ i ∧ i < 256 ∧ p i = true ∧ ∀ k, j ≤ k → k < i → p k = false := by
  have h1 := List.find?_some h
  have h2 := List.mem_of_find?_eq_some h
  rw [List.mem_range'_1] at h2
  refine ⟨h2.1, by omega, h1, fun k hk hk2 => ?_⟩
  cases hp : p k with
  | false => rfl
  | true =>
    obtain ⟨m, m1, m2, m3, m4⟩ : ∃ m, j ≤ m ∧ m ≤ k ∧ p m = true ∧ ∀ q, j ≤ q → q < m → p q = false := by
      obtain ⟨m, hm, hl⟩ := least (p := fun m => j ≤ m ∧ p m = true) ⟨k, hk, hp⟩
      refine ⟨m, hm.1, hl k ⟨hk, hp⟩, hm.2, fun q hq hqm => ?_⟩
      cases hpq : p q with
      | false => rfl
      | true => have := hl q ⟨hq, hpq⟩; omega
    have := nxt_some m1 (by omega) m3 m4
    rw [h] at this
    cases this
    omega
theorem nxt_no {p : Nat → Bool} {j : Nat} (h : nxt p j = none) : ∀ k, j ≤ k → k < 256 → p k = false := by
  intro k hk hk2
  unfold nxt at h
  rw [List.find?_eq_none] at h
  have := h k (by rw [List.mem_range'_1]; omega)
  simpa using this
theorem next_nat {s : List Int} (h : Wf s) (j : Nat) (hj : j ≤ 9223372036854775807) : loop (bitset_Next_L1 (j : Int) s) ((j / 64 : Nat) : Int) = some (res (nxt (mem s) j)) := by
  refine loop_up (fun x => x) 4 (fun x => ∃ k : Nat, x = (k : Int) ∧ j / 64 ≤ k ∧ (k ≤ 4 ∨ k = j / 64) ∧ ∀ i, j ≤ i → i < 64 * k → mem s i = false) (fun _ => some (res (nxt (mem s) j))) ⟨j / 64, rfl, Nat.le_refl _, .inr rfl, fun i h1 h2 => by omega⟩ (by omega) ?_
  rintro kk x ⟨k, rfl, hk, hk4, hno⟩ hnext
  have e1 : IntKind.i64.wrap (Int.tdiv (j : Int) 64) = ((j / 64 : Nat) : Int) := by
    rw [Int.tdiv_eq_ediv_of_nonneg (by omega), w64 (by omega) (by omega)]; omega
  have e2 : Int.tmod (j : Int) 64 = ((j % 64 : Nat) : Int) := by rw [Int.tmod_eq_emod_of_nonneg (by omega)]; omega
  unfold bitset_Next_L1
  by_cases h4 : (k : Int) < 4
  · rw [bif_pos h4, chk_pos (by omega), chk_pos (by omega), e1]
    obtain ⟨w1, w2⟩ := h.wd k
    have hmem : ∀ b, b < 64 → mem s (64 * k + b) = (wd s k).testBit b := by
      intro b hb
      unfold mem
      rw [show (64 * k + b) / 64 = k by omega, show (64 * k + b) % 64 = b by omega]
    -- what is looked at, and what it says
    have fin : ∀ (v : Nat), v < 18446744073709551616 → (∀ b, b < 64 → v.testBit b = (decide (j ≤ 64 * k + b) && (wd s k).testBit b)) →
        (v = 0 → ∀ i, j ≤ i → i < 64 * (k + 1) → mem s i = false) ∧ (v ≠ 0 → ∃ t, math_bits_TrailingZeros64 (v : Int) = some t ∧ IntKind.i64.wrap (IntKind.i64.wrap ((k : Int) * 64) + t) = (res (nxt (mem s) j)).1 ∧ (res (nxt (mem s) j)) = ((res (nxt (mem s) j)).1, true, ())) := by
      intro v hv hb
      constructor
      · rintro rfl i h1 h2
        by_cases hi : i < 64 * k
        · exact hno i h1 hi
        · have := hb (i - 64 * k) (by omega)
          rw [Nat.zero_testBit, show 64 * k + (i - 64 * k) = i by omega, decide_eq_true h1, Bool.true_and] at this
          have h3 := hmem (i - 64 * k) (by omega)
          rw [show 64 * k + (i - 64 * k) = i by omega] at h3
          rw [h3, ← this]
      · intro hv0
        obtain ⟨b, b1, ⟨b2, b3⟩, b4⟩ := tz_eq hv0 hv
        have hb' := hb b b1
        rw [b2] at hb'
        have hb' := hb'.symm
        rw [Bool.and_eq_true, decide_eq_true_iff] at hb'
        have hn : nxt (mem s) j = some (64 * k + b) := by
          refine nxt_some hb'.1 (by omega) (by rw [hmem b b1]; exact hb'.2) fun q q1 q2 => ?_
          by_cases hq : q < 64 * k
          · exact hno q q1 hq
          · have h5 := hb (q - 64 * k) (by omega)
            rw [b3 _ (by omega), show 64 * k + (q - 64 * k) = q by omega, decide_eq_true q1, Bool.true_and] at h5
            have h3 := hmem (q - 64 * k) (by omega)
            rw [show 64 * k + (q - 64 * k) = q by omega] at h3
            rw [h3, ← h5]
        refine ⟨_, b4, ?_, by rw [hn]; rfl⟩
        rw [hn, w64 (x := (k : Int) * 64) (by omega) (by omega), w64 (by omega) (by omega)]
        show (k : Int) * 64 + b = ((64 * k + b : Nat) : Int)
        omega
    have go : (∀ i, j ≤ i → i < 64 * (k + 1) → mem s i = false) → kk (IntKind.i64.wrap ((k : Int) + 1)) = some (res (nxt (mem s) j)) := fun hz => by
      rw [w64 (by omega) (by omega)]
      exact hnext h4 _ ⟨k + 1, by simp, by omega, by omega, hz⟩ rfl
    by_cases he : k = j / 64
    · rw [bif_pos (by omega), chk_pos (by omega), e2, chk_pos (by omega), chk_pos (by omega), chk_pos (by omega), letv_eq]
      have es : (((k : Nat) : Int)).toNat = k := by omega
      rw [es, w1, shr_eq _ _ (by omega)]
      have ep : ((2 : Int) ^ min (((j % 64 : Nat) : Int)).toNat 64) = ((2 ^ (j % 64) : Nat) : Int) := by
        rw [show min (((j % 64 : Nat) : Int)).toNat 64 = j % 64 by omega]; simp
      rw [ep]
      have hle : wd s k / 2 ^ (j % 64) * 2 ^ (j % 64) ≤ wd s k := Nat.div_mul_le_self _ _
      have w3 : wd s k < 18446744073709551616 := w2
      generalize hz : wd s k / 2 ^ (j % 64) * 2 ^ (j % 64) = z at hle
      rw [← Int.natCast_mul, hz, wu64 (by omega) (by omega)]
      have hbits : ∀ b, b < 64 → z.testBit b = (decide (j ≤ 64 * k + b) && (wd s k).testBit b) := by
        intro b hb
        rw [← hz, Nat.testBit_mul_two_pow, Nat.testBit_div_two_pow]
        by_cases hr : j % 64 ≤ b
        · rw [decide_eq_true hr, decide_eq_true (by omega), Bool.true_and, Bool.true_and, show b - j % 64 + j % 64 = b by omega]
        · rw [decide_eq_false hr, decide_eq_false (by omega)]; rfl
      obtain ⟨f1, f2⟩ := fin _ (by omega) hbits
      by_cases hv : z = 0
      · rw [bnot_pos (by omega)]
        exact go (f1 hv)
      · obtain ⟨t, t1, t2, t3⟩ := f2 hv
        rw [bnot_neg (by omega), t1, Option.bind_some, letv_eq, t2, ← t3]
    · rw [bif_neg (by omega)]
      have es : (((k : Nat) : Int)).toNat = k := by omega
      rw [es, w1]
      obtain ⟨f1, f2⟩ := fin (wd s k) w2 (fun b hb => by rw [decide_eq_true (by omega), Bool.true_and])
      by_cases hv : wd s k = 0
      · rw [bnot_pos (by omega)]
        exact go (f1 hv)
      · obtain ⟨t, t1, t2, t3⟩ := f2 hv
        rw [bnot_neg (by omega), t1, Option.bind_some, letv_eq, t2, ← t3]
  · rw [bif_neg h4]
    unfold bitset_Next_J1
    rw [nxt_none (fun i h1 h2 => hno i h1 (by omega))]; rfl
theorem Next_eq {s : List Int} (h : Wf s) (a : Int) (ha : a ≤ 9223372036854775807) : bitset_Next s a = some (res (nxt (mem s) (max a 0).toNat)) := by
  unfold bitset_Next
  obtain ⟨j, hj⟩ : ∃ j : Nat, max a 0 = (j : Int) := ⟨(max a 0).toNat, by omega⟩
  rw [hj, chk_pos (by omega), letv_eq, Int.tdiv_eq_ediv_of_nonneg (by omega), w64 (by omega) (by omega)]
  have := next_nat h j (by omega)
  rw [show ((j : Int)).toNat = j by omega]
  rw [← this]
  congr 1
/-- All ids below j. -/
def idsTo (p : Nat → Bool) (j : Nat) : List Int := ((List.range j).filter p).map fun (i : Nat) => (i : Int)
def ids (p : Nat → Bool) : List Int := idsTo p 256
theorem idsTo_len (p : Nat → Bool) (j : Nat) : (idsTo p j).length ≤ j := by
  unfold idsTo
  rw [List.length_map]
  have := List.length_filter_le p (List.range j)
  simpa using this
theorem idsTo_ext {p : Nat → Bool} {i j : Nat} (hij : i ≤ j) (h : ∀ k, i ≤ k → k < j → p k = false) : idsTo p j = idsTo p i := by
  induction j with
  | zero => obtain rfl : i = 0 := by omega
            rfl
  | succ j ih =>
    by_cases he : i = j + 1
    · rw [he]
    · rw [← ih (by omega) (fun k h1 h2 => h k h1 (by omega))]
      unfold idsTo
      rw [List.range_succ, List.filter_append]
      simp [h j (by omega) (by omega)]
theorem idsTo_succ {p : Nat → Bool} {j : Nat} (h : p j = true) : idsTo p (j + 1) = idsTo p j ++ [(j : Int)] := by
  unfold idsTo
  rw [List.range_succ, List.filter_append]
  simp [h]
theorem List_eq {s : List Int} (h : Wf s) : bitset_List s = some (ids (mem s)) := by
  unfold bitset_List
  rw [cutv_eq]
  unfold bitset_List_C1 bitset_List_R1
  rw [Next_eq h 0 (by omega), Option.bind_some]
  refine loop_by (fun x => ∃ j : Nat, j ≤ 256 ∧ x = ((res (nxt (mem s) j)).1, (res (nxt (mem s) j)).2.1, idsTo (mem s) j)) (fun x => 257 - x.2.2.length) (fun _ => some (ids (mem s))) ⟨0, by omega, rfl⟩ (by simp) ?_
  rintro k x ⟨j, hj, rfl⟩ hk
  unfold bitset_List_L1
  simp only at hk ⊢
  have hlen := idsTo_len (mem s) j
  cases hn : nxt (mem s) j with
  | none =>
    simp only [res, cond_false]
    unfold bitset_List_J2 bitset_List_J1
    unfold ids
    rw [idsTo_ext hj (nxt_no hn)]
  | some i =>
    obtain ⟨i1, i2, i3, i4⟩ := nxt_out hn
    simp only [res, cond_true]
    rw [chk_pos (by simp; omega), w64 (by omega) (by omega), Next_eq h _ (by omega), Option.bind_some]
    have e : (max ((i : Int) + 1) 0).toNat = i + 1 := by omega
    rw [e]
    have e2 : idsTo (mem s) j ++ [(i : Int)] = idsTo (mem s) (i + 1) := by rw [idsTo_succ i3, idsTo_ext i1 i4]
    rw [e2]
    have hlen2 := idsTo_len (mem s) (i + 1)
    refine hk _ ⟨i + 1, by omega, rfl⟩ ?_
    show 257 - (idsTo (mem s) (i + 1)).length < 257 - (idsTo (mem s) j).length
    rw [← e2, List.length_append]
    have : ([(i : Int)]).length = 1 := rfl
    have := idsTo_len (mem s) (i + 1)
    rw [← e2, List.length_append] at this
    omega
/-- The set of a list's ids. -/
def ofs : List Int → List Int → List Int
  | s, [] => s
  | s, a :: l => ofs ((bitset_Add s a).getD []) l
theorem ofs_eq : ∀ (l : List Int) (s : List Int), Wf s → Wf (ofs s l) ∧ ∀ i, i < 256 → mem (ofs s l) i = (mem s i || decide ((i : Int) ∈ l))
  | [], s, h => ⟨h, fun i _ => by simp [ofs]⟩
  | a :: l, s, h => by
    obtain ⟨t, t1, t2, t3⟩ := add_eq h a
    unfold ofs
    rw [t1, Option.getD_some]
    obtain ⟨g1, g2⟩ := ofs_eq l t t2
    refine ⟨g1, fun i hi => ?_⟩
    rw [g2 i hi, t3 i hi, Bool.or_assoc]
    congr 1
    rw [Bool.eq_iff_iff]; simp
theorem ofs_app : ∀ (l : List Int) (s : List Int) (a : Int), ofs s (l ++ [a]) = (bitset_Add (ofs s l) a).getD []
  | [], s, a => rfl
  | b :: l, s, a => by
    show ofs _ (l ++ [a]) = _
    rw [ofs_app l]; rfl
end BS
end Go.Proofs.YtkpobmmabmelfaaDoorV
/- The document's rising lists. -/
namespace Go.Proofs.YtkpobmmabmelfaaDoorV
set_option linter.unusedVariables false
set_option linter.unusedSimpArgs false
namespace BS
/-- A loop that goes through a list and keeps what fits. -/
theorem filt_loop {F : (Int × List Int → Option (List Int)) → Int × List Int → Option (List Int)} (l : List Int) (c : Int → Bool) (hl : l.length ≤ 140737488355328)
    (h1 : ∀ k (i : Int) out, 0 ≤ i → i < (l.length : Int) → out.length ≤ l.length → F k (i, out) = if c (l.getD i.toNat 0) then k (i + 1, out ++ [l.getD i.toNat 0]) else k (i + 1, out))
    (h2 : ∀ k (i : Int) out, ¬ i < (l.length : Int) → F k (i, out) = some out) : loop F (0, []) = some (l.filter c) := by
  refine loop_up (fun x => x.1) l.length (fun x => ∃ k : Nat, x = ((k : Int), (l.take k).filter c) ∧ k ≤ l.length) (fun _ => some (l.filter c)) ⟨0, by simp, by omega⟩ (by show (l.length : Int) - 0 < _; omega) ?_
  rintro kk x ⟨k, rfl, hk⟩ hnext
  simp only at hnext
  by_cases h : (k : Int) < (l.length : Int)
  · have hle : ((l.take k).filter c).length ≤ l.length := Nat.le_trans (List.length_filter_le _ _) (by simp; omega)
    rw [h1 kk _ _ (by omega) h hle]
    have ht := take_at (xs := l) (i := (k : Int)) (d := 0) (by omega) h
    rw [show ((k : Int) + 1).toNat = k + 1 by omega, show ((k : Int)).toNat = k by omega] at ht
    rw [show ((k : Int)).toNat = k by omega]
    split
    · rename_i hc
      exact hnext h _ ⟨k + 1, by rw [ht, List.filter_append, List.filter_cons_of_pos hc]; rfl, by omega⟩ rfl
    · rename_i hc
      exact hnext h _ ⟨k + 1, by rw [ht, List.filter_append, List.filter_cons_of_neg hc]; simp, by omega⟩ rfl
  · rw [h2 kk _ _ h, List.take_of_length_le (by omega)]
theorem rHas_eq (l : List Int) (v : Int) (hl : l.length ≤ 140737488355328) : R04_Has l v = some (decide (v ∈ l)) := by
  unfold R04_Has
  refine loop_up (fun i => i) l.length (fun i => ∃ k : Nat, i = (k : Int) ∧ k ≤ l.length ∧ v ∉ l.take k) (fun _ => some (decide (v ∈ l))) ⟨0, rfl, by omega, by simp⟩ (by omega) ?_
  rintro kk x ⟨k, rfl, hk, hv⟩ hnext
  unfold R04_Has_L1
  by_cases h : (k : Int) < (l.length : Int)
  · rw [bif_pos h, chk_at (by omega) h]
    have ht := take_at (xs := l) (i := (k : Int)) (d := 0) (by omega) h
    rw [show ((k : Int) + 1).toNat = k + 1 by omega, show ((k : Int)).toNat = k by omega] at ht
    rw [show ((k : Int)).toNat = k by omega]
    by_cases he : l.getD k 0 = v
    · rw [bif_pos he, decide_eq_true]
      have := getD_mem (xs := l) (i := (k : Int)) (d := 0) (by omega) h
      rw [show ((k : Int)).toNat = k by omega, he] at this
      exact this
    · rw [bif_neg he, w64 (by omega) (by omega)]
      refine hnext h _ ⟨k + 1, rfl, by omega, ?_⟩ rfl
      rw [ht, List.mem_append]
      rintro (h1 | h1)
      · exact hv h1
      · exact he (List.mem_singleton.1 h1).symm
  · rw [bif_neg h]
    unfold R04_Has_J1
    rw [List.take_of_length_le (by omega)] at hv
    rw [decide_eq_false hv]
theorem rOf_eq (l : List Int) (hl : l.length ≤ 140737488355328) : R04_Of l = some (ids fun i => decide ((i : Int) ∈ l)) := by
  unfold R04_Of
  refine loop_up (fun x => x.1) 256 (fun x => ∃ k : Nat, x = ((k : Int), idsTo (fun i => decide ((i : Int) ∈ l)) k) ∧ k ≤ 256) (fun _ => some (ids fun i => decide ((i : Int) ∈ l))) ⟨0, rfl, by omega⟩ (by show (256 : Int) - 0 < _; omega) ?_
  rintro kk x ⟨k, rfl, hk⟩ hnext
  unfold R04_Of_L1
  simp only at hnext ⊢
  by_cases h : (k : Int) ≤ 255
  · rw [bif_pos h, rHas_eq _ _ hl, Option.bind_some]
    have hlen := idsTo_len (fun i => decide ((i : Int) ∈ l)) k
    by_cases hm : (k : Int) ∈ l
    · rw [decide_eq_true hm, cond_true, chk_pos (by simp; omega), w64 (by omega) (by omega)]
      exact hnext (by omega) _ ⟨k + 1, by rw [idsTo_succ (by simp [hm])]; rfl, by omega⟩ rfl
    · rw [decide_eq_false hm, cond_false, w64 (by omega) (by omega)]
      refine hnext (by omega) _ ⟨k + 1, ?_, by omega⟩ rfl
      rw [idsTo_ext (p := fun i => decide ((i : Int) ∈ l)) (i := k) (j := k + 1) (by omega) (fun q h1 h2 => by have e : q = k := (by omega); rw [e]; exact decide_eq_false hm)]
      rfl
  · rw [bif_neg h]
    obtain rfl : k = 256 := by omega
    rfl
theorem rAdd_eq (l : List Int) (a : Int) (hl : l.length ≤ 4294967295) : R04_Add l a = some (ids fun i => decide ((i : Int) ∈ l ++ [a])) := by
  unfold R04_Add
  rw [chk_pos (by omega), chk_pos (by simp; omega), rOf_eq _ (by simp; omega)]; rfl
theorem rDrop_eq (l : List Int) (a : Int) (hl : l.length ≤ 4294967295) : R04_Drop l a = some (l.filter fun x => !decide (x = a)) := by
  unfold R04_Drop
  refine filt_loop l _ (by omega) (fun k i out h0 h h2 => ?_) (fun k i out h => ?_)
  · unfold R04_Drop_L1
    simp only
    rw [bif_pos h, chk_at h0 h, w64 (by omega) (by omega)]
    by_cases he : l.getD i.toNat 0 = a
    · rw [bnot_pos he, if_neg (by rw [decide_eq_true he]; decide)]
    · rw [bnot_neg he, chk_at h0 h, chk_pos (by simp; omega), if_pos (by rw [decide_eq_false he]; rfl)]
  · unfold R04_Drop_L1; rw [bif_neg h]; rfl
theorem rLess_eq (l m : List Int) (hl : l.length ≤ 4294967295) (hm : m.length ≤ 140737488355328) : R04_Less l m = some (l.filter fun x => !decide (x ∈ m)) := by
  unfold R04_Less
  refine filt_loop l _ (by omega) (fun k i out h0 h h2 => ?_) (fun k i out h => ?_)
  · unfold R04_Less_L1
    simp only
    rw [bif_pos h, chk_at h0 h, w64 (by omega) (by omega), rHas_eq _ _ hm, Option.bind_some]
    by_cases he : l.getD i.toNat 0 ∈ m
    · rw [decide_eq_true he]; rfl
    · rw [decide_eq_false he, Bool.not_false, cond_true, chk_at h0 h, chk_pos (by simp; omega)]; rfl
  · unfold R04_Less_L1; rw [bif_neg h]; rfl
theorem same_eq (a b : List Int) (hl : a.length ≤ 140737488355328) (hb : b.length ≤ 140737488355328) : R02_Same a b = some (decide (a = b)) := by
  unfold R02_Same
  by_cases he : a.length = b.length
  · rw [bnot_pos (by omega)]
    refine loop_up (fun i => i) a.length (fun i => ∃ k : Nat, i = (k : Int) ∧ k ≤ a.length ∧ a.take k = b.take k) (fun _ => some (decide (a = b))) ⟨0, rfl, by omega, by simp⟩ (by omega) ?_
    rintro kk x ⟨k, rfl, hk, hv⟩ hnext
    unfold R02_Same_L1
    by_cases h : (k : Int) < (a.length : Int)
    · rw [bif_pos h, chk_at (by omega) h, chk_at (by omega) (by omega)]
      have ha := take_at (xs := a) (i := (k : Int)) (d := 0) (by omega) h
      have hb := take_at (xs := b) (i := (k : Int)) (d := 0) (by omega) (by omega)
      rw [show ((k : Int) + 1).toNat = k + 1 by omega, show ((k : Int)).toNat = k by omega] at ha hb
      rw [show ((k : Int)).toNat = k by omega]
      by_cases hx : a.getD k 0 = b.getD k 0
      · rw [bnot_pos hx, w64 (by omega) (by omega)]
        exact hnext h _ ⟨k + 1, rfl, by omega, by rw [ha, hb, hv, hx]⟩ rfl
      · rw [bnot_neg hx, decide_eq_false (fun e => hx (by rw [e]))]
    · rw [bif_neg h]
      rw [List.take_of_length_le (by omega), List.take_of_length_le (by omega)] at hv
      rw [decide_eq_true hv]; rfl
  · rw [bnot_neg (by omega), decide_eq_false (fun e => he (by rw [e]))]
theorem ids_mem {p : Nat → Bool} {v : Int} : v ∈ ids p ↔ 0 ≤ v ∧ v < 256 ∧ p v.toNat = true := by
  unfold ids idsTo
  rw [List.mem_map]
  constructor
  · rintro ⟨i, hi, rfl⟩
    rw [List.mem_filter, List.mem_range] at hi
    exact ⟨by omega, by omega, by simpa using hi.2⟩
  · rintro ⟨h0, h1, h2⟩
    exact ⟨v.toNat, by rw [List.mem_filter, List.mem_range]; exact ⟨by omega, h2⟩, by omega⟩
theorem ids_mem_nat {p : Nat → Bool} {i : Nat} : (i : Int) ∈ ids p ↔ i < 256 ∧ p i = true := by
  rw [ids_mem]; simp only [Int.toNat_natCast]; constructor
  · rintro ⟨_, h1, h2⟩; exact ⟨by omega, h2⟩
  · rintro ⟨h1, h2⟩; exact ⟨by omega, by omega, h2⟩
theorem ids_congr {p q : Nat → Bool} (h : ∀ i, i < 256 → p i = q i) : ids p = ids q := by
  unfold ids idsTo
  congr 1
  refine List.filter_congr fun i hi => h i (List.mem_range.1 hi)
theorem ids_filter {p : Nat → Bool} (c : Int → Bool) : (ids p).filter c = ids fun i => p i && c (i : Int) := by
  unfold ids idsTo
  rw [List.filter_map, List.filter_filter]
  congr 1
  refine List.filter_congr fun i hi => ?_
  simp [Bool.and_comm]
theorem ids_len (p : Nat → Bool) : (ids p).length ≤ 256 := idsTo_len p 256
end BS
end Go.Proofs.YtkpobmmabmelfaaDoorV
/- The document's words. -/
namespace Go.Proofs.YtkpobmmabmelfaaDoorV
set_option linter.unusedVariables false
set_option linter.unusedSimpArgs false
namespace BS
theorem rfine_eq (a : Int) : R04_fine a = some (decide (0 ≤ a ∧ a ≤ 255)) := by
  unfold R04_fine
  by_cases h : a ≥ 0
  · rw [bif_pos h]; congr 1; rw [decide_eq_decide]; omega
  · rw [bif_neg h, decide_eq_false (by omega)]
theorem Words_eq (l : List Int) (hl : l.length ≤ 140737488355328) : ∃ s, R04_Words l = some s ∧ Wf s ∧ ∀ i, i < 256 → mem s i = decide ((i : Int) ∈ l) := by
  have hz := zero_wf
  refine ⟨ofs (List.replicate 4 0) l, ?_, (ofs_eq l _ hz).1, fun i hi => by rw [(ofs_eq l _ hz).2 i hi, zero_mem, Bool.false_or]⟩
  unfold R04_Words
  refine loop_up (fun x => x.1) l.length (fun x => ∃ k : Nat, x = ((k : Int), ofs (List.replicate 4 0) (l.take k)) ∧ k ≤ l.length) (fun _ => some (ofs (List.replicate 4 0) l)) ⟨0, rfl, by omega⟩ (by show (l.length : Int) - 0 < _; omega) ?_
  rintro kk x ⟨k, rfl, hk⟩ hnext
  unfold R04_Words_L1
  simp only at hnext ⊢
  by_cases h : (k : Int) < (l.length : Int)
  · have hw := (ofs_eq (l.take k) _ hz).1
    have ht := take_at (xs := l) (i := (k : Int)) (d := 0) (by omega) h
    rw [show ((k : Int) + 1).toNat = k + 1 by omega, show ((k : Int)).toNat = k by omega] at ht
    obtain ⟨t, t1, _, _⟩ := add_eq hw (l.getD k 0)
    have hn : kk ((k : Int) + 1, t) = some (ofs (List.replicate 4 0) l) := hnext h _ ⟨k + 1, by rw [ht, ofs_app, t1]; simp, by omega⟩ rfl
    rw [bif_pos h, chk_at (by omega) h, show ((k : Int)).toNat = k by omega, rfine_eq, Option.bind_some]
    generalize hg : l.getD k 0 = a at *
    unfold bitset_Add at t1
    rw [fine_eq] at t1
    by_cases ha : 0 ≤ a ∧ a ≤ 255
    · obtain ⟨n, rfl⟩ : ∃ n : Nat, a = (n : Int) := ⟨a.toNat, by omega⟩
      rw [decide_eq_true ha, cond_true]
      rw [decide_eq_true ha, Option.bind_some, cond_true] at t1
      obtain ⟨e1, e2⟩ := at_eq (n := n) (by omega)
      rw [e1, e2, chk_pos (by omega), chk_pos (by omega), chk_pos (by omega), chk_pos (by omega), chk_pos (by omega)] at t1
      rw [e1, e2, wu64 (n := ((n % 64 : Nat) : Int)) (by omega) (by omega), chk_at (by omega) h, chk_pos (by omega), chk_pos (by omega), chk_at (by omega) h, chk_pos (by omega), chk_pos (by omega), chk_pos (by omega), w64 (by omega) (by omega), Option.some.inj t1]
      exact hn
    · rw [decide_eq_false ha, cond_false]
      rw [decide_eq_false ha, Option.bind_some, cond_false] at t1
      rw [w64 (by omega) (by omega), Option.some.inj t1]
      exact hn
  · rw [bif_neg h]
    unfold R04_Words_J1
    rw [List.take_of_length_le (by omega)]
/-- Of a set's ids: the set. -/
theorem words_ids {p : Nat → Bool} : ∃ s, R04_Words (ids p) = some s ∧ Wf s ∧ ids (mem s) = ids p := by
  have hl := ids_len p
  obtain ⟨s, s1, s2, s3⟩ := Words_eq (ids p) (by omega)
  refine ⟨s, s1, s2, ids_congr fun i hi => ?_⟩
  rw [s3 i hi, Bool.eq_iff_iff, decide_eq_true_iff, ids_mem_nat]
  exact ⟨fun h => h.2, fun h => ⟨hi, h⟩⟩
end BS
end Go.Proofs.YtkpobmmabmelfaaDoorV
/- Rolls: two sets, the second within the first, and the document's two rising lists. -/
namespace Go.Proofs.YtkpobmmabmelfaaDoorV
set_option linter.unusedVariables false
set_option linter.unusedSimpArgs false
namespace BS
abbrev Roll := (List Int) × (List Int) × Unit
def PR (r : Roll) : Roll := (ids (mem r.1), ids (mem r.2.1), ())
def WR (r : Roll) : Prop := Wf r.1 ∧ Wf r.2.1
theorem ev_wf : Wf gl_becket_roll_everybody := ⟨65535, 0, 0, 0, rfl, by decide, by decide, by decide, by decide⟩
theorem ev_mem : ∀ i, i < 256 → mem gl_becket_roll_everybody i = decide (i < 16) := by decide +kernel
def fine (r : Roll) : Bool := sub r.1 gl_becket_roll_everybody && sub r.2.1 r.1
theorem Fine_eq {r : Roll} (h : WR r) : roll_Fine r = some (fine r) := by
  unfold roll_Fine fine
  rw [Sub_eq h.1 ev_wf, Sub_eq h.2 h.1]
  cases sub r.1 gl_becket_roll_everybody <;> rfl
theorem subl_iff {s t : List Int} : sub s t = true ↔ ((ids (mem s)).filter fun x => !decide (x ∈ ids (mem t))).length = 0 := by
  rw [sub_iff, List.length_eq_zero_iff, List.filter_eq_nil_iff]
  constructor
  · intro h x hx
    obtain ⟨h0, h1, h2⟩ := ids_mem.1 hx
    have := h x.toNat (by omega) h2
    have : x ∈ ids (mem t) := ids_mem.2 ⟨h0, h1, this⟩
    simp [this]
  · intro h i hi hm
    have := h (i : Int) (ids_mem_nat.2 ⟨hi, hm⟩)
    simp at this
    exact (ids_mem_nat.1 this).2
theorem RFine_eq {r : Roll} (h : WR r) : R21_Fine (PR r) = some (fine r) := by
  unfold R21_Fine
  have hl := ids_len (mem r.1)
  refine loop_up (fun i => i) (ids (mem r.1)).length (fun i => ∃ k : Nat, i = (k : Int) ∧ k ≤ (ids (mem r.1)).length ∧ ∀ x ∈ (ids (mem r.1)).take k, x ≤ 15) (fun _ => some (fine r)) ⟨0, rfl, by omega, by simp⟩ (by omega) ?_
  rintro kk x ⟨k, rfl, hk, hall⟩ hnext
  unfold R21_Fine_L1
  show (bif decide ((k : Int) < ((ids (mem r.1)).length : Int)) then chk (0 ≤ (k : Int) ∧ (k : Int) < ((ids (mem r.1)).length : Int)) (bif decide ((ids (mem r.1)).getD ((k : Int)).toNat 0 < 0) then some false else chk (0 ≤ (k : Int) ∧ (k : Int) < ((ids (mem r.1)).length : Int)) (bif decide ((ids (mem r.1)).getD ((k : Int)).toNat 0 > 15) then some false else kk (IntKind.i64.wrap ((k : Int) + 1)))) else R21_Fine_J1 (PR r)) = _
  by_cases hlt : (k : Int) < ((ids (mem r.1)).length : Int)
  · have hm := getD_mem (xs := ids (mem r.1)) (i := (k : Int)) (d := 0) (by omega) hlt
    have ht := take_at (xs := ids (mem r.1)) (i := (k : Int)) (d := 0) (by omega) hlt
    obtain ⟨h0, h1, h2⟩ := ids_mem.1 hm
    rw [show ((k : Int) + 1).toNat = k + 1 by omega, show ((k : Int)).toNat = k by omega] at ht
    rw [show ((k : Int)).toNat = k by omega] at *
    rw [bif_pos hlt, chk_at (by omega) hlt, bif_neg (by omega), chk_at (by omega) hlt]
    by_cases h15 : (ids (mem r.1)).getD k 0 > 15
    · rw [bif_pos h15]
      have : sub r.1 gl_becket_roll_everybody = false := by
        cases hs : sub r.1 gl_becket_roll_everybody with
        | false => rfl
        | true =>
          have := sub_iff.1 hs _ (by omega) h2
          rw [ev_mem _ (by omega), decide_eq_true_iff] at this
          omega
      unfold fine; rw [this]; rfl
    · rw [bif_neg h15, w64 (by omega) (by omega)]
      refine hnext hlt _ ⟨k + 1, rfl, by omega, ?_⟩ rfl
      intro x hx
      rw [ht, List.mem_append] at hx
      rcases hx with hx | hx
      · exact hall x hx
      · rw [List.mem_singleton.1 hx]; omega
  · rw [bif_neg hlt]
    rw [List.take_of_length_le (by omega)] at hall
    unfold R21_Fine_J1 PR
    have hl2 := ids_len (mem r.2.1)
    simp only
    rw [rLess_eq _ _ (by omega) (by omega), Option.bind_some]
    have : sub r.1 gl_becket_roll_everybody = true := sub_iff.2 fun i hi hm => by
      have := hall (i : Int) (ids_mem_nat.2 ⟨hi, hm⟩)
      rw [ev_mem i hi, decide_eq_true_iff]; omega
    unfold fine
    rw [this, Bool.true_and, Option.some_inj, Bool.eq_iff_iff, decide_eq_true_iff, subl_iff]
    omega
theorem has_sim {s : List Int} (h : Wf s) (a : Int) : ∃ b, bitset_Has s a = some b ∧ R04_Has (ids (mem s)) a = some b := by
  have hl := ids_len (mem s)
  refine ⟨_, has_eq h a, ?_⟩
  rw [rHas_eq _ _ (by omega), Option.some_inj, Bool.eq_iff_iff, decide_eq_true_iff, ids_mem, Bool.and_eq_true, decide_eq_true_iff]
  constructor
  · rintro ⟨h1, h2, h3⟩; exact ⟨⟨h1, by omega⟩, h3⟩
  · rintro ⟨⟨h1, h2⟩, h3⟩; exact ⟨h1, by omega, h3⟩
theorem add_sim {s : List Int} (h : Wf s) (a : Int) : ∃ t, bitset_Add s a = some t ∧ Wf t ∧ R04_Add (ids (mem s)) a = some (ids (mem t)) := by
  obtain ⟨t, t1, t2, t3⟩ := add_eq h a
  have hl := ids_len (mem s)
  refine ⟨t, t1, t2, ?_⟩
  rw [rAdd_eq _ _ (by omega)]
  congr 1
  refine ids_congr fun i hi => ?_
  rw [t3 i hi, Bool.eq_iff_iff]
  simp [ids_mem_nat, hi]
theorem drop_sim {s : List Int} (h : Wf s) (a : Int) : ∃ t, bitset_Drop s a = some t ∧ Wf t ∧ R04_Drop (ids (mem s)) a = some (ids (mem t)) := by
  obtain ⟨t, t1, t2, t3⟩ := drop_eq h a
  have hl := ids_len (mem s)
  refine ⟨t, t1, t2, ?_⟩
  rw [rDrop_eq _ _ (by omega), ids_filter]
  congr 1
  exact ids_congr fun i hi => (t3 i hi).symm
theorem asked_sim {r : Roll} (h : WR r) (a : Int) : ∃ v, roll_asked r a = some v ∧ R21_asked (PR r) a = some v := by
  unfold roll_asked R21_asked
  rw [Fine_eq h, RFine_eq h, has_eq ev_wf]
  simp only [Option.bind_some]
  cases fine r with
  | false => exact ⟨_, rfl, rfl⟩
  | true =>
    by_cases ha : a < 0
    · refine ⟨8, ?_, by rw [bif_pos ha]; rfl⟩
      rw [decide_eq_false (by omega)]; rfl
    · by_cases hb : a > 15
      · refine ⟨8, ?_, by rw [bif_neg ha, bif_pos hb]; rfl⟩
        by_cases hc : a ≤ 255
        · rw [ev_mem _ (by omega), decide_eq_false (p := a.toNat < 16) (by omega), Bool.and_false]; rfl
        · rw [decide_eq_false (by omega)]; rfl
      · refine ⟨0, ?_, by rw [bif_neg ha, bif_neg hb]; rfl⟩
        rw [ev_mem _ (by omega), decide_eq_true (by omega), decide_eq_true (by omega)]; rfl
theorem PR_mk (s t : List Int) : PR (s, t, ()) = (ids (mem s), ids (mem t), ()) := rfl
theorem Enrol_sim {r : Roll} (h : WR r) (a : Int) : ∃ r' e, roll_Enrol r a = some (r', e, ()) ∧ R21_Enrol (PR r) a = some (PR r', e, ()) ∧ WR r' ∧ (e ≠ 0 → r' = r) := by
  obtain ⟨v, v1, v2⟩ := asked_sim h a
  unfold roll_Enrol R21_Enrol
  rw [v1, v2]
  simp only [Option.bind_some]
  by_cases hv : v = 0
  · rw [bnot_pos hv, bnot_pos hv]
    obtain ⟨b, b1, b2⟩ := has_sim h.1 a
    rw [show (PR r).1 = ids (mem r.1) from rfl, b1, b2]
    simp only [Option.bind_some]
    cases b with
    | true => exact ⟨_, _, rfl, rfl, h, fun _ => rfl⟩
    | false =>
      obtain ⟨t, t1, t2, t3⟩ := add_sim h.1 a
      rw [t1, t3]
      exact ⟨_, _, rfl, rfl, ⟨t2, h.2⟩, fun h => absurd rfl h⟩
  · rw [bnot_neg hv, bnot_neg hv]
    exact ⟨_, _, rfl, rfl, h, fun _ => rfl⟩
theorem Resign_sim {r : Roll} (h : WR r) (a : Int) : ∃ r' e, roll_Resign r a = some (r', e, ()) ∧ R21_Resign (PR r) a = some (PR r', e, ()) ∧ WR r' ∧ (e ≠ 0 → r' = r) := by
  obtain ⟨v, v1, v2⟩ := asked_sim h a
  unfold roll_Resign R21_Resign
  rw [v1, v2]
  simp only [Option.bind_some]
  by_cases hv : v = 0
  · rw [bnot_pos hv, bnot_pos hv]
    obtain ⟨b, b1, b2⟩ := has_sim h.1 a
    rw [show (PR r).1 = ids (mem r.1) from rfl, show (PR r).2.1 = ids (mem r.2.1) from rfl, b1, b2]
    simp only [Option.bind_some]
    cases b with
    | false => exact ⟨_, _, rfl, rfl, h, fun _ => rfl⟩
    | true =>
      obtain ⟨t, t1, t2, t3⟩ := drop_sim h.1 a
      obtain ⟨u, u1, u2, u3⟩ := drop_sim h.2 a
      rw [t1, t3, u1, u3]
      exact ⟨_, _, rfl, rfl, ⟨t2, u2⟩, fun h => absurd rfl h⟩
  · rw [bnot_neg hv, bnot_neg hv]
    exact ⟨_, _, rfl, rfl, h, fun _ => rfl⟩
theorem Offer_sim {r : Roll} (h : WR r) (a : Int) : ∃ r' e, roll_Offer r a = some (r', e, ()) ∧ R21_Offer (PR r) a = some (PR r', e, ()) ∧ WR r' ∧ (e ≠ 0 → r' = r) := by
  obtain ⟨v, v1, v2⟩ := asked_sim h a
  unfold roll_Offer R21_Offer
  rw [v1, v2]
  simp only [Option.bind_some]
  by_cases hv : v = 0
  · rw [bnot_pos hv, bnot_pos hv]
    obtain ⟨b, b1, b2⟩ := has_sim h.1 a
    rw [show (PR r).1 = ids (mem r.1) from rfl, show (PR r).2.1 = ids (mem r.2.1) from rfl, b1, b2]
    simp only [Option.bind_some]
    cases b with
    | false => exact ⟨_, _, rfl, rfl, h, fun _ => rfl⟩
    | true =>
      obtain ⟨c, c1, c2⟩ := has_sim h.2 a
      rw [c1, c2]
      simp only [Option.bind_some]
      cases c with
      | true => exact ⟨_, _, rfl, rfl, h, fun _ => rfl⟩
      | false =>
        obtain ⟨t, t1, t2, t3⟩ := add_sim h.2 a
        rw [t1, t3]
        exact ⟨_, _, rfl, rfl, ⟨h.1, t2⟩, fun h => absurd rfl h⟩
  · rw [bnot_neg hv, bnot_neg hv]
    exact ⟨_, _, rfl, rfl, h, fun _ => rfl⟩
theorem Withdraw_sim {r : Roll} (h : WR r) (a : Int) : ∃ r' b, roll_Withdraw r a = some (r', b, ()) ∧ R21_Withdraw (PR r) a = some (PR r', b, ()) ∧ WR r' := by
  unfold roll_Withdraw R21_Withdraw
  rw [Fine_eq h, RFine_eq h]
  simp only [Option.bind_some]
  cases fine r with
  | false => exact ⟨_, _, rfl, rfl, h⟩
  | true =>
    obtain ⟨b, b1, b2⟩ := has_sim h.2 a
    rw [show (PR r).2.1 = ids (mem r.2.1) from rfl, b1, b2]
    simp only [Option.bind_some, Bool.not_true, cond_false]
    cases b with
    | false => exact ⟨_, _, rfl, rfl, h⟩
    | true =>
      obtain ⟨t, t1, t2, t3⟩ := drop_sim h.2 a
      rw [t1, t3]
      exact ⟨_, _, rfl, rfl, ⟨h.1, t2⟩⟩
theorem ids_nil {s : List Int} (h : Wf s) : ids (mem s) = [] ↔ s = List.replicate 4 0 := by
  constructor
  · intro hn
    refine ext h zero_wf fun i hi => ?_
    rw [zero_mem]
    cases hm : mem s i with
    | false => rfl
    | true =>
      have : (i : Int) ∈ ids (mem s) := ids_mem_nat.2 ⟨hi, hm⟩
      rw [hn] at this; cases this
  · rintro rfl
    rw [List.eq_nil_iff_forall_not_mem]
    intro x hx
    have := (ids_mem.1 hx).2.2
    rw [zero_mem] at this; cases this
theorem sub_len {s t : List Int} (hs : Wf s) (ht : Wf t) (h : sub s t = true) : (ids (mem s)).length = (ids (mem t)).length ↔ s = t := by
  constructor
  · intro hl
    have e : ids (mem s) = (ids (mem t)).filter fun x => decide (x ∈ ids (mem s)) := by
      rw [ids_filter]
      refine ids_congr fun i hi => ?_
      rw [Bool.eq_iff_iff, Bool.and_eq_true, decide_eq_true_iff, ids_mem_nat]
      exact ⟨fun hm => ⟨sub_iff.1 h i hi hm, hi, hm⟩, fun hm => hm.2.2⟩
    have e2 : ((ids (mem t)).filter fun x => decide (x ∈ ids (mem s))).length = (ids (mem t)).length := by rw [← e]; exact hl
    rw [List.length_filter_eq_length_iff] at e2
    refine ext hs ht fun i hi => ?_
    rw [Bool.eq_iff_iff]
    refine ⟨sub_iff.1 h i hi, fun hm => ?_⟩
    have := e2 (i : Int) (ids_mem_nat.2 ⟨hi, hm⟩)
    rw [decide_eq_true_iff] at this
    exact (ids_mem_nat.1 this).2
  · rintro rfl; rfl
def full (r : Roll) : Bool := fine r && (decide ((r.2.1 : List Int) = r.1) && !decide ((r.2.1 : List Int) = List.replicate 4 0))
theorem Full_eq {r : Roll} (h : WR r) : roll_Full r = some (full r) := by
  unfold roll_Full full
  rw [Fine_eq h, Option.bind_some]
  cases fine r with
  | false => rfl
  | true =>
    by_cases e : r.2.1 = r.1
    · rw [cond_true, bif_pos e, letv_eq, decide_eq_true e]; rfl
    · rw [cond_true, bif_neg e, decide_eq_false e]; rfl
theorem RFull_eq {r : Roll} (h : WR r) : R21_Full (PR r) = some (full r) := by
  unfold R21_Full full
  rw [RFine_eq h, Option.bind_some, show (PR r).1 = ids (mem r.1) from rfl, show (PR r).2.1 = ids (mem r.2.1) from rfl]
  cases hf : fine r with
  | false => rfl
  | true =>
    rw [cond_true, Bool.true_and]
    unfold fine at hf
    rw [Bool.and_eq_true] at hf
    have hsl := sub_len h.2 h.1 hf.2
    have hn := ids_nil h.1
    by_cases e : r.2.1 = r.1
    · rw [decide_eq_true e, Bool.true_and]
      by_cases hz : r.1 = List.replicate 4 0
      · have h0 := hn.2 hz
        rw [bif_neg (by rw [h0]; decide), decide_eq_true (by rw [e]; exact hz)]; rfl
      · have h0 : (ids (mem r.1)).length ≠ 0 := fun hl => hz (hn.1 (List.length_eq_zero_iff.1 hl))
        rw [bif_pos (by omega), letv_eq, decide_eq_true (by rw [hsl.2 e]), decide_eq_false (by rw [e]; exact hz)]; rfl
    · rw [decide_eq_false e, Bool.false_and]
      have : (ids (mem r.2.1)).length ≠ (ids (mem r.1)).length := fun hl => e (hsl.1 hl)
      by_cases hz : ((ids (mem r.1)).length : Int) > 0
      · rw [bif_pos hz, letv_eq, decide_eq_false (by omega)]
      · rw [bif_neg hz]
theorem Fire_sim {r : Roll} (h : WR r) : ∃ r' l e, roll_Fire r = some (r', l, e, ()) ∧ R21_Fire (PR r) = some (PR r', l, e, ()) ∧ WR r' ∧ l.length ≤ 256 ∧ e = (if fine r then if full r then 0 else 13 else 1) ∧ (e ≠ 0 → r' = r ∧ l = []) := by
  unfold roll_Fire R21_Fire
  rw [Fine_eq h, RFine_eq h]
  simp only [Option.bind_some]
  cases hf : fine r with
  | false => exact ⟨_, _, _, rfl, rfl, h, by simp, rfl, fun _ => ⟨rfl, rfl⟩⟩
  | true =>
    rw [Full_eq h, RFull_eq h]
    simp only [Option.bind_some, Bool.not_true, cond_false]
    cases full r with
    | false => exact ⟨_, _, _, rfl, rfl, h, by simp, rfl, fun _ => ⟨rfl, rfl⟩⟩
    | true =>
      rw [List_eq h.2]
      refine ⟨(r.1, List.replicate 4 0, ()), ids (mem r.2.1), 0, rfl, ?_, ⟨h.1, zero_wf⟩, ids_len _, rfl, fun h => absurd rfl h⟩
      have e : PR (r.1, List.replicate 4 0, ()) = (ids (mem r.1), [], ()) := by rw [PR_mk, (ids_nil zero_wf).2 rfl]
      rw [e]; rfl
theorem From_eq {r : Roll} (h : WR r) : L21_From r = some (PR r) := by
  unfold L21_From
  rw [List_eq h.1, List_eq h.2]; rfl
theorem Same_eq {r : Roll} : L21_Same (PR r) (PR r) = some true := by
  have h1 := ids_len (mem r.1)
  have h2 := ids_len (mem r.2.1)
  unfold L21_Same PR
  simp only
  rw [same_eq _ _ (by omega) (by omega), same_eq _ _ (by omega) (by omega), decide_eq_true rfl, decide_eq_true rfl]; rfl
theorem To_eq (a : Roll) (h1 : a.1.length ≤ 140737488355328) (h2 : a.2.1.length ≤ 140737488355328) : ∃ r, WR r ∧ L21_Plain a = some (PR r) ∧ L21_To (PR r) = some r := by
  unfold L21_Plain
  rw [rOf_eq _ h1, rOf_eq _ h2]
  obtain ⟨s, s1, s2, s3⟩ := words_ids (p := fun i => decide ((i : Int) ∈ a.1))
  obtain ⟨t, t1, t2, t3⟩ := words_ids (p := fun i => decide ((i : Int) ∈ a.2.1))
  refine ⟨(s, t, ()), ⟨s2, t2⟩, by rw [PR_mk, s3, t3]; rfl, ?_⟩
  unfold L21_To
  rw [PR_mk, s3, t3]
  simp only
  rw [s1, t1]; rfl
/-- The list of a plain roll is plain. -/
theorem Plain_PR (r : Roll) : L21_Plain (PR r) = some (PR r) := by
  unfold L21_Plain PR
  have h1 := ids_len (mem r.1)
  have h2 := ids_len (mem r.2.1)
  simp only
  rw [rOf_eq _ (by omega), rOf_eq _ (by omega)]
  have e : ∀ p : Nat → Bool, (ids fun i => decide ((i : Int) ∈ ids p)) = ids p := fun p => ids_congr fun i hi => by
    rw [Bool.eq_iff_iff, decide_eq_true_iff, ids_mem_nat]; exact ⟨fun h => h.2, fun h => ⟨hi, h⟩⟩
  rw [e, e]; rfl
end BS
end Go.Proofs.YtkpobmmabmelfaaDoorV
/- Barriers: what they do, beside the document's. -/
namespace Go.Proofs.YtkpobmmabmelfaaDoorV
set_option linter.unusedVariables false
set_option linter.unusedSimpArgs false
namespace BS
abbrev Bar := (Bool × Int × Unit) × Roll × Int × Unit
def PB (b : Bar) : Bar := (b.1, PR b.2.1, b.2.2.1, ())
def WB (b : Bar) : Prop := WR b.2.1
def ph (n l : Int) : Bool := decide (0 ≤ n ∧ n ≤ l ∧ 1 ≤ l ∧ l ≤ 65535)
theorem phase_eq (n l : Int) : phase_Fine n l = some (ph n l) := by
  unfold phase_Fine ph
  by_cases h1 : l ≥ 1
  · rw [bif_pos h1]
    by_cases h2 : l ≤ 65535
    · rw [bif_pos h2]
      by_cases h3 : n ≥ 0
      · rw [bif_pos h3]; congr 1; rw [decide_eq_decide]; omega
      · rw [bif_neg h3, decide_eq_false (by omega)]
    · rw [bif_neg h2, decide_eq_false (by omega)]
  · rw [bif_neg h1, decide_eq_false (by omega)]
theorem r20_eq (n l : Int) : R20_Fine n l = some (ph n l) := by
  unfold R20_Fine ph
  by_cases h1 : l ≥ 1
  · rw [bif_pos h1]
    by_cases h2 : l ≤ 65535
    · rw [bif_pos h2]
      by_cases h3 : n ≥ 0
      · rw [bif_pos h3]; congr 1; rw [decide_eq_decide]; omega
      · rw [bif_neg h3, decide_eq_false (by omega)]
    · rw [bif_neg h2, decide_eq_false (by omega)]
  · rw [bif_neg h1, decide_eq_false (by omega)]
def bfine (b : Bar) : Bool := ph b.2.2.1 b.1.2.1 && fine b.2.1
theorem bFine_eq {b : Bar} (h : WB b) : barrier_Fine b = some (bfine b) := by
  unfold barrier_Fine bfine
  rw [phase_eq, Fine_eq h]
  cases ph b.2.2.1 b.1.2.1 <;> rfl
theorem rbFine_eq {b : Bar} (h : WB b) : R22_Fine (PB b) = some (bfine b) := by
  unfold R22_Fine bfine PB
  simp only
  rw [r20_eq, RFine_eq h]
  cases ph b.2.2.1 b.1.2.1 <;> rfl
theorem bfine_ph {b : Bar} (h : bfine b = true) : (0 ≤ b.2.2.1 ∧ b.2.2.1 ≤ b.1.2.1 ∧ 1 ≤ b.1.2.1 ∧ b.1.2.1 ≤ 65535) ∧ ph b.2.2.1 b.1.2.1 = true ∧ fine b.2.1 = true := by
  unfold bfine at h
  rw [Bool.and_eq_true] at h
  exact ⟨of_decide_eq_true h.1, h.1, h.2⟩
theorem Left_eq {n l : Int} (h : ph n l = true) : phase_Left n l = some (l - n) := by
  have h' := of_decide_eq_true h
  unfold phase_Left
  rw [phase_eq, h, Option.bind_some, Bool.not_true, cond_false, w64 (by omega) (by omega)]
def bready (b : Bar) : Bool := bfine b && (full b.2.1 && decide (b.2.2.1 < b.1.2.1))
theorem bReady_eq {b : Bar} (h : WB b) : barrier_Ready b = some (bready b) := by
  unfold barrier_Ready bready
  rw [bFine_eq h, Option.bind_some]
  cases hf : bfine b with
  | false => rfl
  | true =>
    obtain ⟨p, p2, p3⟩ := bfine_ph hf
    rw [cond_true, Full_eq h, Option.bind_some]
    cases full b.2.1 with
    | false => rfl
    | true =>
      rw [cond_true, Left_eq p2, Option.bind_some, Bool.true_and, Bool.true_and, Option.some_inj, decide_eq_decide]
      omega
theorem rbReady_eq {b : Bar} (h : WB b) : R22_Ready (PB b) = some (bready b) := by
  unfold R22_Ready bready
  rw [rbFine_eq h, Option.bind_some]
  cases hf : bfine b with
  | false => rfl
  | true =>
    rw [cond_true, show (PB b).2.1 = PR b.2.1 from rfl, RFull_eq h, Option.bind_some]
    cases full b.2.1 <;> rfl
theorem bFire_sim {b : Bar} (h : WB b) : ∃ b' l e, barrier_Fire b = some (b', l, e, ()) ∧ R22_Fire (PB b) = some (PB b', l, e, ()) ∧ WB b' ∧ l.length ≤ 256 := by
  unfold barrier_Fire R22_Fire
  rw [bFine_eq h, rbFine_eq h]
  simp only [Option.bind_some]
  cases hf : bfine b with
  | false => exact ⟨_, _, _, rfl, rfl, h, by simp⟩
  | true =>
    rw [bReady_eq h, rbReady_eq h]
    simp only [Option.bind_some, Bool.not_true, cond_false]
    cases hr : bready b with
    | false => exact ⟨_, _, _, rfl, rfl, h, by simp⟩
    | true =>
      obtain ⟨p, p2, p3⟩ := bfine_ph hf
      obtain ⟨r', l, e, f1, f2, f3, f4, f5, _⟩ := Fire_sim (r := b.2.1) h
      unfold bready at hr
      rw [Bool.and_eq_true, Bool.and_eq_true] at hr
      have hlt := of_decide_eq_true hr.2.2
      rw [p3, hr.2.1] at f5
      have f5 : e = 0 := f5
      subst f5
      rw [show (PB b).2.1 = PR b.2.1 from rfl, show (PB b).2.2.1 = b.2.2.1 from rfl, show (PB b).1 = b.1 from rfl, f1, f2]
      simp only [Option.bind_some, Bool.not_true, cond_false, decide_true]
      have hn : phase_Next b.2.2.1 b.1.2.1 = some (b.2.2.1 + 1, 0, ()) := by
        unfold phase_Next
        rw [phase_eq, p2, Option.bind_some, Bool.not_true, cond_false, bif_neg (by omega), w64 (by omega) (by omega)]
      rw [hn, w64 (by omega) (by omega)]
      exact ⟨(b.1, r', b.2.2.1 + 1, ()), l, 0, rfl, rfl, f3, f4⟩
theorem Check_eq (k : Bool × Int × Unit) : barrier_Check k = some (if 1 ≤ k.2.1 ∧ k.2.1 ≤ 65535 then 0 else 8) := by
  unfold barrier_Check
  rw [phase_eq, Option.bind_some]
  unfold ph
  split
  · rw [decide_eq_true (by omega)]; rfl
  · rw [decide_eq_false (by omega)]; rfl
theorem rCheck_eq (k : Bool × Int × Unit) : R22_Check k = some (if 1 ≤ k.2.1 ∧ k.2.1 ≤ 65535 then 0 else 8) := by
  unfold R22_Check
  by_cases h1 : k.2.1 < 1
  · rw [bif_pos h1, if_neg (by omega)]
  · rw [bif_neg h1]
    by_cases h2 : k.2.1 > 65535
    · rw [bif_pos h2, if_neg (by omega)]
    · rw [bif_neg h2, if_pos (by omega)]
theorem New_sim (k : Bool × Int × Unit) : ∃ b e, barrier_New k = some (b, e, ()) ∧ R22_New k = some (PB b, e, ()) ∧ WB b := by
  have hz := zero_wf
  have h0 : PR (List.replicate 4 0, List.replicate 4 0, ()) = ([], [], ()) := by rw [PR_mk, (ids_nil hz).2 rfl]
  unfold barrier_New R22_New
  rw [Check_eq, rCheck_eq]
  simp only [Option.bind_some]
  split
  · refine ⟨(k, (List.replicate 4 0, List.replicate 4 0, ()), 0, ()), 0, rfl, ?_, ⟨hz, hz⟩⟩
    unfold PB; simp only; rw [h0]; rfl
  · refine ⟨((false, 0, ()), (List.replicate 4 0, List.replicate 4 0, ()), 0, ()), 8, rfl, ?_, ⟨hz, hz⟩⟩
    unfold PB; simp only; rw [h0]; rfl
theorem with_eq {b : Bar} {r' : Roll} {e : Int} (h : e ≠ 0 → r' = b.2.1) : barrier_Bar_with b r' e = some ((b.1, r', b.2.2.1, ()), e, ()) := by
  unfold barrier_Bar_with
  by_cases he : e = 0
  · rw [bnot_pos he]
    by_cases h1 : r' = b.2.1
    · subst h1
      rw [he]
      simp only [beq_self_eq_true, decide_true, Bool.and_self, cond_true]
    · rw [he]
      have : ((decide ((r'.1 : List Int) = b.2.1.1)) && ((decide ((r'.2.1 : List Int) = b.2.1.2.1)) && true)) = false := by
        rw [Bool.and_true, ← Bool.not_eq_true, Bool.and_eq_true, decide_eq_true_iff, decide_eq_true_iff]
        rintro ⟨h2, h3⟩
        exact h1 (by obtain ⟨a, b, _⟩ := r'; simp only at h2 h3; rw [h2, h3])
      rw [this]
      simp only [beq_self_eq_true, decide_true, Bool.and_self, Bool.false_and, Bool.and_false, cond_false]
  · rw [bnot_neg he, h he]
theorem bEnrol_sim {b : Bar} (h : WB b) (a : Int) : ∃ b' e, barrier_Enrol b a = some (b', e, ()) ∧ R22_Enrol (PB b) a = some (PB b', e, ()) ∧ WB b' := by
  unfold barrier_Enrol R22_Enrol
  rw [bFine_eq h, rbFine_eq h]
  simp only [Option.bind_some]
  cases hf : bfine b with
  | false => exact ⟨_, _, rfl, rfl, h⟩
  | true =>
    obtain ⟨r', e, f1, f2, f3, f4⟩ := Enrol_sim (r := b.2.1) h a
    rw [show (PB b).2.1 = PR b.2.1 from rfl, f1, f2]
    simp only [Option.bind_some]
    rw [with_eq f4]
    exact ⟨_, _, rfl, rfl, f3⟩
theorem bResign_sim {b : Bar} (h : WB b) (a : Int) : ∃ b' e, barrier_Resign b a = some (b', e, ()) ∧ R22_Resign (PB b) a = some (PB b', e, ()) ∧ WB b' := by
  unfold barrier_Resign R22_Resign
  rw [bFine_eq h, rbFine_eq h]
  simp only [Option.bind_some]
  cases hf : bfine b with
  | false => exact ⟨_, _, rfl, rfl, h⟩
  | true =>
    obtain ⟨r', e, f1, f2, f3, f4⟩ := Resign_sim (r := b.2.1) h a
    rw [show (PB b).2.1 = PR b.2.1 from rfl, f1, f2]
    simp only [Option.bind_some]
    rw [with_eq f4]
    exact ⟨_, _, rfl, rfl, f3⟩
theorem bOffer_sim {b : Bar} (h : WB b) (a : Int) (c : Bool) : ∃ b' e, barrier_Offer b a c = some (b', e, ()) ∧ R22_Offer (PB b) a c = some (PB b', e, ()) ∧ WB b' := by
  unfold barrier_Offer R22_Offer
  rw [bFine_eq h, rbFine_eq h]
  simp only [Option.bind_some]
  cases hf : bfine b with
  | false => exact ⟨_, _, rfl, rfl, h⟩
  | true =>
    obtain ⟨p, p2, p3⟩ := bfine_ph hf
    obtain ⟨r', e, f1, f2, f3, f4⟩ := Offer_sim (r := b.2.1) h a
    rw [Left_eq p2, show (PB b).2.1 = PR b.2.1 from rfl, show (PB b).2.2.1 = b.2.2.1 from rfl, show (PB b).1 = b.1 from rfl, f1, f2]
    simp only [Option.bind_some]
    rw [with_eq f4]
    simp only [Option.bind_some, Bool.not_true, cond_false]
    have core : ∃ b' e', (bif decide (b.1.2.1 - b.2.2.1 = 0) then some (b, (14 : Int), ()) else some ((b.1, r', b.2.2.1, ()), e, ())) = some (b', e', ()) ∧ (bif decide (b.2.2.1 = b.1.2.1) then some (PB b, (14 : Int), ()) else some ((b.1, PR r', b.2.2.1, ()), e, ())) = some (PB b', e', ()) ∧ WB b' := by
      by_cases hq : b.2.2.1 = b.1.2.1
      · rw [bif_pos (by omega), bif_pos hq]; exact ⟨_, _, rfl, rfl, h⟩
      · rw [bif_neg (by omega), bif_neg hq]; exact ⟨_, _, rfl, rfl, f3⟩
    cases c with
    | false => exact core
    | true =>
      cases hk : b.1.1 with
      | false => exact ⟨_, _, rfl, rfl, h⟩
      | true => exact core
theorem bWithdraw_sim {b : Bar} (h : WB b) (a : Int) : ∃ b', barrier_Withdraw b a = some b' ∧ R22_Withdraw (PB b) a = some (PB b') ∧ WB b' := by
  unfold barrier_Withdraw R22_Withdraw
  rw [bFine_eq h, rbFine_eq h]
  simp only [Option.bind_some]
  cases hf : bfine b with
  | false => exact ⟨_, rfl, rfl, h⟩
  | true =>
    obtain ⟨r', e, f1, f2, f3⟩ := Withdraw_sim (r := b.2.1) h a
    rw [show (PB b).2.1 = PR b.2.1 from rfl, f1, f2]
    exact ⟨_, rfl, rfl, f3⟩
theorem bFrom_eq {b : Bar} (h : WB b) : L22_From b = some (PB b) := by
  unfold L22_From
  rw [From_eq h]; rfl
theorem bSame_eq {b : Bar} : L22_Same (PB b) (PB b) = some true := by
  unfold L22_Same
  rw [show (PB b).2.1 = PR b.2.1 from rfl, Same_eq]
  simp only [beq_self_eq_true, decide_true, Bool.and_self, cond_true, Option.bind_some]
theorem bTo_eq (a : Bar) (h1 : a.2.1.1.length ≤ 140737488355328) (h2 : a.2.1.2.1.length ≤ 140737488355328) : ∃ b, WB b ∧ L22_Plain a = some (PB b) ∧ L22_To (PB b) = some b ∧ b.1 = a.1 := by
  obtain ⟨r, r1, r2, r3⟩ := To_eq a.2.1 h1 h2
  refine ⟨(a.1, r, a.2.2.1, ()), r1, ?_, ?_, rfl⟩
  · unfold L22_Plain; rw [r2]; rfl
  · unfold L22_To
    rw [show (PB (a.1, r, a.2.2.1, ())).2.1 = PR r from rfl, Plain_PR, Option.bind_some, r3]; rfl
theorem Small_eq (a : Bar) : L22_Small a = some (decide (a.2.1.1.length ≤ 40 ∧ a.2.1.2.1.length ≤ 40)) := by
  unfold L22_Small
  by_cases h : (a.2.1.1.length : Int) ≤ 40
  · rw [bif_pos h]; congr 1; rw [decide_eq_decide]; omega
  · rw [bif_neg h, decide_eq_false (by omega)]
theorem alive22 : L22_alive = some true := by decide +kernel
end BS
end Go.Proofs.YtkpobmmabmelfaaDoorV
/- How many bits a word has, and how many ids a set. -/
namespace Go.Proofs.YtkpobmmabmelfaaDoorV
set_option linter.unusedVariables false
set_option linter.unusedSimpArgs false
namespace BS
def val : List Nat → Nat
  | [] => 0
  | b :: l => b + 256 * val l
theorem bit_cons {b v : Nat} (hb : b < 256) (i : Nat) : (b + 256 * v).testBit i = if i < 8 then b.testBit i else v.testBit (i - 8) := by
  rw [Nat.add_comm, show (256 : Nat) = 2 ^ 8 from rfl]
  exact Nat.testBit_two_pow_mul_add v hb i
theorem and_cons {b c v w : Nat} (hb : b < 256) (hc : c < 256) : (b + 256 * v) &&& (c + 256 * w) = (b &&& c) + 256 * (v &&& w) := by
  apply Nat.eq_of_testBit_eq
  intro i
  have : b &&& c < 256 := Nat.lt_of_le_of_lt Nat.and_le_left hb
  rw [Nat.testBit_and, bit_cons hb, bit_cons hc, bit_cons this]
  split <;> rw [Nat.testBit_and]
theorem and_zero' (c w : Nat) : (0 : Nat) &&& 0 = 0 := rfl
theorem and8 {a b c d e f g h m : Nat} (ha : a < 256) (hb : b < 256) (hc : c < 256) (hd : d < 256) (he : e < 256) (hf : f < 256) (hg : g < 256) (hh : h < 256) (hm : m < 256) :
    val [a, b, c, d, e, f, g, h] &&& val [m, m, m, m, m, m, m, m] = val [a &&& m, b &&& m, c &&& m, d &&& m, e &&& m, f &&& m, g &&& m, h &&& m] := by
  unfold val val val val val val val val val
  rw [and_cons ha hm, and_cons hb hm, and_cons hc hm, and_cons hd hm, and_cons he hm, and_cons hf hm, and_cons hg hm, and_cons hh hm]
  rfl
def pc (b : Nat) : Nat := (List.range 8).countP b.testBit
theorem count_add (p : Nat → Bool) (a b : Nat) : (List.range (a + b)).countP p = (List.range a).countP p + (List.range b).countP (fun i => p (a + i)) := by
  rw [List.range_add, List.countP_append, List.countP_map]; rfl
theorem count_congr {p q : Nat → Bool} {n : Nat} (h : ∀ i, i < n → p i = q i) : (List.range n).countP p = (List.range n).countP q :=
  List.countP_congr fun i hi => by rw [h i (List.mem_range.1 hi)]
theorem count_val : ∀ l : List Nat, (∀ b ∈ l, b < 256) → (List.range (8 * l.length)).countP (val l).testBit = (l.map pc).sum
  | [], _ => rfl
  | b :: l, h => by
    have hb := h b (by simp)
    rw [List.length_cons, show 8 * (l.length + 1) = 8 + 8 * l.length by omega, count_add, List.map_cons, List.sum_cons, ← count_val l fun c hc => h c (by simp [hc])]
    congr 1
    · refine count_congr fun i hi => ?_
      show (b + 256 * val l).testBit i = _
      rw [bit_cons hb, if_pos hi]
    · refine count_congr fun i hi => ?_
      show (b + 256 * val l).testBit (8 + i) = _
      rw [bit_cons hb, if_neg (by omega), show 8 + i - 8 = i by omega]
def s1 (b : Nat) : Nat := (b / 2 &&& 85) + (b &&& 85)
def s2 (c : Nat) : Nat := (c / 4 &&& 51) + (c &&& 51)
theorem s1_low : ∀ b, b < 128 → ∀ t, t < 2 → ((b + 128 * t) &&& 85) = (b &&& 85) := by decide +kernel
theorem s2_low : ∀ b, b < 64 → ∀ t, t < 4 → ((b + 64 * t) &&& 51) = (b &&& 51) := by decide +kernel
theorem s3_low : ∀ b, b < 16 → ∀ t, t < 16 → ((b + 16 * t) &&& 15) = b := by decide +kernel
theorem s_all : ∀ b, b < 256 → s1 b < 256 ∧ s2 (s1 b) / 16 ≤ 4 ∧ s2 (s1 b) % 16 ≤ 4 ∧ s2 (s1 b) < 256 ∧ s2 (s1 b) / 16 + s2 (s1 b) % 16 = pc b ∧ pc b ≤ 8 := by decide +kernel
theorem s1_le (b : Nat) : (b &&& 85) ≤ 85 := Nat.and_le_right
theorem s2_le (b : Nat) : (b &&& 51) ≤ 51 := Nat.and_le_right
theorem val8 (a b c d e f g h : Nat) : val [a, b, c, d, e, f, g, h] = a + 256 * b + 65536 * c + 16777216 * d + 4294967296 * e + 1099511627776 * f + 281474976710656 * g + 72057594037927936 * h := by
  unfold val val val val val val val val val; omega
theorem bytes {x : Nat} (h : x < 18446744073709551616) : ∃ a b c d e f g k, x = val [a, b, c, d, e, f, g, k] ∧ a < 256 ∧ b < 256 ∧ c < 256 ∧ d < 256 ∧ e < 256 ∧ f < 256 ∧ g < 256 ∧ k < 256 := by
  refine ⟨x % 256, x / 256 % 256, x / 65536 % 256, x / 16777216 % 256, x / 4294967296 % 256, x / 1099511627776 % 256, x / 281474976710656 % 256, x / 72057594037927936, ?_, ?_, ?_, ?_, ?_, ?_, ?_, ?_, ?_⟩
  · rw [val8]; omega
  all_goals omega
theorem st1 {a b c d e f g h : Nat} (ha : a < 256) (hb : b < 256) (hc : c < 256) (hd : d < 256) (he : e < 256) (hf : f < 256) (hg : g < 256) (hh : h < 256) :
    (val [a, b, c, d, e, f, g, h] / 2 &&& 6148914691236517205) + (val [a, b, c, d, e, f, g, h] &&& 6148914691236517205) = val [s1 a, s1 b, s1 c, s1 d, s1 e, s1 f, s1 g, s1 h] := by
  have e1 : val [a, b, c, d, e, f, g, h] / 2 = val [a / 2 + 128 * (b % 2), b / 2 + 128 * (c % 2), c / 2 + 128 * (d % 2), d / 2 + 128 * (e % 2), e / 2 + 128 * (f % 2), f / 2 + 128 * (g % 2), g / 2 + 128 * (h % 2), h / 2 + 128 * 0] := by
    rw [val8, val8]; omega
  have e2 : (6148914691236517205 : Nat) = val [85, 85, 85, 85, 85, 85, 85, 85] := rfl
  rw [e1, e2, and8 (by omega) (by omega) (by omega) (by omega) (by omega) (by omega) (by omega) (by omega) (by omega), and8 ha hb hc hd he hf hg hh (by omega)]
  rw [s1_low _ (by omega) _ (by omega), s1_low _ (by omega) _ (by omega), s1_low _ (by omega) _ (by omega), s1_low _ (by omega) _ (by omega), s1_low _ (by omega) _ (by omega), s1_low _ (by omega) _ (by omega), s1_low _ (by omega) _ (by omega), s1_low _ (by omega) _ (by omega)]
  rw [val8, val8, val8]
  unfold s1
  omega
theorem st2 {a b c d e f g h : Nat} (ha : a < 256) (hb : b < 256) (hc : c < 256) (hd : d < 256) (he : e < 256) (hf : f < 256) (hg : g < 256) (hh : h < 256) :
    (val [a, b, c, d, e, f, g, h] / 4 &&& 3689348814741910323) + (val [a, b, c, d, e, f, g, h] &&& 3689348814741910323) = val [s2 a, s2 b, s2 c, s2 d, s2 e, s2 f, s2 g, s2 h] := by
  have e1 : val [a, b, c, d, e, f, g, h] / 4 = val [a / 4 + 64 * (b % 4), b / 4 + 64 * (c % 4), c / 4 + 64 * (d % 4), d / 4 + 64 * (e % 4), e / 4 + 64 * (f % 4), f / 4 + 64 * (g % 4), g / 4 + 64 * (h % 4), h / 4 + 64 * 0] := by
    rw [val8, val8]; omega
  have e2 : (3689348814741910323 : Nat) = val [51, 51, 51, 51, 51, 51, 51, 51] := rfl
  rw [e1, e2, and8 (by omega) (by omega) (by omega) (by omega) (by omega) (by omega) (by omega) (by omega) (by omega), and8 ha hb hc hd he hf hg hh (by omega)]
  rw [s2_low _ (by omega) _ (by omega), s2_low _ (by omega) _ (by omega), s2_low _ (by omega) _ (by omega), s2_low _ (by omega) _ (by omega), s2_low _ (by omega) _ (by omega), s2_low _ (by omega) _ (by omega), s2_low _ (by omega) _ (by omega), s2_low _ (by omega) _ (by omega)]
  rw [val8, val8, val8]
  unfold s2
  omega
theorem st3 {a b c d e f g h : Nat} (ha : a / 16 ≤ 4 ∧ a % 16 ≤ 4) (hb : b / 16 ≤ 4 ∧ b % 16 ≤ 4) (hc : c / 16 ≤ 4 ∧ c % 16 ≤ 4) (hd : d / 16 ≤ 4 ∧ d % 16 ≤ 4) (he : e / 16 ≤ 4 ∧ e % 16 ≤ 4) (hf : f / 16 ≤ 4 ∧ f % 16 ≤ 4) (hg : g / 16 ≤ 4 ∧ g % 16 ≤ 4) (hh : h / 16 ≤ 4 ∧ h % 16 ≤ 4) :
    ((val [a, b, c, d, e, f, g, h] / 16 + val [a, b, c, d, e, f, g, h]) &&& 1085102592571150095) = val [a / 16 + a % 16, b / 16 + b % 16, c / 16 + c % 16, d / 16 + d % 16, e / 16 + e % 16, f / 16 + f % 16, g / 16 + g % 16, h / 16 + h % 16] := by
  have e1 : val [a, b, c, d, e, f, g, h] / 16 + val [a, b, c, d, e, f, g, h] = val [a / 16 + a % 16 + 16 * (a / 16 + b % 16), b / 16 + b % 16 + 16 * (b / 16 + c % 16), c / 16 + c % 16 + 16 * (c / 16 + d % 16), d / 16 + d % 16 + 16 * (d / 16 + e % 16), e / 16 + e % 16 + 16 * (e / 16 + f % 16), f / 16 + f % 16 + 16 * (f / 16 + g % 16), g / 16 + g % 16 + 16 * (g / 16 + h % 16), h / 16 + h % 16 + 16 * (h / 16)] := by
    rw [val8, val8]; omega
  have e2 : (1085102592571150095 : Nat) = val [15, 15, 15, 15, 15, 15, 15, 15] := rfl
  rw [e1, e2, and8 (by omega) (by omega) (by omega) (by omega) (by omega) (by omega) (by omega) (by omega) (by omega)]
  rw [s3_low _ (by omega) _ (by omega), s3_low _ (by omega) _ (by omega), s3_low _ (by omega) _ (by omega), s3_low _ (by omega) _ (by omega), s3_low _ (by omega) _ (by omega), s3_low _ (by omega) _ (by omega), s3_low _ (by omega) _ (by omega), s3_low _ (by omega) _ (by omega)]
theorem val_lt {a b c d e f g h : Nat} (ha : a < 256) (hb : b < 256) (hc : c < 256) (hd : d < 256) (he : e < 256) (hf : f < 256) (hg : g < 256) (hh : h < 256) : val [a, b, c, d, e, f, g, h] < 18446744073709551616 := by
  rw [val8]; omega
theorem fdiv_nat (x k : Nat) : Int.fdiv (x : Int) (k : Int) = ((x / k : Nat) : Int) := by
  rw [Int.fdiv_eq_ediv_of_nonneg _ (by omega)]; simp
theorem and_i64 {a : Nat} (ha : a < 9223372036854775808) : bitsOp .and .i64 (a : Int) 127 = ((a &&& 127 : Nat) : Int) := by
  show IntKind.i64.wrap (BitVec.ofInt 64 (a : Int) &&& BitVec.ofInt 64 ((127 : Nat) : Int)).toNat = _
  rw [BitVec.toNat_and, ofInt_nat (by omega), ofInt_nat (by omega)]
  have : a &&& 127 ≤ 127 := Nat.and_le_right
  exact w64 (by omega) (by omega)
theorem low8 {a b c d e f g h x : Nat} (hx : val [a, b, c, d, e, f, g, h] = x) (ha : a ≤ 8) (hb : b ≤ 8) (hc : c ≤ 8) (hd : d ≤ 8) (he : e ≤ 8) (hf : f ≤ 8) (hg : g ≤ 8) (hh : h ≤ 8) :
    x + x / 256 = val [a + b, b + c, c + d, d + e, e + f, f + g, g + h, h] := by
  subst hx
  have e1 : val [a, b, c, d, e, f, g, h] / 256 = val [b, c, d, e, f, g, h, 0] := by
    show (a + 256 * val [b, c, d, e, f, g, h]) / 256 = _
    rw [Nat.add_mul_div_left _ _ (by omega), Nat.div_eq_of_lt (by omega), Nat.zero_add]
    rfl
  rw [e1, val8, val8, val8]
  omega
theorem shift2 {a b : Nat} {l : List Nat} (ha : a < 256) (hb : b < 256) : val (a :: b :: l) / 65536 = val l := by
  show (a + 256 * (b + 256 * val l)) / 65536 = _
  omega
theorem shift4 {a b c d : Nat} {l : List Nat} (ha : a < 256) (hb : b < 256) (hc : c < 256) (hd : d < 256) : val (a :: b :: c :: d :: l) / 4294967296 = val l := by
  show (a + 256 * (b + 256 * (c + 256 * (d + 256 * val l)))) / 4294967296 = _
  omega
theorem low16 {a b c d e f g h x : Nat} (hx : x = val [a, b, c, d, e, f, g, h]) (ha : a ≤ 16) (hb : b ≤ 16) (hc : c ≤ 16) (hd : d ≤ 16) (he : e ≤ 16) (hf : f ≤ 16) (hg : g ≤ 16) (hh : h ≤ 16) :
    x + x / 65536 = val [a + c, b + d, c + e, d + f, e + g, f + h, g, h] := by
  subst hx
  rw [shift2 (by omega) (by omega), val8, val8]
  unfold val val val val val val val
  omega
theorem low32 {a b c d e f g h x : Nat} (hx : x = val [a, b, c, d, e, f, g, h]) (ha : a ≤ 32) (hb : b ≤ 32) (hc : c ≤ 32) (hd : d ≤ 32) (he : e ≤ 32) (hf : f ≤ 32) (hg : g ≤ 32) (hh : h ≤ 32) :
    x + x / 4294967296 = val [a + e, b + f, c + g, d + h, e, f, g, h] := by
  subst hx
  rw [shift4 (by omega) (by omega) (by omega) (by omega), val8, val8]
  unfold val val val val val
  omega
theorem last7 {a b c d e f g h x : Nat} (hx : x = val [a, b, c, d, e, f, g, h]) (ha : a ≤ 64) : x &&& 127 = a := by
  subst hx
  rw [show (127 : Nat) = 2 ^ 7 - 1 from rfl, Nat.and_two_pow_sub_one_eq_mod]
  show (a + 256 * val [b, c, d, e, f, g, h]) % 128 = a
  omega
theorem s1_lt {b : Nat} (h : b < 256) : s1 b < 256 := (s_all b h).1
theorem s2_lt {b : Nat} (h : b < 256) : s2 (s1 b) < 256 := (s_all b h).2.2.2.1
theorem s3_le {b : Nat} (h : b < 256) : s2 (s1 b) / 16 ≤ 4 ∧ s2 (s1 b) % 16 ≤ 4 := ⟨(s_all b h).2.1, (s_all b h).2.2.1⟩
theorem s3_pc {b : Nat} (h : b < 256) : s2 (s1 b) / 16 + s2 (s1 b) % 16 = pc b := (s_all b h).2.2.2.2.1
theorem pc_le {b : Nat} (h : b < 256) : pc b ≤ 8 := (s_all b h).2.2.2.2.2
theorem val_le44 {a b c d e f g h : Nat} (ha : a / 16 ≤ 4 ∧ a % 16 ≤ 4) (hb : b / 16 ≤ 4 ∧ b % 16 ≤ 4) (hc : c / 16 ≤ 4 ∧ c % 16 ≤ 4) (hd : d / 16 ≤ 4 ∧ d % 16 ≤ 4) (he : e / 16 ≤ 4 ∧ e % 16 ≤ 4) (hf : f / 16 ≤ 4 ∧ f % 16 ≤ 4) (hg : g / 16 ≤ 4 ∧ g % 16 ≤ 4) (hh : h / 16 ≤ 4 ∧ h % 16 ≤ 4) : val [a, b, c, d, e, f, g, h] ≤ 4919131752989213764 := by
  have a1 : a ≤ 68 := by omega
  have b1 : b ≤ 68 := by omega
  have c1 : c ≤ 68 := by omega
  have d1 : d ≤ 68 := by omega
  have e1 : e ≤ 68 := by omega
  have f1 : f ≤ 68 := by omega
  have g1 : g ≤ 68 := by omega
  have h1 : h ≤ 68 := by omega
  clear ha hb hc hd he hf hg hh
  rw [val8]; omega
theorem val_le64 {a b c d e f g h : Nat} (ha : a ≤ 64) (hb : b ≤ 64) (hc : c ≤ 64) (hd : d ≤ 64) (he : e ≤ 64) (hf : f ≤ 64) (hg : g ≤ 64) (hh : h ≤ 64) : val [a, b, c, d, e, f, g, h] ≤ 4629771061636907072 := by
  rw [val8]; omega
theorem pop_code (x1 x2 x3 x4 x5 x6 x7 n : Nat) (t1 : (x1 / 2 &&& 6148914691236517205) + (x1 &&& 6148914691236517205) = x2) (t2 : (x2 / 4 &&& 3689348814741910323) + (x2 &&& 3689348814741910323) = x3)
    (t3 : ((x3 / 16 + x3) &&& 1085102592571150095) = x4) (t4 : x4 + x4 / 256 = x5) (t5 : x5 + x5 / 65536 = x6) (t6 : x6 + x6 / 4294967296 = x7) (t7 : x7 &&& 127 = n)
    (l1 : x1 < 18446744073709551616) (l2 : x2 < 18446744073709551616) (l3 : x3 ≤ 4919131752989213764) (l4 : x4 ≤ 4629771061636907072) (l5 : x5 ≤ 4629771061636907072) (l6 : x6 ≤ 4629771061636907072) (l7 : x7 ≤ 4629771061636907072) :
    math_bits_OnesCount64 (x1 : Int) = some (n : Int) := by
  unfold math_bits_OnesCount64
  rw [chk_pos (by omega), letv_eq, chk_pos (by omega), letv_eq, chk_pos (by omega), letv_eq, chk_pos (by omega), letv_eq, chk_pos (by omega), letv_eq, chk_pos (by omega), letv_eq, letv_eq]
  have p1 : ((2 : Int) ^ min (1 : Int).toNat 64) = ((2 : Nat) : Int) := by decide
  have p2 : ((2 : Int) ^ min (2 : Int).toNat 64) = ((4 : Nat) : Int) := by decide
  have p4 : ((2 : Int) ^ min (4 : Int).toNat 64) = ((16 : Nat) : Int) := by decide
  have p8 : ((2 : Int) ^ min (8 : Int).toNat 64) = ((256 : Nat) : Int) := by decide
  have p16 : ((2 : Int) ^ min (16 : Int).toNat 64) = ((65536 : Nat) : Int) := by decide
  have p32 : ((2 : Int) ^ min (32 : Int).toNat 64) = ((4294967296 : Nat) : Int) := by decide
  have q1 : IntKind.u64.wrap ((bitsOp .and .u64 (Int.fdiv (x1 : Int) (2 ^ min (1 : Int).toNat 64)) 6148914691236517205) + (bitsOp .and .u64 (x1 : Int) 6148914691236517205)) = (x2 : Int) := by
    rw [p1, fdiv_nat, show (6148914691236517205 : Int) = ((6148914691236517205 : Nat) : Int) from rfl, and_nat (by omega) (by omega), and_nat (by omega) (by omega), ← Int.natCast_add, t1]
    exact wu64 (by omega) (by omega)
  rw [q1]
  have q2 : IntKind.u64.wrap ((bitsOp .and .u64 (Int.fdiv (x2 : Int) (2 ^ min (2 : Int).toNat 64)) 3689348814741910323) + (bitsOp .and .u64 (x2 : Int) 3689348814741910323)) = (x3 : Int) := by
    rw [p2, fdiv_nat, show (3689348814741910323 : Int) = ((3689348814741910323 : Nat) : Int) from rfl, and_nat (by omega) (by omega), and_nat (by omega) (by omega), ← Int.natCast_add, t2]
    exact wu64 (by omega) (by omega)
  rw [q2]
  have q3 : bitsOp .and .u64 (IntKind.u64.wrap ((Int.fdiv (x3 : Int) (2 ^ min (4 : Int).toNat 64)) + (x3 : Int))) 1085102592571150095 = (x4 : Int) := by
    rw [p4, fdiv_nat, ← Int.natCast_add, wu64 (by omega) (by omega), show (1085102592571150095 : Int) = ((1085102592571150095 : Nat) : Int) from rfl, and_nat (by omega) (by omega), t3]
  rw [q3]
  have q4 : IntKind.u64.wrap ((x4 : Int) + (Int.fdiv (x4 : Int) (2 ^ min (8 : Int).toNat 64))) = (x5 : Int) := by
    rw [p8, fdiv_nat, ← Int.natCast_add, t4]; exact wu64 (by omega) (by omega)
  rw [q4]
  have q5 : IntKind.u64.wrap ((x5 : Int) + (Int.fdiv (x5 : Int) (2 ^ min (16 : Int).toNat 64))) = (x6 : Int) := by
    rw [p16, fdiv_nat, ← Int.natCast_add, t5]; exact wu64 (by omega) (by omega)
  rw [q5]
  have q6 : IntKind.u64.wrap ((x6 : Int) + (Int.fdiv (x6 : Int) (2 ^ min (32 : Int).toNat 64))) = (x7 : Int) := by
    rw [p32, fdiv_nat, ← Int.natCast_add, t6]; exact wu64 (by omega) (by omega)
  rw [q6, w64 (by omega) (by omega), and_i64 (by omega), t7]
theorem pop_eq {x : Nat} (hx : x < 18446744073709551616) : math_bits_OnesCount64 (x : Int) = some (((List.range 64).countP x.testBit : Nat) : Int) := by
  obtain ⟨a, b, c, d, e, f, g, h, rfl, ha, hb, hc, hd, he, hf, hg, hh⟩ := bytes hx
  have hcount := count_val [a, b, c, d, e, f, g, h] (by
    intro y hy
    simp only [List.mem_cons, List.not_mem_nil, or_false] at hy
    rcases hy with rfl | rfl | rfl | rfl | rfl | rfl | rfl | rfl <;> assumption)
  have t4 : (List.range 64).countP (val [a, b, c, d, e, f, g, h]).testBit = pc a + pc b + pc c + pc d + pc e + pc f + pc g + pc h := by
    rw [show (64 : Nat) = 8 * [a, b, c, d, e, f, g, h].length from rfl, hcount]
    simp only [List.map_cons, List.map_nil, List.sum_cons, List.sum_nil, Nat.add_zero, Nat.add_assoc]
  rw [t4]
  have t1 := st1 ha hb hc hd he hf hg hh
  have t2 := st2 (s1_lt ha) (s1_lt hb) (s1_lt hc) (s1_lt hd) (s1_lt he) (s1_lt hf) (s1_lt hg) (s1_lt hh)
  have t3 := st3 (s3_le ha) (s3_le hb) (s3_le hc) (s3_le hd) (s3_le he) (s3_le hf) (s3_le hg) (s3_le hh)
  rw [s3_pc ha, s3_pc hb, s3_pc hc, s3_pc hd, s3_pc he, s3_pc hf, s3_pc hg, s3_pc hh] at t3
  have l1 := val_lt (s1_lt ha) (s1_lt hb) (s1_lt hc) (s1_lt hd) (s1_lt he) (s1_lt hf) (s1_lt hg) (s1_lt hh)
  have l2 := val_le44 (s3_le ha) (s3_le hb) (s3_le hc) (s3_le hd) (s3_le he) (s3_le hf) (s3_le hg) (s3_le hh)
  have pa := pc_le ha
  have pb := pc_le hb
  have pcc := pc_le hc
  have pd := pc_le hd
  have pe := pc_le he
  have pf := pc_le hf
  have pg := pc_le hg
  have ph := pc_le hh
  generalize pc a = A at *
  generalize pc b = B at *
  generalize pc c = C at *
  generalize pc d = D at *
  generalize pc e = E at *
  generalize pc f = F at *
  generalize pc g = G at *
  generalize pc h = H at *
  have u1 := low8 rfl pa pb pcc pd pe pf pg ph
  have u2 := low16 (x := val [A + B, B + C, C + D, D + E, E + F, F + G, G + H, H]) rfl (by omega) (by omega) (by omega) (by omega) (by omega) (by omega) (by omega) (by omega)
  have u3 := low32 (x := val [A + B + (C + D), B + C + (D + E), C + D + (E + F), D + E + (F + G), E + F + (G + H), F + G + H, G + H, H]) rfl (by omega) (by omega) (by omega) (by omega) (by omega) (by omega) (by omega) (by omega)
  have u4 := last7 (x := val [A + B + (C + D) + (E + F + (G + H)), B + C + (D + E) + (F + G + H), C + D + (E + F) + (G + H), D + E + (F + G) + H, E + F + (G + H), F + G + H, G + H, H]) rfl (by omega)
  have m1 := val_le64 (a := A) (b := B) (c := C) (d := D) (e := E) (f := F) (g := G) (h := H) (by omega) (by omega) (by omega) (by omega) (by omega) (by omega) (by omega) (by omega)
  have m2 := val_le64 (a := A + B) (b := B + C) (c := C + D) (d := D + E) (e := E + F) (f := F + G) (g := G + H) (h := H) (by omega) (by omega) (by omega) (by omega) (by omega) (by omega) (by omega) (by omega)
  have m3 := val_le64 (a := A + B + (C + D)) (b := B + C + (D + E)) (c := C + D + (E + F)) (d := D + E + (F + G)) (e := E + F + (G + H)) (f := F + G + H) (g := G + H) (h := H) (by omega) (by omega) (by omega) (by omega) (by omega) (by omega) (by omega) (by omega)
  have m4 := val_le64 (a := A + B + (C + D) + (E + F + (G + H))) (b := B + C + (D + E) + (F + G + H)) (c := C + D + (E + F) + (G + H)) (d := D + E + (F + G) + H) (e := E + F + (G + H)) (f := F + G + H) (g := G + H) (h := H) (by omega) (by omega) (by omega) (by omega) (by omega) (by omega) (by omega) (by omega)
  have := pop_code _ _ _ _ _ _ _ _ t1 t2 t3 u1 u2 u3 u4 hx l1 l2 m1 m2 m3 m4
  rw [this]
  congr 2
  omega
/-- How many ids: bit by bit. -/
theorem len_ids (s : List Int) : (ids (mem s)).length = (List.range 64).countP (wd s 0).testBit + (List.range 64).countP (wd s 1).testBit + (List.range 64).countP (wd s 2).testBit + (List.range 64).countP (wd s 3).testBit := by
  unfold ids idsTo
  rw [List.length_map, ← List.countP_eq_length_filter]
  have e0 := count_add (mem s) 192 64
  have e1 := count_add (mem s) 128 64
  have e2 := count_add (mem s) 64 64
  rw [show (256 : Nat) = 192 + 64 from rfl, e0, show (192 : Nat) = 128 + 64 from rfl, e1, show (128 : Nat) = 64 + 64 from rfl, e2]
  have c0 : (List.range 64).countP (mem s) = (List.range 64).countP (wd s 0).testBit := count_congr fun i hi => by
    unfold mem; rw [show i / 64 = 0 by omega, show i % 64 = i by omega]
  have c1 : (List.range 64).countP (fun i => mem s (64 + i)) = (List.range 64).countP (wd s 1).testBit := count_congr fun i hi => by
    unfold mem; rw [show (64 + i) / 64 = 1 by omega, show (64 + i) % 64 = i by omega]
  have c2 : (List.range 64).countP (fun i => mem s (64 + 64 + i)) = (List.range 64).countP (wd s 2).testBit := count_congr fun i hi => by
    unfold mem; rw [show (64 + 64 + i) / 64 = 2 by omega, show (64 + 64 + i) % 64 = i by omega]
  have c3 : (List.range 64).countP (fun i => mem s (64 + 64 + 64 + i)) = (List.range 64).countP (wd s 3).testBit := count_congr fun i hi => by
    unfold mem; rw [show (64 + 64 + 64 + i) / 64 = 3 by omega, show (64 + 64 + 64 + i) % 64 = i by omega]
  rw [c0, c1, c2, c3]
theorem Len_eq {s : List Int} (h : Wf s) : bitset_Len s = some ((ids (mem s)).length : Int) := by
  rw [len_ids]
  obtain ⟨w0, v0⟩ := h.wd 0
  obtain ⟨w1, v1⟩ := h.wd 1
  obtain ⟨w2, v2⟩ := h.wd 2
  obtain ⟨w3, v3⟩ := h.wd 3
  have hle : ∀ n : Nat, (List.range 64).countP n.testBit ≤ 64 := fun n => by
    have := List.countP_le_length (p := n.testBit) (l := List.range 64)
    simpa using this
  have l0 := hle (wd s 0)
  have l1 := hle (wd s 1)
  have l2 := hle (wd s 2)
  have l3 := hle (wd s 3)
  have p0 := pop_eq v0
  have p1 := pop_eq v1
  have p2 := pop_eq v2
  have p3 := pop_eq v3
  generalize (List.range 64).countP (wd s 0).testBit = n0 at *
  generalize (List.range 64).countP (wd s 1).testBit = n1 at *
  generalize (List.range 64).countP (wd s 2).testBit = n2 at *
  generalize (List.range 64).countP (wd s 3).testBit = n3 at *
  unfold bitset_Len
  refine loop_by (fun x => x = ((0 : Int), (0 : Int)) ∨ x = ((n0 : Int), 1) ∨ x = ((n0 + n1 : Int), 2) ∨ x = ((n0 + n1 + n2 : Int), 3) ∨ x = ((n0 + n1 + n2 + n3 : Int), 4)) (fun x => (4 - x.2).toNat) (fun _ => some ((n0 + n1 + n2 + n3 : Nat) : Int)) (.inl rfl) (by simp) ?_
  intro k x hx hk
  unfold bitset_Len_L1
  rcases hx with rfl | rfl | rfl | rfl | rfl
  · simp only at hk ⊢
    rw [bif_pos (by omega), chk_pos (by omega), show (0 : Int).toNat = 0 from rfl, w0, p0, Option.bind_some, w64 (by omega) (by omega), w64 (by omega) (by omega)]
    exact hk _ (.inr (.inl (by simp))) (by simp only; omega)
  · simp only at hk ⊢
    rw [bif_pos (by omega), chk_pos (by omega), show (1 : Int).toNat = 1 from rfl, w1, p1, Option.bind_some, w64 (by omega) (by omega), w64 (by omega) (by omega)]
    exact hk _ (.inr (.inr (.inl rfl))) (by simp only; omega)
  · simp only at hk ⊢
    rw [bif_pos (by omega), chk_pos (by omega), show (2 : Int).toNat = 2 from rfl, w2, p2, Option.bind_some, w64 (by omega) (by omega), w64 (by omega) (by omega)]
    exact hk _ (.inr (.inr (.inr (.inl rfl)))) (by simp only; omega)
  · simp only at hk ⊢
    rw [bif_pos (by omega), chk_pos (by omega), show (3 : Int).toNat = 3 from rfl, w3, p3, Option.bind_some, w64 (by omega) (by omega), w64 (by omega) (by omega)]
    exact hk _ (.inr (.inr (.inr (.inr rfl)))) (by simp only; omega)
  · simp only at hk ⊢
    rw [bif_neg (by omega)]
    unfold bitset_Len_J1
    simp
end BS
end Go.Proofs.YtkpobmmabmelfaaDoorV
/- BarrierEnds. -/
namespace Go.Proofs.YtkpobmmabmelfaaDoorV
set_option linter.unusedVariables false
set_option linter.unusedSimpArgs false
namespace BS
abbrev X1 : Type := Int × List (List Int) × Int × Int × Bool × Int × List Int × List Int × Int × List Bool
abbrev X3 : Type := Int × Int × List (List Int) × Int × Int × Bool × Int × List Int × List Int × Int × List Bool × Bool × Int × List Int × List Int × Int
theorem ids_nodup (p : Nat → Bool) : (ids p).Nodup := by
  unfold ids idsTo
  exact List.Pairwise.map (R := fun a b : Nat => a ≠ b) _ (fun a b h => by show (a : Int) ≠ (b : Int); omega) (List.Pairwise.filter _ List.nodup_range)
/-- A barrier, and for whom it has been told that they wait. -/
structure BI (b : Bar) (l : List Bool) : Prop where
  w : WB b
  f : bfine b = true
  n : l.length = 16
  a : ∀ i, i < 16 → mem b.2.1.2.1 i = true → l.getD i false = true
theorem BI.sub {b : Bar} {l : List Bool} (h : BI b l) : BS.sub b.2.1.1 gl_becket_roll_everybody = true ∧ BS.sub b.2.1.2.1 b.2.1.1 = true := by
  have := (bfine_ph h.f).2.2
  unfold fine at this
  rwa [Bool.and_eq_true] at this
theorem fine_mk {s t : List Int} (h1 : BS.sub s gl_becket_roll_everybody = true) (h2 : BS.sub t s = true) : fine (s, t, ()) = true := by
  unfold fine; rw [h1, h2]; rfl
theorem bfine_mk {c : Bool × Int × Unit} {r : Roll} {n : Int} (h1 : ph n c.2.1 = true) (h2 : fine r = true) : bfine (c, r, n, ()) = true := by
  unfold bfine; rw [h1, h2]; rfl
theorem lt16 {s : List Int} (h : BS.sub s gl_becket_roll_everybody = true) {i : Nat} (hi : i < 256) (hm : mem s i = true) : i < 16 := by
  have := sub_iff.1 h i hi hm
  rw [ev_mem i hi] at this
  exact of_decide_eq_true this
theorem asked_ok {r : Roll} (h : WR r) (hf : fine r = true) {p : Int} (p0 : 0 ≤ p) (p1 : p < 16) : roll_asked r p = some 0 := by
  unfold roll_asked
  rw [Fine_eq h, hf, Option.bind_some, Bool.not_true, cond_false, has_eq ev_wf, Option.bind_some, ev_mem _ (by omega), decide_eq_true (by omega : 0 ≤ p ∧ p ≤ 255), decide_eq_true (by omega : p.toNat < 16)]
  rfl
theorem has_ok {s : List Int} (h : Wf s) {p : Int} (p0 : 0 ≤ p) (p1 : p < 16) : bitset_Has s p = some (mem s p.toNat) := by
  rw [has_eq h, decide_eq_true (by omega : 0 ≤ p ∧ p ≤ 255), Bool.true_and]
theorem enrol_bi {b : Bar} {l : List Bool} (h : BI b l) {p : Int} (p0 : 0 ≤ p) (p1 : p < 16) : ∃ b' e, barrier_Enrol b p = some (b', e, ()) ∧ (e ≠ 0 → b' = b) ∧ BI b' l ∧ b'.2.2.1 = b.2.2.1 := by
  obtain ⟨s1, s2⟩ := h.sub
  have hfi := (bfine_ph h.f).2.2
  have hp := (bfine_ph h.f).2.1
  unfold barrier_Enrol roll_Enrol
  rw [bFine_eq h.w, h.f, asked_ok h.w hfi p0 p1]
  simp only [Option.bind_some, Bool.not_true, cond_false, decide_true]
  rw [has_ok h.w.1 p0 p1]
  cases hm : mem b.2.1.1 p.toNat with
  | true =>
    simp only [Option.bind_some, cond_true]
    rw [with_eq (fun _ => rfl)]
    exact ⟨b, 7, rfl, fun _ => rfl, h, rfl⟩
  | false =>
    obtain ⟨u, u1, u2, u3⟩ := add_eq h.w.1 p
    simp only [Option.bind_some, cond_false]
    rw [u1, Option.bind_some, Option.bind_some, with_eq (fun h => absurd rfl h)]
    refine ⟨_, 0, rfl, fun h => absurd rfl h, ⟨⟨u2, h.w.2⟩, bfine_mk hp (fine_mk (sub_iff.2 fun i hi hx => ?_) (sub_iff.2 fun i hi hx => ?_)), h.n, h.a⟩, rfl⟩
    · rw [u3 i hi, Bool.or_eq_true, decide_eq_true_iff] at hx
      rcases hx with hx | hx
      · exact sub_iff.1 s1 i hi hx
      · rw [ev_mem i hi, decide_eq_true (by omega)]
    · rw [u3 i hi, sub_iff.1 s2 i hi hx, Bool.true_or]
theorem setF_getD {l : List Bool} {a k : Nat} {v : Bool} (h : a < l.length) : (l.set a v).getD k false = if a = k then v else l.getD k false := by
  rw [List.getD_eq_getElem?_getD, List.getElem?_set]
  split
  · rfl
  · rw [List.getD_eq_getElem?_getD]
theorem resign_bi {b : Bar} {l : List Bool} (h : BI b l) {p : Int} (p0 : 0 ≤ p) (p1 : p < 16) : ∃ b' e, barrier_Resign b p = some (b', e, ()) ∧ (e ≠ 0 → b' = b) ∧ BI b' (l.set p.toNat false) ∧ b'.2.2.1 = b.2.2.1 := by
  obtain ⟨s1, s2⟩ := h.sub
  have hfi := (bfine_ph h.f).2.2
  have hp := (bfine_ph h.f).2.1
  have hn := h.n
  unfold barrier_Resign roll_Resign
  rw [bFine_eq h.w, h.f, asked_ok h.w hfi p0 p1]
  simp only [Option.bind_some, Bool.not_true, cond_false, decide_true]
  rw [has_ok h.w.1 p0 p1]
  cases hm : mem b.2.1.1 p.toNat with
  | false =>
    simp only [Option.bind_some, Bool.not_false, cond_true]
    rw [with_eq (fun _ => rfl)]
    refine ⟨b, 6, rfl, fun _ => rfl, ⟨h.w, h.f, by rw [List.length_set]; exact hn, fun i hi hx => ?_⟩, rfl⟩
    rw [setF_getD (by omega), if_neg (fun e => by
      have := sub_iff.1 s2 i (by omega) hx
      rw [← e, hm] at this; cases this)]
    exact h.a i hi hx
  | true =>
    obtain ⟨u, u1, u2, u3⟩ := drop_eq h.w.1 p
    obtain ⟨v, v1, v2, v3⟩ := drop_eq h.w.2 p
    simp only [Option.bind_some, Bool.not_true, cond_false]
    rw [u1, v1]
    simp only [Option.bind_some]
    rw [with_eq (fun h => absurd rfl h)]
    refine ⟨_, 0, rfl, fun h => absurd rfl h, ⟨⟨u2, v2⟩, bfine_mk hp (fine_mk (sub_iff.2 fun i hi hx => ?_) (sub_iff.2 fun i hi hx => ?_)), by rw [List.length_set]; exact hn, fun i hi hx => ?_⟩, rfl⟩
    · rw [u3 i hi, Bool.and_eq_true] at hx
      exact sub_iff.1 s1 i hi hx.1
    · rw [v3 i hi, Bool.and_eq_true] at hx
      rw [u3 i hi, sub_iff.1 s2 i hi hx.1, hx.2]; rfl
    · have hx : mem v i = true := hx
      rw [v3 i (by omega), Bool.and_eq_true, Bool.not_eq_true', decide_eq_false_iff_not] at hx
      rw [setF_getD (by omega), if_neg (by omega)]
      exact h.a i hi hx.1
theorem offer_bi {b : Bar} {l : List Bool} (h : BI b l) {p : Int} (p0 : 0 ≤ p) (p1 : p < 16) (c : Bool) : ∃ b' e, barrier_Offer b p c = some (b', e, ()) ∧ (e ≠ 0 → b' = b) ∧ BI b' (if e = 0 then l.set p.toNat true else l) ∧ b'.2.2.1 = b.2.2.1 := by
  obtain ⟨s1, s2⟩ := h.sub
  have hfi := (bfine_ph h.f).2.2
  have hp := (bfine_ph h.f).2.1
  have hn := h.n
  have no : ∀ e : Int, e ≠ 0 → ∃ b' e', some (b, e, ()) = some (b', e', ()) ∧ (e' ≠ 0 → b' = b) ∧ BI b' (if e' = 0 then l.set p.toNat true else l) ∧ b'.2.2.1 = b.2.2.1 := fun e he => ⟨b, e, rfl, fun _ => rfl, by rw [if_neg he]; exact h, rfl⟩
  unfold barrier_Offer roll_Offer
  rw [bFine_eq h.w, h.f, asked_ok h.w hfi p0 p1, Left_eq hp, has_ok h.w.1 p0 p1, has_ok h.w.2 p0 p1]
  simp only [Option.bind_some, Bool.not_true, cond_false, decide_true]
  have core : ∃ b' e', (bif decide (b.1.2.1 - b.2.2.1 = 0) then some (b, (14 : Int), ()) else Option.bind (bif !mem b.2.1.1 p.toNat then some (b.2.1, (6 : Int), ()) else bif mem b.2.1.2.1 p.toNat then some (b.2.1, 7, ()) else Option.bind (bitset_Add b.2.1.2.1 p) fun r4 => some ((b.2.1.1, r4, ()), 0, ())) fun r4 => Option.bind (barrier_Bar_with b r4.1 r4.2.1) fun r5 => some (r5.1, r5.2.1, ())) = some (b', e', ()) ∧ (e' ≠ 0 → b' = b) ∧ BI b' (if e' = 0 then l.set p.toNat true else l) ∧ b'.2.2.1 = b.2.2.1 := by
    by_cases hq : b.1.2.1 - b.2.2.1 = 0
    · rw [bif_pos hq]; exact no 14 (by omega)
    · rw [bif_neg hq]
      cases hm : mem b.2.1.1 p.toNat with
      | false =>
        simp only [Bool.not_false, cond_true, Option.bind_some]
        rw [with_eq (fun _ => rfl)]
        exact no 6 (by omega)
      | true =>
        cases hm2 : mem b.2.1.2.1 p.toNat with
        | true =>
          simp only [Bool.not_true, cond_false, cond_true, Option.bind_some]
          rw [with_eq (fun _ => rfl)]
          exact no 7 (by omega)
        | false =>
          obtain ⟨v, v1, v2, v3⟩ := add_eq h.w.2 p
          simp only [Bool.not_true, cond_false, Option.bind_some]
          rw [v1]
          simp only [Option.bind_some]
          rw [with_eq (fun h => absurd rfl h)]
          refine ⟨_, 0, rfl, fun h => absurd rfl h, ⟨⟨h.w.1, v2⟩, bfine_mk hp (fine_mk s1 (sub_iff.2 fun i hi hx => ?_)), by rw [if_pos rfl, List.length_set]; exact hn, fun i hi hx => ?_⟩, rfl⟩
          · rw [v3 i hi, Bool.or_eq_true, decide_eq_true_iff] at hx
            rcases hx with hx | hx
            · exact sub_iff.1 s2 i hi hx
            · rw [show i = p.toNat by omega]; exact hm
          · have hx : mem v i = true := hx
            rw [v3 i (by omega), Bool.or_eq_true, decide_eq_true_iff] at hx
            rw [if_pos rfl, setF_getD (by omega)]
            split
            · rfl
            · rename_i hne
              rcases hx with hx | hx
              · exact h.a i hi hx
              · omega
  cases c with
  | false => exact core
  | true =>
    cases hk : b.1.1 with
    | false => exact no 12 (by omega)
    | true => exact core
theorem fire_ok {b : Bar} (h : WB b) (hr : bready b = true) : ∃ b', barrier_Fire b = some (b', ids (mem b.2.1.2.1), 0, ()) ∧ WB b' ∧ bfine b' = true ∧ b'.2.1.2.1 = List.replicate 4 0 ∧ b.2.1.2.1 = b.2.1.1 ∧ b'.2.2.1 = b.2.2.1 + 1 ∧ ids (mem b.2.1.2.1) ≠ [] := by
  unfold bready at hr
  rw [Bool.and_eq_true, Bool.and_eq_true] at hr
  obtain ⟨hf, hfu, hlt⟩ := hr
  have hlt := of_decide_eq_true hlt
  obtain ⟨p, p2, p3⟩ := bfine_ph hf
  have hb : bready b = true := by unfold bready; rw [hf, hfu, decide_eq_true hlt]; rfl
  have hfu2 := hfu
  unfold full at hfu2
  rw [Bool.and_eq_true, Bool.and_eq_true, decide_eq_true_iff, Bool.not_eq_true', decide_eq_false_iff_not] at hfu2
  obtain ⟨_, e1, e2⟩ := hfu2
  have hn : phase_Next b.2.2.1 b.1.2.1 = some (b.2.2.1 + 1, 0, ()) := by
    unfold phase_Next
    rw [phase_eq, p2, Option.bind_some, Bool.not_true, cond_false, bif_neg (by omega), w64 (by omega) (by omega)]
  have hF : roll_Fire b.2.1 = some ((b.2.1.1, List.replicate 4 0, ()), ids (mem b.2.1.2.1), 0, ()) := by
    unfold roll_Fire
    rw [Fine_eq h, p3, Option.bind_some, Bool.not_true, cond_false, Full_eq h, hfu, Option.bind_some, Bool.not_true, cond_false, List_eq h.2]; rfl
  unfold barrier_Fire
  rw [bFine_eq h, hf, Option.bind_some, Bool.not_true, cond_false, bReady_eq h, hb, Option.bind_some, Bool.not_true, cond_false, hF]
  simp only [Option.bind_some, decide_true, Bool.not_true, cond_false]
  rw [hn]
  have hfi := p3
  unfold fine at hfi
  rw [Bool.and_eq_true] at hfi
  refine ⟨(b.1, (b.2.1.1, List.replicate 4 0, ()), b.2.2.1 + 1, ()), rfl, ⟨h.1, zero_wf⟩, bfine_mk (by unfold ph; exact decide_eq_true (by omega)) (fine_mk hfi.1 (sub_iff.2 fun i hi hx => by rw [zero_mem] at hx; cases hx)), rfl, e1, rfl, fun e => e2 ((ids_nil h.2).1 e)⟩
theorem who1 {x3 : X3} {r : Bar × (List Int) × Int × Unit} {k2 : X1 → Option Bool} (hd : r.2.1.Nodup) (hw : Wf x3.2.2.2.2.2.2.2.2.2.2.2.2.2.1) (hm : ∀ v ∈ r.2.1, 0 ≤ v ∧ v < 16 ∧ mem x3.2.2.2.2.2.2.2.2.2.2.2.2.2.1 v.toNat = true) (hl : r.2.1.length ≤ 256)
    (atl : List Bool) (ha : atl.length = 16) (hat : ∀ v ∈ r.2.1, atl.getD v.toNat false = true) (hk2 : ∀ ys : List Bool, ys.length = 16 → L22_BarrierEnds_J2 k2 x3 r ys = some true) :
    loop (L22_BarrierEnds_L1 (r.2.1.length : Int) r x3 k2) (0, atl) = some true := by
  refine (loop_up (fun x => x.1) r.2.1.length (fun x => ∃ j ys, 0 ≤ j ∧ ys.length = 16 ∧ (∀ v ∈ r.2.1.drop j.toNat, ys.getD v.toNat false = true) ∧ x = (j, ys)) (fun x => some true) ⟨0, atl, by omega, ha, by simpa using hat, rfl⟩ (by simp; omega) ?_).trans rfl
  rintro k _ ⟨j, ys, h0, hy, hv, rfl⟩ hk
  simp only at hk ⊢
  unfold L22_BarrierEnds_L1
  simp only
  by_cases hj : j < (r.2.1.length : Int)
  · have hd2 : (r.2.1.drop j.toNat).Nodup := hd.sublist (List.drop_sublist _ _)
    have e := drop_at (d := 0) h0 hj
    have hin := getD_mem (d := 0) h0 hj
    rw [e] at hv hd2
    obtain ⟨v0, v1, v2⟩ := hm _ hin
    have hh := has_eq hw (r.2.1.getD j.toNat 0)
    rw [v2, decide_eq_true (by omega : 0 ≤ r.2.1.getD j.toNat 0 ∧ r.2.1.getD j.toNat 0 ≤ 255)] at hh
    rw [bif_pos hj, chk_at h0 hj, bif_neg (by omega), bif_neg (by omega), chk_pos (by omega), hv _ List.mem_cons_self, hh, chk_pos (by omega), w64 (by omega) (by omega)]
    simp only [Bool.not_true, cond_false, Option.bind_some, Bool.and_self]
    refine hk hj _ ⟨j + 1, _, by omega, by rw [List.length_set]; exact hy, fun w hw2 => ?_, rfl⟩ rfl
    obtain ⟨w0, w1, _⟩ := hm w (List.mem_of_mem_drop hw2)
    have hne : w ≠ r.2.1.getD j.toNat 0 := fun h => (List.nodup_cons.1 hd2).1 (h ▸ hw2)
    have := hv w (List.mem_cons_of_mem _ hw2)
    rw [List.getD_eq_getElem?_getD] at this ⊢
    rw [List.getElem?_set_ne (by omega)]; exact this
  · rw [bif_neg hj]; exact hk2 ys hy
theorem who2 {x3 : X3} {r : Bar × (List Int) × Int × Unit} {k2 : X1 → Option Bool} (hd : r.2.1.Nodup) (hw : Wf x3.2.2.2.2.2.2.2.2.2.2.2.2.2.1) (hm : ∀ v ∈ r.2.1, 0 ≤ v ∧ v < 16 ∧ mem x3.2.2.2.2.2.2.2.2.2.2.2.2.2.1 v.toNat = true) (hl : r.2.1.length ≤ 256)
    (atl : List Bool) (ha : atl.length = 16) (hat : ∀ v ∈ r.2.1, atl.getD v.toNat false = true) (hk2 : ∀ ys : List Bool, ys.length = 16 → L22_BarrierEnds_J3 k2 x3 r ys = some true) :
    loop (L22_BarrierEnds_L2 (r.2.1.length : Int) r x3 k2) (0, atl) = some true := by
  refine (loop_up (fun x => x.1) r.2.1.length (fun x => ∃ j ys, 0 ≤ j ∧ ys.length = 16 ∧ (∀ v ∈ r.2.1.drop j.toNat, ys.getD v.toNat false = true) ∧ x = (j, ys)) (fun x => some true) ⟨0, atl, by omega, ha, by simpa using hat, rfl⟩ (by simp; omega) ?_).trans rfl
  rintro k _ ⟨j, ys, h0, hy, hv, rfl⟩ hk
  simp only at hk ⊢
  unfold L22_BarrierEnds_L2
  simp only
  by_cases hj : j < (r.2.1.length : Int)
  · have hd2 : (r.2.1.drop j.toNat).Nodup := hd.sublist (List.drop_sublist _ _)
    have e := drop_at (d := 0) h0 hj
    have hin := getD_mem (d := 0) h0 hj
    rw [e] at hv hd2
    obtain ⟨v0, v1, v2⟩ := hm _ hin
    have hh := has_eq hw (r.2.1.getD j.toNat 0)
    rw [v2, decide_eq_true (by omega : 0 ≤ r.2.1.getD j.toNat 0 ∧ r.2.1.getD j.toNat 0 ≤ 255)] at hh
    rw [bif_pos hj, chk_at h0 hj, bif_neg (by omega), bif_neg (by omega), chk_pos (by omega), hv _ List.mem_cons_self, hh, chk_pos (by omega), w64 (by omega) (by omega)]
    simp only [Bool.not_true, cond_false, Option.bind_some, Bool.and_self]
    refine hk hj _ ⟨j + 1, _, by omega, by rw [List.length_set]; exact hy, fun w hw2 => ?_, rfl⟩ rfl
    obtain ⟨w0, w1, _⟩ := hm w (List.mem_of_mem_drop hw2)
    have hne : w ≠ r.2.1.getD j.toNat 0 := fun h => (List.nodup_cons.1 hd2).1 (h ▸ hw2)
    have := hv w (List.mem_cons_of_mem _ hw2)
    rw [List.getD_eq_getElem?_getD] at this ⊢
    rw [List.getElem?_set_ne (by omega)]; exact this
  · rw [bif_neg hj]; exact hk2 ys hy
def InvE (x : X1) (l : List (List Int)) (j : Int) : Prop := ∃ c lim m s n atl, x = (n, l, (l.length : Int), j, c, lim, m, s, n, atl) ∧ BI ((c, lim, ()), (m, s, ()), n, ()) atl
theorem zero_bi {b : Bar} {l : List Bool} (hw : WB b) (hf : bfine b = true) (hz : b.2.1.2.1 = List.replicate 4 0) (hl : l.length = 16) : BI b l := ⟨hw, hf, hl, fun i hi hx => by rw [hz, zero_mem] at hx; cases hx⟩
theorem R1_ok {l : List (List Int)} (hl : l.length ≤ 60) {j e : Int} {b b' : Bar} {atl atl' : List Bool} (he : e ≠ 0 → b' = b) (h : BI b' atl') (hp : b'.2.2.1 = b.2.2.1) (k2 : X1 → Option Bool) (hk : ∀ y, InvE y l j → k2 y = some true) (n0 : 0 ≤ b.2.2.1) (n1 : b.2.2.1 ≤ 65535) :
    L22_BarrierEnds_R1 k2 (b.2.2.1, e, l, (l.length : Int), j, b.1.1, b.1.2.1, b.2.1.1, b.2.1.2.1, b.2.2.1, atl', b'.1.1, b'.1.2.1, b'.2.1.1, b'.2.1.2.1, b'.2.2.1) = some true := by
  have hb' : ((b'.1.1, b'.1.2.1, ()), (b'.2.1.1, b'.2.1.2.1, ()), b'.2.2.1, ()) = b' := rfl
  have same : e ≠ 0 → (((b'.1.1 == b.1.1) && ((decide (b'.1.2.1 = b.1.2.1)) && true)) && (((decide ((b'.2.1.1 : List Int) = b.2.1.1)) && ((decide ((b'.2.1.2.1 : List Int) = b.2.1.2.1)) && true)) && ((decide (b'.2.2.1 = b.2.2.1)) && true))) = true := fun h => by rw [he h]; simp
  have go : k2 (b.2.2.1, l, (l.length : Int), j, b'.1.1, b'.1.2.1, b'.2.1.1, b'.2.1.2.1, b'.2.2.1, atl') = some true := hk _ ⟨b'.1.1, b'.1.2.1, b'.2.1.1, b'.2.1.2.1, b'.2.2.1, atl', by rw [hp], h⟩
  unfold L22_BarrierEnds_R1
  simp only
  rw [hb', bReady_eq h.w]
  cases hr : bready b' with
  | false =>
    by_cases h0 : e = 0
    · rw [bnot_pos h0]; exact go
    · rw [bnot_neg h0, same h0]; exact go
  | true =>
    obtain ⟨d, f1, f2, f3, f4, f5, f6, f7⟩ := fire_ok h.w hr
    obtain ⟨s1, s2⟩ := h.sub
    have hlen : ((ids (mem b'.2.1.2.1)).length : Int) ≠ 0 := fun hq => f7 (List.length_eq_zero_iff.1 (by omega))
    have hm : ∀ v ∈ ids (mem b'.2.1.2.1), 0 ≤ v ∧ v < 16 ∧ mem b'.2.1.1 v.toNat = true := fun v hv => by
      obtain ⟨v0, v1, v2⟩ := ids_mem.1 hv
      have v3 := sub_iff.1 s2 v.toNat (by omega) v2
      have := lt16 s1 (by omega) v3
      exact ⟨v0, by omega, v3⟩
    have ha : ∀ v ∈ ids (mem b'.2.1.2.1), atl'.getD v.toNat false = true := fun v hv => by
      obtain ⟨v0, v1, v2⟩ := ids_mem.1 hv
      obtain ⟨_, v4, _⟩ := hm v hv
      exact h.a _ (by omega) v2
    have fin : ∀ ys : List Bool, ys.length = 16 → k2 (b.2.2.1 + 1, l, (l.length : Int), j, d.1.1, d.1.2.1, d.2.1.1, d.2.1.2.1, d.2.2.1, ys) = some true := fun ys hy => hk _ ⟨d.1.1, d.1.2.1, d.2.1.1, d.2.1.2.1, d.2.2.1, ys, by rw [f6, hp], zero_bi f2 f3 f4 hy⟩
    have hL := Len_eq h.w.1
    rw [← f5] at hL
    rw [f1]
    simp only [Option.bind_some, Bool.not_true, cond_false, decide_true]
    by_cases h0 : e = 0
    · rw [bnot_pos h0, bif_neg hlen, show bitset_Len b'.2.1.1 = some ((ids (mem b'.2.1.2.1)).length : Int) from by rw [← f5]; exact Len_eq h.w.2]
      simp only [Option.bind_some, decide_true, Bool.not_true, cond_false]
      refine who2 (x3 := (b.2.2.1, e, l, (l.length : Int), j, b.1.1, b.1.2.1, b.2.1.1, b.2.1.2.1, b.2.2.1, atl', b'.1.1, b'.1.2.1, b'.2.1.1, b'.2.1.2.1, b'.2.2.1)) (k2 := k2) (r := (d, ids (mem b'.2.1.2.1), 0, ())) (ids_nodup _) h.w.1 hm (ids_len _) atl' h.n ha fun ys hy => ?_
      unfold L22_BarrierEnds_J3
      simp only
      rw [w64 (by omega) (by omega)]; exact fin ys hy
    · rw [bnot_neg h0, same h0]
      simp only [Bool.not_true, cond_false]
      rw [bif_neg hlen, show bitset_Len b'.2.1.1 = some ((ids (mem b'.2.1.2.1)).length : Int) from by rw [← f5]; exact Len_eq h.w.2]
      simp only [Option.bind_some, decide_true, Bool.not_true, cond_false]
      refine who1 (x3 := (b.2.2.1, e, l, (l.length : Int), j, b.1.1, b.1.2.1, b.2.1.1, b.2.1.2.1, b.2.2.1, atl', b'.1.1, b'.1.2.1, b'.2.1.1, b'.2.1.2.1, b'.2.2.1)) (k2 := k2) (r := (d, ids (mem b'.2.1.2.1), 0, ())) (ids_nodup _) h.w.1 hm (ids_len _) atl' h.n ha fun ys hy => ?_
      unfold L22_BarrierEnds_J2
      simp only
      rw [w64 (by omega) (by omega)]; exact fin ys hy
theorem ends (a : Int) (ha : 0 ≤ a ∧ a ≤ 255) (l : List (List Int)) (hl : ∀ x ∈ l, wfD (.arr 2 (.int .u8)) x) : L22_BarrierEnds a l = some true := by
  have hlim : ∃ lim, IntKind.i64.wrap (1 + (IntKind.i64.wrap (Int.tmod a 8))) = lim ∧ 1 ≤ lim ∧ lim ≤ 8 := by
    rw [Int.tmod_eq_emod_of_nonneg ha.1, w64 (x := a % 8) (by omega) (by omega), w64 (by omega) (by omega)]
    exact ⟨_, rfl, by omega, by omega⟩
  obtain ⟨lim, hlim, l1, l2⟩ := hlim
  have hN : barrier_New (true, lim, ()) = some (((true, lim, ()), ((List.replicate 4 0), (List.replicate 4 0), ()), 0, ()), 0, ()) := by
    unfold barrier_New
    rw [Check_eq, if_pos (by simp only; omega)]; rfl
  unfold L22_BarrierEnds
  rw [chk_pos (by omega), hlim, hN, Option.bind_some]
  simp only [decide_true, Bool.not_true, cond_false, cond_true]
  by_cases hn : (l.length : Int) > 60
  · rw [bif_pos hn, alive22]; rfl
  · rw [bif_neg hn]
    refine (loop_up (fun x => x.2.2.2.1) l.length (fun x => ∃ j, 0 ≤ j ∧ InvE x l j) (fun x => some true) ⟨0, by omega, true, lim, List.replicate 4 0, List.replicate 4 0, 0, List.replicate 16 false, rfl, ⟨zero_wf, zero_wf⟩, bfine_mk (by unfold ph; exact decide_eq_true (by simp only; omega)) (fine_mk (sub_iff.2 fun i hi hx => by rw [zero_mem] at hx; cases hx) (sub_iff.2 fun i hi hx => by rw [zero_mem] at hx; cases hx)), by simp, fun i hi hx => by rw [zero_mem] at hx; cases hx⟩ (by simp; omega) ?_).trans rfl
    rintro k _ ⟨j, h0, c, lm, m, s, n, atl, rfl, hb⟩ hk
    simp only at hk ⊢
    obtain ⟨q, _, _⟩ := bfine_ph hb.f
    simp only at q
    unfold L22_BarrierEnds_L3
    simp only
    by_cases hj : j < (l.length : Int)
    · have hx := hl _ (getD_mem (d := List.replicate 2 0) h0 hj)
      have hx0 := u8_at hx 0
      rw [bif_pos hj, cutv_eq]
      unfold L22_BarrierEnds_C2
      simp only
      rw [chk_at h0 hj, chk_pos (by omega), chk_pos (by omega), letv_eq, chk_pos (by omega), chk_pos (by omega), cutv_eq]
      generalize hg : l.getD j.toNat (List.replicate 2 0) = y at hx0
      have hv : ∃ p, IntKind.i64.wrap (Int.tmod (y.getD (0 : Int).toNat 0) 16) = p ∧ 0 ≤ p ∧ p < 16 := by
        have : (0 : Int).toNat = 0 := rfl
        rw [this, Int.tmod_eq_emod_of_nonneg hx0.1, w64 (by omega) (by omega)]
        exact ⟨_, rfl, by omega, by omega⟩
      obtain ⟨p, hv, p0, p1⟩ := hv
      rw [hv]
      have nx : ∀ z, InvE z l j → L22_BarrierEnds_R2 k z = some true := by
        rintro _ ⟨c', lm', m', s', n', atl', rfl, hb'⟩
        unfold L22_BarrierEnds_R2
        simp only
        rw [w64 (by omega) (by omega)]
        exact hk hj _ ⟨j + 1, by omega, c', lm', m', s', n', atl', rfl, hb'⟩ rfl
      unfold L22_BarrierEnds_C1
      simp only [letv_eq]
      by_cases q0 : Int.tmod (y.getD (1 : Int).toNat 0) 5 = 0
      · obtain ⟨b', e, r1, r2, r3, r4⟩ := enrol_bi hb p0 p1
        simp only [hg]
        rw [bif_pos q0, r1, Option.bind_some]
        exact R1_ok (b := ((c, lm, ()), (m, s, ()), n, ())) (atl := atl) (by omega) r2 r3 r4 _ nx q.1 (by simp only; omega)
      · simp only [hg]
        rw [bif_neg q0]
        by_cases q1 : Int.tmod (y.getD (1 : Int).toNat 0) 5 = 1
        · obtain ⟨b', e, r1, r2, r3, r4⟩ := resign_bi hb p0 p1
          rw [bif_pos q1, r1, Option.bind_some, chk_pos ⟨p0, p1⟩]
          exact R1_ok (b := ((c, lm, ()), (m, s, ()), n, ())) (atl := atl) (by omega) r2 r3 r4 _ nx q.1 (by simp only; omega)
        · obtain ⟨b', e, r1, r2, r3, r4⟩ := offer_bi hb p0 p1 (decide (Int.tmod (y.getD (1 : Int).toNat 0) 2 = 0))
          rw [bif_neg q1, chk_pos (by omega), chk_pos (by omega), r1, Option.bind_some]
          by_cases e0 : e = 0
          · rw [bif_pos e0, chk_pos ⟨p0, p1⟩]
            rw [if_pos e0] at r3
            exact R1_ok (b := ((c, lm, ()), (m, s, ()), n, ())) (atl := atl) (by omega) r2 r3 r4 _ nx q.1 (by simp only; omega)
          · rw [bif_neg e0]
            rw [if_neg e0] at r3
            exact R1_ok (b := ((c, lm, ()), (m, s, ()), n, ())) (atl := atl) (by omega) r2 r3 r4 _ nx q.1 (by simp only; omega)
    · rw [bif_neg hj]
      unfold L22_BarrierEnds_J1
      rw [bif_pos rfl, bif_pos (by omega), bFine_eq hb.w, hb.f, alive22]; rfl
end BS
theorem law_L22_BarrierEnds : ∀ x : ((.pair (.int .u8) (.pair (.sl (.arr 2 (.int .u8))) .unit)) : Ty).den, wfD (.pair (.int .u8) (.pair (.sl (.arr 2 (.int .u8))) .unit)) x → L22_BarrierEnds x.1 x.2.1 = some true :=
  fun x hx => BS.ends x.1 (wfu8 hx.1) x.2.1 (wfl hx.2.1).2
end Go.Proofs.YtkpobmmabmelfaaDoorV
