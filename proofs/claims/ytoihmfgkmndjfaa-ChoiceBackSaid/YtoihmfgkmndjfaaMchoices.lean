/- What the functions on choices answer. -/
import Derived.Test.YtoihmfgkmndjfaaMKit
import Derived.Test.YtoihmfgkmndjfaaDchoice
import Derived.Test.YtoihmfgkmndjfaaDR33
import Derived.Test.YtoihmfgkmndjfaaDL33
namespace Go.Proofs.YtoihmfgkmndjfaaV
set_option linter.unusedVariables false
set_option linter.unusedSimpArgs false
open Go.RowKit
namespace choices
abbrev C : Type := Int × Int × Int × Unit
theorem wu8 (x : Int) : IntKind.u8.wrap x = x % 256 := by simp [IntKind.wrap, IntKind.signed, IntKind.bits]
theorem cond_d {R : Type} {p : Prop} [Decidable p] {x y : R} : cond (decide p) x y = if p then x else y := by
  by_cases h : p
  · rw [bif_pos h, if_pos h]
  · rw [bif_neg h, if_neg h]
theorem cond_nd {R : Type} {p : Prop} [Decidable p] {x y : R} : cond (!decide p) x y = if p then y else x := by
  by_cases h : p
  · rw [bnot_pos h, if_pos h]
  · rw [bnot_neg h, if_neg h]
/-- A byte of a text. -/
def bt (s : ByteArray) (i : Int) : Int := (((s.data.toList.getD i.toNat 0).toNat : Int))
theorem bt_le (s : ByteArray) (i : Int) : 0 ≤ bt s i ∧ bt s i ≤ 255 := by
  unfold bt
  have := (s.data.toList.getD i.toNat 0).toNat_lt
  omega
theorem shl_or {a b : Int} (h1 : 0 ≤ a ∧ a ≤ 255) (h2 : 0 ≤ b ∧ b ≤ 255) : bitsOp .or .i64 (IntKind.i64.wrap (a * 2 ^ min (8 : Int).toNat 64)) b = 256 * a + b := by
  have e : (2 : Int) ^ min (8 : Int).toNat 64 = 256 := by decide
  rw [e, w64 (by omega) (by omega)]
  obtain ⟨x, rfl⟩ := Int.eq_ofNat_of_zero_le h1.1
  obtain ⟨y, rfl⟩ := Int.eq_ofNat_of_zero_le h2.1
  have h3 : ((x : Int) * 256) = ((x * 256 : Nat) : Int) := by simp
  have h4 : (x * 256) ||| y = x * 256 + y := by
    have := Nat.shiftLeft_add_eq_or_of_lt (i := 8) (b := y) (by omega) x
    rw [Nat.shiftLeft_eq] at this
    exact this.symm
  rw [h3]
  show IntKind.i64.wrap (((BitVec.ofInt 64 ((x * 256 : Nat) : Int)) ||| (BitVec.ofInt 64 (y : Int))).toNat : Int) = _
  rw [BitVec.ofInt_natCast, BitVec.ofInt_natCast, BitVec.toNat_or, BitVec.toNat_ofNat, BitVec.toNat_ofNat]
  rw [Nat.mod_eq_of_lt (by omega), Nat.mod_eq_of_lt (by omega), h4, w64 (by omega) (by omega)]
  omega

/-- What is wrong with a choice. -/
def cE (c : C) : Int := if c.1 = 1 then (if c.2.1 < 0 ∨ c.2.1 > 65535 ∨ c.2.2.1 ≠ 0 then 8 else 0) else if c.1 = 0 then (if c.2.1 < 0 ∨ c.2.1 > 255 ∨ c.2.2.1 < 0 ∨ c.2.2.1 > 255 then 8 else 0) else 12
theorem check_eq (c : C) : choice_Check c = some (cE c) := by
  obtain ⟨a, b, d, _⟩ := c
  unfold choice_Check cE
  simp only [cond_d, cond_nd]
  (repeat' split) <;> first | rfl | (exfalso; omega)
theorem Rcheck_eq (c : C) : R33_Check c = some (cE c) := by
  obtain ⟨a, b, d, _⟩ := c
  unfold R33_Check cE
  simp only [cond_d, cond_nd]
  (repeat' split) <;> first | rfl | (exfalso; omega)

def allE : List C → Int → Int × Int × Unit
  | [], _ => (0, 0, ())
  | c :: l, i => if cE c = 0 then allE l (i + 1) else (i, cE c, ())
theorem allE_ok : ∀ (l : List C) (i : Int), (allE l i).2.1 = 0 ↔ ∀ c ∈ l, cE c = 0
  | [], i => by simp [allE]
  | c :: l, i => by
    unfold allE
    by_cases h : cE c = 0
    · rw [if_pos h, allE_ok l]; simp [h]
    · rw [if_neg h]; simp [h]
theorem allE_zero : ∀ (l : List C) (i : Int), (∀ c ∈ l, cE c = 0) → allE l i = (0, 0, ())
  | [], i, _ => rfl
  | c :: l, i, h => by
    unfold allE
    rw [if_pos (h c (by simp)), allE_zero l _ (fun x hx => h x (by simp [hx]))]
def allR (a : List C) : Int × Int × Unit := if (a.length : Int) > 2000 then (2000, 5, ()) else allE a 0
theorem all_eq (a : List C) : choice_All a = some (allR a) := by
  unfold choice_All allR
  rw [cond_d]
  split
  · rfl
  · rename_i hn
    refine (loop_up (fun j : Int => j) a.length (fun j => 0 ≤ j) (fun j => some (allE (a.drop j.toNat) j)) (by simp) (by simp; omega) ?_).trans (by simp)
    intro k j (h0 : 0 ≤ j) hk
    unfold choice_All_L1
    by_cases hj : j < (a.length : Int)
    · rw [bif_pos hj, chk_at h0 hj, check_eq, drop_at (d := (0, 0, 0, ())) h0 hj]
      unfold allE
      simp only [Option.bind_some]
      by_cases e : cE (a.getD j.toNat (0, 0, 0, ())) = 0
      · rw [bnot_pos e, if_pos e, w64 (by omega) (by omega)]
        exact hk hj (j + 1) (by show 0 ≤ j + 1; omega) rfl
      · rw [bnot_neg e, if_neg e]
    · rw [bif_neg hj, drop_end hj]; rfl
theorem Rall_eq (a : List C) : R33_All a = some (allR a) := by
  unfold R33_All allR
  rw [cond_d]
  split
  · rfl
  · rename_i hn
    refine (loop_up (fun j : Int => j) a.length (fun j => 0 ≤ j) (fun j => some (allE (a.drop j.toNat) j)) (by simp) (by simp; omega) ?_).trans (by simp)
    intro k j (h0 : 0 ≤ j) hk
    unfold R33_All_L1
    by_cases hj : j < (a.length : Int)
    · rw [bif_pos hj, chk_at h0 hj, Rcheck_eq, drop_at (d := (0, 0, 0, ())) h0 hj]
      unfold allE
      simp only [Option.bind_some]
      by_cases e : cE (a.getD j.toNat (0, 0, 0, ())) = 0
      · rw [bnot_pos e, if_pos e, w64 (by omega) (by omega)]
        exact hk hj (j + 1) (by show 0 ≤ j + 1; omega) rfl
      · rw [bnot_neg e, if_neg e]
    · rw [bif_neg hj, drop_end hj]; rfl
def Ok (a : List C) : Prop := a.length ≤ 2000 ∧ ∀ c ∈ a, cE c = 0
theorem allR_ok {a : List C} : (allR a).2.1 = 0 ↔ Ok a := by
  unfold allR Ok
  split
  · rename_i h; simp; omega
  · rename_i h; rw [allE_ok]; exact ⟨fun h2 => ⟨by omega, h2⟩, fun h2 => h2.2⟩

/-! ### Their bytes -/
def enc (c : C) : List Int := if c.1 = 1 then [1, c.2.1 / 256, c.2.1 % 256] else [0, c.2.1, c.2.2.1]
def encs (a : List C) : List Int := a.flatMap enc
def head (n : Int) : List Int := [n / 256, n % 256]
def bytes (a : List C) : List Int := head a.length ++ encs a
theorem enc_len (c : C) : (enc c).length = 3 := by unfold enc; split <;> rfl
theorem encs_len : ∀ a : List C, (encs a).length = 3 * a.length
  | [] => rfl
  | c :: l => by
    show (enc c ++ encs l).length = _
    rw [List.length_append, enc_len, encs_len l, List.length_cons]; omega
theorem encs_cons (c : C) (l : List C) : encs (c :: l) = enc c ++ encs l := rfl
theorem bytes_len (a : List C) : (bytes a).length = 2 + 3 * a.length := by
  unfold bytes; rw [List.length_append, encs_len]; rfl
/-- Of one that may be. -/
theorem one_tick {c : C} (h : cE c = 0) (h1 : c.1 = 1) : 0 ≤ c.2.1 ∧ c.2.1 ≤ 65535 ∧ c.2.2.1 = 0 := by
  unfold cE at h
  rw [if_pos h1] at h
  split at h
  · cases h
  · omega
theorem one_pick {c : C} (h : cE c = 0) (h1 : ¬ c.1 = 1) : c.1 = 0 ∧ 0 ≤ c.2.1 ∧ c.2.1 ≤ 255 ∧ 0 ≤ c.2.2.1 ∧ c.2.2.1 ≤ 255 := by
  unfold cE at h
  rw [if_neg h1] at h
  split at h
  · rename_i h2
    split at h
    · cases h
    · omega
  · cases h
theorem fdiv256 (x : Int) : Int.fdiv x (2 ^ min (8 : Int).toNat 64) = x / 256 := by
  rw [show (2 : Int) ^ min (8 : Int).toNat 64 = 256 by decide]
  exact Int.fdiv_eq_ediv_of_nonneg _ (by omega)
theorem head_eq {n : Nat} (h : n ≤ 2000) : [IntKind.u8.wrap (Int.fdiv (n : Int) (2 ^ min (8 : Int).toNat 64)), IntKind.u8.wrap (n : Int)] = head n := by
  unfold head
  rw [fdiv256, wu8, wu8]
  congr 1; omega
theorem bytes_eq (a : List C) : choice_Bytes a = some (if (allR a).2.1 = 0 then strOfNums (bytes a) else ⟨#[]⟩) := by
  unfold choice_Bytes
  rw [all_eq, Option.bind_some, cond_nd]
  split
  · rename_i h
    obtain ⟨hn, hv⟩ := allR_ok.1 h
    rw [chk_pos (by decide), letv_eq, cutv_eq, head_eq hn]
    unfold choice_Bytes_C1 choice_Bytes_R1
    rw [chk_pos (by show (2 : Nat) ≤ _; omega)]
    have key := loop_up (F := choice_Bytes_L1) (fun x : List C × Int × Int × List Int => x.2.2.1) (a.length : Int)
      (fun x => x.1 = a ∧ x.2.1 = (a.length : Int) ∧ 0 ≤ x.2.2.1 ∧ x.2.2.1 ≤ a.length ∧ (x.2.2.2.length : Int) = 2 + 3 * x.2.2.1)
      (fun x => some (strOfNums (x.2.2.2 ++ encs (a.drop x.2.2.1.toNat)))) (x := (a, (a.length : Int), 0, head a.length))
      ⟨rfl, rfl, Int.le_refl 0, by simp, by simp [head]⟩ (by simp; omega) ?_
    · exact key
    · intro k x hx hk
      obtain ⟨x1, x2, i, buf⟩ := x
      obtain ⟨e1, e2, h0, hi, hb⟩ := hx
      simp only at e1 e2 h0 hi hb hk
      subst e1; subst e2
      unfold choice_Bytes_L1
      simp only
      by_cases hj : i < (x1.length : Int)
      · rw [bif_pos hj, chk_at h0 hj]
        have hc := hv _ (getD_mem (d := (0, 0, 0, ())) h0 hj)
        rw [drop_at (d := (0, 0, 0, ())) h0 hj, encs_cons]
        obtain ⟨c, hc2⟩ : ∃ c, c = x1.getD i.toNat (0, 0, 0, ()) := ⟨_, rfl⟩
        rw [← hc2] at hc ⊢
        have go : ∀ l : List Int, l = enc c → k (x1, (x1.length : Int), IntKind.i64.wrap (i + 1), buf ++ l) = some (strOfNums (buf ++ (enc c ++ encs (x1.drop (i + 1).toNat)))) := by
          intro l hl
          have hl3 := enc_len c
          rw [w64 (by omega) (by omega), hk hj _ ⟨rfl, rfl, by show 0 ≤ i + 1; omega, by show i + 1 ≤ _; omega, by show ((buf ++ l).length : Int) = 2 + 3 * (i + 1); rw [List.length_append, hl]; omega⟩ rfl]
          simp only [hl, List.append_assoc]
        rw [cond_d]
        split
        · rename_i h1
          obtain ⟨q1, q2, q3⟩ := one_tick hc h1
          rw [chk_pos (by decide), letv_eq, cutv_eq]
          unfold choice_Bytes_C3 choice_Bytes_R3
          rw [chk_pos (by simp; omega)]
          simp only
          refine go _ ?_
          unfold enc
          rw [if_pos h1, fdiv256, wu8, wu8]
          congr 2; omega
        · rename_i h1
          obtain ⟨q1, q2, q3, q4, q5⟩ := one_pick hc h1
          rw [letv_eq, cutv_eq]
          unfold choice_Bytes_C4 choice_Bytes_R4
          rw [chk_pos (by simp; omega)]
          simp only
          refine go _ ?_
          unfold enc
          rw [if_neg h1, wu8, wu8, Int.emod_eq_of_lt (by omega) (by omega), Int.emod_eq_of_lt (by omega) (by omega)]
      · rw [bif_neg hj, drop_end hj]
        unfold choice_Bytes_J1
        rw [cutv_eq]
        unfold choice_Bytes_C2 choice_Bytes_R2
        rw [chk_pos (by omega), chk_pos ⟨by omega, rfl⟩]
        show _ = some (strOfNums (buf ++ []))
        rw [List.append_nil]
  · rfl
theorem Rhead_eq {n : Nat} (h : n ≤ 2000) : [IntKind.u8.wrap (IntKind.i64.wrap (Int.tdiv (n : Int) 256)), IntKind.u8.wrap (Int.tmod (n : Int) 256)] = head n := by
  unfold head
  rw [Int.tdiv_eq_ediv_of_nonneg (by omega), Int.tmod_eq_emod_of_nonneg (by omega), w64 (by omega) (by omega), wu8, wu8]
  congr 1
  · omega
  · congr 1; omega
theorem Rbytes_eq (a : List C) : R33_Bytes a = some (if (allR a).2.1 = 0 then strOfNums (bytes a) else ⟨#[]⟩) := by
  unfold R33_Bytes
  rw [Rall_eq, Option.bind_some, cond_nd]
  split
  · rename_i h
    obtain ⟨hn, hv⟩ := allR_ok.1 h
    rw [chk_pos (by decide), chk_pos (by decide), letv_eq, Rhead_eq hn]
    have key := loop_up (F := R33_Bytes_L1 a) (fun x : Int × List Int => x.1) (a.length : Int)
      (fun x => 0 ≤ x.1 ∧ x.1 ≤ a.length ∧ (x.2.length : Int) = 2 + 3 * x.1)
      (fun x => some (strOfNums (x.2 ++ encs (a.drop x.1.toNat)))) (x := (0, head a.length))
      ⟨Int.le_refl 0, by simp, by simp [head]⟩ (by simp; omega) ?_
    · exact key
    · intro k x hx hk
      obtain ⟨i, buf⟩ := x
      obtain ⟨h0, hi, hb⟩ := hx
      simp only at h0 hi hb hk
      unfold R33_Bytes_L1
      simp only
      by_cases hj : i < (a.length : Int)
      · rw [bif_pos hj, chk_at h0 hj]
        have hc := hv _ (getD_mem (d := (0, 0, 0, ())) h0 hj)
        rw [drop_at (d := (0, 0, 0, ())) h0 hj, encs_cons]
        obtain ⟨c, hc2⟩ : ∃ c, c = a.getD i.toNat (0, 0, 0, ()) := ⟨_, rfl⟩
        rw [← hc2] at hc ⊢
        have go : ∀ l : List Int, l = enc c → k (IntKind.i64.wrap (i + 1), buf ++ l) = some (strOfNums (buf ++ (enc c ++ encs (a.drop (i + 1).toNat)))) := by
          intro l hl
          have hl3 := enc_len c
          rw [w64 (by omega) (by omega), hk hj _ ⟨by show 0 ≤ i + 1; omega, by show i + 1 ≤ _; omega, by show ((buf ++ l).length : Int) = 2 + 3 * (i + 1); rw [List.length_append, hl]; omega⟩ rfl]
          simp only [hl, List.append_assoc]
        rw [cond_d]
        split
        · rename_i h1
          obtain ⟨q1, q2, q3, q4, q5⟩ := one_pick hc (by omega)
          rw [letv_eq, chk_pos (by simp; omega)]
          refine go _ ?_
          unfold enc
          rw [if_neg (by omega), wu8, wu8, Int.emod_eq_of_lt (by omega) (by omega), Int.emod_eq_of_lt (by omega) (by omega)]
        · rename_i h1
          have h2 : c.1 = 1 := by
            by_cases h2 : c.1 = 1
            · exact h2
            · exact absurd (one_pick hc h2).1 h1
          obtain ⟨q1, q2, q3⟩ := one_tick hc h2
          rw [chk_pos (by decide), chk_pos (by decide), letv_eq, chk_pos (by simp; omega)]
          refine go _ ?_
          unfold enc
          rw [if_pos h2, Int.tdiv_eq_ediv_of_nonneg q1, Int.tmod_eq_emod_of_nonneg q1, w64 (by omega) (by omega), wu8, wu8]
          congr 2
          · omega
          · congr 1; omega
      · rw [bif_neg hj, drop_end hj]
        show some (strOfNums buf) = some (strOfNums (buf ++ []))
        rw [List.append_nil]
  · rfl

/-! ### To and back -/
theorem to_eq (a : List C) (hl : a.length ≤ 4294967296 ∨ a.length * 24 ≤ 140737488355328) : L33_To a = some a := by
  refine (loop_up (F := L33_To_L1 (a.length : Int) a) (fun x : Int × List C => x.1) (a.length : Int) (fun x => 0 ≤ x.1 ∧ x.1 ≤ a.length ∧ (x.2.length : Int) = x.1) (fun x => some (x.2 ++ a.drop x.1.toNat)) (x := (0, [])) ⟨Int.le_refl 0, by simp, rfl⟩ (by simp; omega) ?_).trans (by simp)
  intro k x hx hk
  obtain ⟨i, l⟩ := x
  obtain ⟨h0, hi, hb⟩ := hx
  simp only at h0 hi hb hk
  unfold L33_To_L1
  simp only
  by_cases hj : i < (a.length : Int)
  · rw [bif_pos hj, chk_at h0 hj, chk_pos (by simp only [List.length_singleton]; omega), letv_eq, w64 (by omega) (by omega), hk hj _ ⟨by show 0 ≤ i + 1; omega, by show i + 1 ≤ _; omega, by simp; omega⟩ rfl, drop_at (d := (0, 0, 0, ())) h0 hj]
    simp
  · rw [bif_neg hj, drop_end hj]
    show some l = some (l ++ [])
    rw [List.append_nil]
theorem back_eq (a : List C) (hl : a.length ≤ 4294967296) : L33_Back a = some a := by
  refine (loop_up (F := L33_Back_L1 (a.length : Int) a) (fun x : Int × List C => x.1) (a.length : Int) (fun x => 0 ≤ x.1 ∧ x.1 ≤ a.length ∧ (x.2.length : Int) = x.1) (fun x => some (x.2 ++ a.drop x.1.toNat)) (x := (0, [])) ⟨Int.le_refl 0, by simp, rfl⟩ (by simp; omega) ?_).trans (by simp)
  intro k x hx hk
  obtain ⟨i, l⟩ := x
  obtain ⟨h0, hi, hb⟩ := hx
  simp only at h0 hi hb hk
  unfold L33_Back_L1
  simp only
  by_cases hj : i < (a.length : Int)
  · rw [bif_pos hj, chk_at h0 hj, chk_pos (by simp; omega), letv_eq, w64 (by omega) (by omega), hk hj _ ⟨by show 0 ≤ i + 1; omega, by show i + 1 ≤ _; omega, by simp; omega⟩ rfl, drop_at (d := (0, 0, 0, ())) h0 hj]
    simp
  · rw [bif_neg hj, drop_end hj]
    show some l = some (l ++ [])
    rw [List.append_nil]
theorem same_eq (a : List C) (hl : a.length ≤ 4294967296) : R33_Same a a = some true := by
  unfold R33_Same
  rw [bnot_pos rfl]
  refine (loop_up (F := R33_Same_L1 a a) (fun x : Int => x) (a.length : Int) (fun x => 0 ≤ x) (fun x => some true) (x := 0) (Int.le_refl 0) (by simp; omega) ?_)
  intro k i (h0 : 0 ≤ i) hk
  unfold R33_Same_L1
  by_cases hj : i < (a.length : Int)
  · rw [bif_pos hj, chk_at h0 hj, chk_at h0 hj]
    simp only [decide_true, Bool.and_self, Bool.not_true, cond_false]
    rw [w64 (by omega) (by omega)]
    exact hk hj _ (by show 0 ≤ i + 1; omega) rfl
  · rw [bif_neg hj]; rfl

/-! ### Choices out of bytes -/
def rdC (b : Int → Int) (p : Int) : C := if b p = 1 then (1, 256 * b (p + 1) + b (p + 2), 0, ()) else (b p, b (p + 1), b (p + 2), ())
theorem rdC_congr {b b' : Int → Int} {p q : Int} (h0 : b p = b' q) (h1 : b (p + 1) = b' (q + 1)) (h2 : b (p + 2) = b' (q + 2)) : rdC b p = rdC b' q := by
  unfold rdC; rw [h0, h1, h2]
def parse (b : Int → Int) (sz : Int) : Nat → Int → List C → List C × Int × Int × Unit
  | 0, p, acc => (acc, p, 0, ())
  | n + 1, p, acc => if sz - p < 3 then ([], 0, 4, ()) else if cE (rdC b p) = 0 then parse b sz n (p + 3) (acc ++ [rdC b p]) else ([], 0, cE (rdC b p), ())
def readE (b : Int → Int) (sz p : Int) : List C × Int × Int × Unit :=
  if p < 0 ∨ p > sz then ([], 0, 8, ()) else if sz - p < 2 then ([], 0, 4, ()) else if 256 * b p + b (p + 1) > 2000 then ([], 0, 5, ()) else parse b sz (256 * b p + b (p + 1)).toNat (p + 2) []
theorem size_extract (s : ByteArray) {a b : Int} (h0 : 0 ≤ a) (h1 : a ≤ b) (h2 : b ≤ (s.size : Int)) : ((s.extract a.toNat b.toNat).size : Int) = b - a := by
  rw [ByteArray.size_extract]; omega
theorem bt_extract (s : ByteArray) {a b i : Int} (h0 : 0 ≤ a) (h2 : b ≤ (s.size : Int)) (hi : 0 ≤ i) (hb : a + i < b) : bt (s.extract a.toNat b.toNat) i = bt s (a + i) := by
  unfold bt
  congr 2
  rw [List.getD_eq_getElem?_getD, List.getD_eq_getElem?_getD]
  congr 1
  have hsz : s.data.size = s.size := rfl
  rw [ByteArray.data_extract, Array.getElem?_toList, Array.getElem?_toList, Array.getElem?_extract]
  rw [if_pos (by omega)]
  congr 1; omega
theorem bi (s : ByteArray) (i : Int) : IntKind.i64.wrap (((s.data.toList.getD i.toNat 0).toNat : Int)) = bt s i := by
  have := bt_le s i
  show IntKind.i64.wrap (bt s i) = _
  rw [w64 (by omega) (by omega)]
theorem one_eq (s : ByteArray) (h : (s.size : Int) = 3) : choice_one s = some (rdC (bt s) 0) := by
  have b0 := bt_le s 0
  have b1 := bt_le s 1
  have b2 := bt_le s 2
  unfold choice_one rdC
  rw [chk_pos (by omega), chk_pos (by omega), chk_pos (by omega)]
  simp only [bi]
  rw [cond_d]
  split
  · rename_i h1
    rw [chk_pos (by decide), shl_or b1 b2, h1]; rfl
  · rfl
theorem read_eq (s : ByteArray) (p : Int) (hs : s.size ≤ 140737488355328) : choice_Read s p = some (readE (bt s) s.size p) := by
  unfold choice_Read readE
  rw [cond_d]
  split
  · rename_i h; rw [if_pos (by omega)]
  · rename_i h1
    rw [cond_d]
    split
    · rename_i h; rw [if_pos (by omega)]
    · rename_i h2
      rw [if_neg (by omega), letv_eq, w64 (by omega) (by omega), cond_d]
      split
      · rfl
      · rename_i h3
        have b0 := bt_le s p
        have b1 := bt_le s (p + 1)
        rw [chk_pos (by omega), chk_pos (by decide), w64 (x := p + 1) (by omega) (by omega), chk_pos (by omega), letv_eq, bi, bi, shl_or b0 b1, cond_d]
        split
        · rfl
        · rename_i h4
          rw [w64 (x := p + 2) (by omega) (by omega), chk_pos (by omega), cutv_eq]
          unfold choice_Read_C1 choice_Read_R1
          obtain ⟨many, hm⟩ : ∃ many, many = 256 * bt s p + bt s (p + 1) := ⟨_, rfl⟩
          rw [← hm] at h4 ⊢
          rw [w64 (x := p + 2) (by omega) (by omega)]
          have he := size_extract s (a := p + 2) (b := (s.size : Int)) (by omega) (by omega) (by omega)
          obtain ⟨t, ht⟩ : ∃ t, t = s.extract (p + 2).toNat (s.size : Int).toNat := ⟨_, rfl⟩
          rw [← ht] at he ⊢
          have key := loop_up (F := choice_Read_L1 (p, many, t, many)) (fun x : Int × List C => x.1) many
            (fun x => 0 ≤ x.1 ∧ x.1 ≤ many ∧ (x.2.length : Int) = x.1)
            (fun x => some (parse (bt s) s.size (many - x.1).toNat (p + 2 + 3 * x.1) x.2)) (x := (0, []))
            ⟨Int.le_refl 0, by show 0 ≤ many; omega, rfl⟩ (by show many - 0 < _; omega) ?_
          · rw [key]; simp
          · intro k x hx hk
            obtain ⟨i, l⟩ := x
            obtain ⟨g0, g1, g2⟩ := hx
            simp only at g0 g1 g2 hk
            unfold choice_Read_L1
            simp only
            by_cases hj : i < many
            · rw [bif_pos hj, show (many - i).toNat = (many - (i + 1)).toNat + 1 by omega]
              unfold parse
              rw [w64 (x := i + 1) (by omega) (by omega), w64 (x := (i + 1) * 3) (by omega) (by omega), w64 (x := i * 3) (by omega) (by omega), cond_d]
              split
              · rename_i h5
                rw [if_pos (by omega)]
                unfold choice_Read_J1
                simp only
                rw [bif_pos (by omega)]
              · rename_i h5
                rw [if_neg (by omega), chk_pos (by omega), letv_eq]
                have hsz := size_extract t (a := i * 3) (b := (i + 1) * 3) (by omega) (by omega) (by omega)
                rw [one_eq _ (by omega), Option.bind_some, check_eq, Option.bind_some]
                have hc : rdC (bt (t.extract (i * 3).toNat ((i + 1) * 3).toNat)) 0 = rdC (bt s) (p + 2 + 3 * i) := by
                  have ex : ∀ j : Int, 0 ≤ j → j < 3 → bt (t.extract (i * 3).toNat ((i + 1) * 3).toNat) j = bt s (p + 2 + 3 * i + j) := by
                    intro j j0 j1
                    rw [bt_extract t (by omega) (by omega) j0 (by omega), ht, bt_extract s (by omega) (by omega) (by omega) (by omega)]
                    congr 1; omega
                  refine rdC_congr ?_ ?_ ?_
                  · have := ex 0 (by omega) (by omega); rw [this]; congr 1; omega
                  · have := ex 1 (by omega) (by omega); exact this
                  · have := ex 2 (by omega) (by omega); exact this
                rw [hc, cond_nd]
                split
                · rename_i h6
                  rw [chk_pos (by simp; omega), hk hj _ ⟨by show 0 ≤ i + 1; omega, by show i + 1 ≤ many; omega, by simp; omega⟩ rfl]
                  rw [show p + 2 + 3 * (i + 1) = p + 2 + 3 * i + 3 by omega]
                · rename_i h6
                  first | rfl | rw [if_neg h6]
            · rw [bif_neg hj, show (many - i).toNat = 0 by omega]
              unfold choice_Read_J2 choice_Read_J1 parse
              simp only
              rw [bif_neg (by omega), w64 (x := p + 2) (by omega) (by omega), w64 (x := many * 3) (by omega) (by omega), w64 (by omega) (by omega)]
              rw [show p + 2 + many * 3 = p + 2 + 3 * i by omega]
theorem Rread_eq (s : ByteArray) (p : Int) (hs : s.size ≤ 140737488355328) : R33_Read s p = some (readE (bt s) s.size p) := by
  unfold R33_Read readE
  rw [cond_d]
  split
  · rename_i h; rw [if_pos (by omega)]
  · rename_i h1
    rw [cond_d]
    split
    · rename_i h; rw [if_pos (by omega)]
    · rename_i h2
      rw [if_neg (by omega), w64 (by omega) (by omega), cond_d]
      split
      · rfl
      · rename_i h3
        have b0 := bt_le s p
        have b1 := bt_le s (p + 1)
        rw [chk_pos (by omega), w64 (x := p + 1) (by omega) (by omega), chk_pos (by omega), letv_eq, bi, bi, w64 (x := 256 * bt s p) (by omega) (by omega), w64 (x := 256 * bt s p + bt s (p + 1)) (by omega) (by omega), cond_d]
        split
        · rfl
        · rename_i h4
          obtain ⟨many, hm⟩ : ∃ many, many = 256 * bt s p + bt s (p + 1) := ⟨_, rfl⟩
          rw [← hm] at h4 ⊢
          rw [w64 (x := p + 2) (by omega) (by omega)]
          have key := loop_up (F := R33_Read_L1 many s) (fun x : Int × Int × List C => x.2.1) many
            (fun x => x.1 = p + 2 + 3 * x.2.1 ∧ 0 ≤ x.2.1 ∧ x.2.1 ≤ many ∧ (x.2.2.length : Int) = x.2.1 ∧ x.1 ≤ s.size)
            (fun x => some (parse (bt s) s.size (many - x.2.1).toNat x.1 x.2.2)) (x := (p + 2, 0, []))
            ⟨by simp, Int.le_refl 0, by show 0 ≤ many; omega, rfl, by show p + 2 ≤ _; omega⟩ (by show many - 0 < _; omega) ?_
          · rw [key]; simp
          · intro k x hx hk
            obtain ⟨q, i, l⟩ := x
            obtain ⟨g3, g0, g1, g2, g4⟩ := hx
            simp only at g0 g1 g2 g3 g4 hk
            unfold R33_Read_L1
            simp only
            by_cases hj : i < many
            · rw [bif_pos hj, show (many - i).toNat = (many - (i + 1)).toNat + 1 by omega]
              unfold parse
              rw [w64 (x := (s.size : Int) - q) (by omega) (by omega), cond_d]
              split
              · rename_i h5; rfl
              · rename_i h5
                have c1 := bt_le s (q + 1)
                have c2 := bt_le s (q + 2)
                rw [chk_pos (by omega), w64 (x := q + 1) (by omega) (by omega), chk_pos (by omega), w64 (x := q + 2) (by omega) (by omega), chk_pos (by omega)]
                simp only [bi, w64 (x := 256 * bt s (q + 1)) (by omega) (by omega), w64 (x := 256 * bt s (q + 1) + bt s (q + 2)) (by omega) (by omega), w64 (x := q + 3) (by omega) (by omega), w64 (x := i + 1) (by omega) (by omega)]
                have go : ∀ c : C, c = rdC (bt s) q → (Option.bind (R33_Check c) fun r => bif !decide (r = 0) then some (([] : List C), (0 : Int), r, ()) else letv [c] fun l1 => chk (l.length + l1.length ≤ 4294967296) <| k (q + 3, i + 1, l ++ l1)) =
                    some (if cE (rdC (bt s) q) = 0 then parse (bt s) s.size (many - (i + 1)).toNat (q + 3) (l ++ [rdC (bt s) q]) else ([], 0, cE (rdC (bt s) q), ())) := by
                  intro c hc
                  subst hc
                  rw [Rcheck_eq, Option.bind_some, cond_nd]
                  split
                  · rw [letv_eq, chk_pos (by simp; omega), hk hj _ ⟨by show q + 3 = p + 2 + 3 * (i + 1); omega, by show 0 ≤ i + 1; omega, by show i + 1 ≤ many; omega, by simp; omega, by show q + 3 ≤ _; omega⟩ rfl]
                  · rfl
                rw [cond_d]
                split
                · rename_i h6; exact go _ (by unfold rdC; rw [if_pos h6])
                · rename_i h6; exact go _ (by unfold rdC; rw [if_neg h6])
            · rw [bif_neg hj, show (many - i).toNat = 0 by omega]
              rfl

/-! ### There and back -/
theorem rd_enc {b : Int → Int} {p : Int} {c : C} (h : cE c = 0) (hb : ∀ j : Nat, j < 3 → b (p + j) = (enc c).getD j 0) : rdC b p = c := by
  have h0 := hb 0 (by omega)
  have h1 := hb 1 (by omega)
  have h2 := hb 2 (by omega)
  rw [show p + ((0 : Nat) : Int) = p by omega] at h0
  rw [show p + ((1 : Nat) : Int) = p + 1 by omega] at h1
  rw [show p + ((2 : Nat) : Int) = p + 2 by omega] at h2
  obtain ⟨k, v, w, _⟩ := c
  unfold enc at h0 h1 h2
  unfold rdC
  by_cases e : k = 1
  · subst e
    obtain ⟨q1, q2, q3⟩ := one_tick h rfl
    simp only [if_true, List.getD_cons_zero, List.getD_cons_succ] at h0 h1 h2 q1 q2 q3
    rw [h0, if_pos rfl, h1, h2, q3]
    congr 2; omega
  · obtain ⟨q0, q1, q2, q3, q4⟩ := one_pick h e
    simp only [if_neg e, List.getD_cons_zero, List.getD_cons_succ] at h0 h1 h2 q0 q1 q2 q3 q4
    rw [h0, if_neg (by omega), h1, h2, q0]
theorem parse_encs {b : Int → Int} {sz : Int} : ∀ (a : List C) (p : Int) (acc : List C), (∀ c ∈ a, cE c = 0) → (∀ j : Nat, j < 3 * a.length → b (p + j) = (encs a).getD j 0) → p + 3 * a.length ≤ sz →
    parse b sz a.length p acc = (acc ++ a, p + 3 * a.length, 0, ())
  | [], p, acc, _, _, _ => by unfold parse; simp
  | c :: a, p, acc, hv, hb, hs => by
    rw [List.length_cons] at hb hs ⊢
    have hc : rdC b p = c := rd_enc (hv c (by simp)) (fun j hj => by
      rw [hb j (by omega), encs_cons, List.getD_eq_getElem?_getD, List.getElem?_append_left (by rw [enc_len]; exact hj), ← List.getD_eq_getElem?_getD])
    unfold parse
    rw [if_neg (by omega), hc, if_pos (hv c (by simp)), parse_encs a (p + 3) (acc ++ [c]) (fun x hx => hv x (by simp [hx])) (fun j hj => by
      have := hb (j + 3) (by omega)
      rw [show p + 3 + (j : Int) = p + ((j + 3 : Nat) : Int) by omega, this, encs_cons, List.getD_eq_getElem?_getD, List.getElem?_append_right (by rw [enc_len]; omega), enc_len, ← List.getD_eq_getElem?_getD]
      congr 1) (by omega)]
    rw [List.append_assoc]
    congr 2; omega
theorem enc_rd {b : Int → Int} {p : Int} (hb : ∀ i, 0 ≤ b i ∧ b i ≤ 255) (h : cE (rdC b p) = 0) : enc (rdC b p) = [b p, b (p + 1), b (p + 2)] := by
  have h1 := hb (p + 1)
  have h2 := hb (p + 2)
  unfold rdC at h ⊢
  by_cases e : b p = 1
  · rw [if_pos e]
    unfold enc
    simp only [if_true]
    rw [e]
    congr 1
    congr 1
    · omega
    · congr 1; omega
  · rw [if_neg e] at h ⊢
    have := (one_pick h e).1
    simp only at this
    unfold enc
    simp only [if_neg e]
    rw [this]
theorem parse_back {b : Int → Int} {sz : Int} (hb : ∀ i, 0 ≤ b i ∧ b i ≤ 255) : ∀ (n : Nat) (p : Int) (acc : List C), (parse b sz n p acc).2.2.1 = 0 → p ≤ sz → ∃ m, parse b sz n p acc = (acc ++ m, p + 3 * n, 0, ()) ∧ m.length = n ∧ p + 3 * n ≤ sz ∧ (∀ c ∈ m, cE c = 0) ∧ ∀ j : Nat, j < 3 * n → (encs m).getD j 0 = b (p + j)
  | 0, p, acc, _, hp => ⟨[], by unfold parse; simp, rfl, by simpa using hp, (fun _ h => by cases h), (fun j hj => by omega)⟩
  | n + 1, p, acc, h, hp => by
    unfold parse at h ⊢
    by_cases h1 : sz - p < 3
    · rw [if_pos h1] at h; cases h
    · rw [if_neg h1] at h ⊢
      by_cases h2 : cE (rdC b p) = 0
      · rw [if_pos h2] at h ⊢
        obtain ⟨m, e1, e2, e3, e4, e5⟩ := parse_back hb n (p + 3) (acc ++ [rdC b p]) h (by omega)
        refine ⟨rdC b p :: m, ?_, by simp [e2], by omega, ?_, ?_⟩
        · rw [e1]; simp; omega
        · intro c hc
          rcases List.mem_cons.1 hc with rfl | hc
          · exact h2
          · exact e4 c hc
        · intro j hj
          rw [encs_cons, enc_rd hb h2]
          match j, hj with
          | 0, _ => simp
          | 1, _ => simp
          | 2, _ => simp
          | j + 3, hj =>
            have := e5 j (by omega)
            simp only [List.cons_append, List.nil_append, List.getD_cons_succ]
            rw [this]
            congr 1; omega
      · rw [if_neg h2] at h; exact absurd h h2
/-- The numbers of a text. -/
theorem bt_nums {xs : List Int} (h : ∀ x ∈ xs, 0 ≤ x ∧ x ≤ 255) (i : Nat) : bt (strOfNums xs) i = xs.getD i 0 := by
  unfold bt
  rw [strOfNums_data]
  show (((xs.map fun n => UInt8.ofNat n.toNat).getD (i : Int).toNat 0).toNat : Int) = _
  rw [Int.toNat_natCast, List.getD_eq_getElem?_getD, List.getD_eq_getElem?_getD, List.getElem?_map]
  by_cases hi : i < xs.length
  · rw [List.getElem?_eq_getElem hi]
    obtain ⟨h1, h2⟩ := h _ (List.getElem_mem hi)
    simp only [Option.map_some, Option.getD_some]
    rw [UInt8.toNat_ofNat', Nat.mod_eq_of_lt (by omega), Int.toNat_of_nonneg h1]
  · rw [List.getElem?_eq_none (by omega)]; rfl
theorem enc_u8 {c : C} (h : cE c = 0) : ∀ x ∈ enc c, 0 ≤ x ∧ x ≤ 255 := by
  intro x hx
  unfold enc at hx
  by_cases e : c.1 = 1
  · obtain ⟨q1, q2, q3⟩ := one_tick h e
    rw [if_pos e] at hx
    simp at hx
    omega
  · obtain ⟨q0, q1, q2, q3, q4⟩ := one_pick h e
    rw [if_neg e] at hx
    simp at hx
    omega
theorem bytes_u8 {a : List C} (h : Ok a) : ∀ x ∈ bytes a, 0 ≤ x ∧ x ≤ 255 := by
  intro x hx
  unfold bytes at hx
  rcases List.mem_append.1 hx with hx | hx
  · have := h.1
    unfold head at hx
    simp at hx; omega
  · obtain ⟨c, hc, hx⟩ := List.mem_flatMap.1 hx
    exact enc_u8 (h.2 c hc) x hx
theorem bt_app (s t : ByteArray) (i : Nat) : bt (s ++ t) ((s.size : Int) + i) = bt t i := by
  unfold bt
  congr 2
  rw [show ((s.size : Int) + (i : Int)).toNat = s.size + i by omega, Int.toNat_natCast, ByteArray.data_append, Array.toList_append, List.getD_eq_getElem?_getD, List.getD_eq_getElem?_getD,
    List.getElem?_append_right (by rw [Array.length_toList]; show s.size ≤ _; omega)]
  congr 2
  rw [Array.length_toList]; show s.size + i - s.size = i; omega
/-- They come back, wherever they stand. -/
theorem read_bytes {a : List C} (h : Ok a) (s : ByteArray) : readE (bt (s ++ strOfNums (bytes a))) ((s ++ strOfNums (bytes a)).size : Nat) s.size = (a, (s.size : Int) + 2 + 3 * a.length, 0, ()) := by
  have hu := bytes_u8 h
  have hsz : (s ++ strOfNums (bytes a)).size = s.size + (2 + 3 * a.length) := by rw [ByteArray.size_append, strOfNums_size, bytes_len]
  have hb : ∀ j : Nat, bt (s ++ strOfNums (bytes a)) ((s.size : Int) + j) = (bytes a).getD j 0 := fun j => by rw [bt_app, bt_nums hu]
  have h0 := hb 0
  have h1 := hb 1
  have hn := h.1
  rw [show (s.size : Int) + ((0 : Nat) : Int) = s.size by omega] at h0
  rw [show (s.size : Int) + ((1 : Nat) : Int) = s.size + 1 by omega] at h1
  have e0 : (bytes a).getD 0 0 = (a.length : Int) / 256 := rfl
  have e1 : (bytes a).getD 1 0 = (a.length : Int) % 256 := rfl
  rw [e0] at h0
  rw [e1] at h1
  unfold readE
  rw [hsz, if_neg (by omega), if_neg (by omega), h0, h1, if_neg (by omega), show (256 * ((a.length : Int) / 256) + (a.length : Int) % 256).toNat = a.length by omega]
  rw [parse_encs a _ [] h.2 (fun j hj => by
    rw [show (s.size : Int) + 2 + (j : Int) = (s.size : Int) + ((2 + j : Nat) : Int) by omega, hb]
    show (head (a.length : Int) ++ encs a).getD (2 + j) 0 = _
    rw [List.getD_eq_getElem?_getD, List.getElem?_append_right (by show 2 ≤ 2 + j; omega), show 2 + j - (head (a.length : Int)).length = j by show 2 + j - 2 = j; omega, ← List.getD_eq_getElem?_getD]) (by omega)]
  rfl
/-- What is read has just these bytes. -/
theorem read_back (s : ByteArray) (h : (readE (bt s) s.size 0).2.2.1 = 0) : ∃ m e, readE (bt s) s.size 0 = (m, e, 0, ()) ∧ Ok m ∧ 0 ≤ e ∧ e ≤ (s.size : Int) ∧ strOfNums (bytes m) = s.extract 0 e.toNat := by
  have b0 := bt_le s 0
  have b1 := bt_le s (0 + 1)
  unfold readE at h ⊢
  by_cases h1 : (0 : Int) < 0 ∨ (0 : Int) > s.size
  · rw [if_pos h1] at h; cases h
  · rw [if_neg h1] at h ⊢
    by_cases h2 : (s.size : Int) - 0 < 2
    · rw [if_pos h2] at h; cases h
    · rw [if_neg h2] at h ⊢
      by_cases h3 : 256 * bt s 0 + bt s (0 + 1) > 2000
      · rw [if_pos h3] at h; cases h
      · rw [if_neg h3] at h ⊢
        obtain ⟨m, e1, e2, e3, e4, e5⟩ := parse_back (bt_le s) _ _ _ h (by omega)
        refine ⟨m, _, by rw [e1]; rfl, ⟨by omega, e4⟩, by omega, by omega, ?_⟩
        have hml : (m.length : Int) = 256 * bt s 0 + bt s 1 := by rw [e2, show (0 : Int) + 1 = 1 by omega]; rw [show (0 : Int) + 1 = 1 by omega] at b1; omega
        rw [show (0 : Int) + 1 = 1 by omega] at b1 e3
        apply ByteArray.ext
        apply Array.ext'
        rw [strOfNums_data, ByteArray.data_extract, Array.toList_extract]
        have hsz : s.data.toList.length = s.size := by rw [Array.length_toList]; rfl
        apply List.ext_getElem
        · rw [List.length_map, bytes_len]
          unfold List.extract
          rw [List.length_take, List.length_drop, hsz]
          simp only [show (0 : Int) + 1 = 1 by omega]
          omega
        · intro i h4 h5
          rw [List.length_map, bytes_len] at h4
          rw [List.getElem_map]
          unfold List.extract
          rw [List.getElem_take, List.getElem_drop]
          have key : (bytes m).getD i 0 = bt s i := by
            match i, h4 with
            | 0, _ => show (m.length : Int) / 256 = bt s 0; omega
            | 1, _ => show (m.length : Int) % 256 = bt s 1; omega
            | i + 2, h4 =>
              have := e5 i (by rw [show (0 : Int) + 1 = 1 by omega]; omega)
              show (encs m).getD i 0 = _
              rw [this]
              congr 1; omega
          rw [List.getD_eq_getElem?_getD, List.getElem?_eq_getElem (by rw [bytes_len]; exact h4)] at key
          have key : (bytes m)[i]'(by rw [bytes_len]; exact h4) = bt s i := key
          rw [key]
          unfold bt
          have hi : i < s.data.toList.length := by
            rw [hsz]; omega
          rw [Int.toNat_natCast, Int.toNat_natCast, List.getD_eq_getElem?_getD, List.getElem?_eq_getElem hi]
          simp
theorem parse_len {b : Int → Int} {sz : Int} : ∀ (n : Nat) (p : Int) (acc : List C), (parse b sz n p acc).1.length ≤ acc.length + n
  | 0, p, acc => by unfold parse; simp
  | n + 1, p, acc => by
    unfold parse
    split
    · simp
    · split
      · refine Nat.le_trans (parse_len n _ _) ?_
        simp; omega
      · simp
theorem readE_len (b : Int → Int) (sz p : Int) : (readE b sz p).1.length ≤ 2000 := by
  unfold readE
  split
  · simp
  · split
    · simp
    · split
      · simp
      · refine Nat.le_trans (parse_len _ _ _) ?_
        simp; omega
theorem alive : L33_alive = some true := by decide +kernel
end choices
end Go.Proofs.YtoihmfgkmndjfaaV
