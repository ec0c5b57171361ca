/- The laws of choose. -/
import Derived.Test.YtoihmfgkmndjfaaMchoose
import Derived.Test.YtoihmfgkmndjfaaDL27
namespace Go.Proofs.YtoihmfgkmndjfaaV
open Go.RowKit choose
theorem alive27 : L27_alive = some true := by decide +kernel
theorem law_L27_ChooseTells : ∀ x : ((.pair (.pair (.int .i64) (.pair (.int .i64) (.pair (.int .i64) (.pair (.sl (.int .i64)) .unit)))) (.pair (.int .i64) .unit)) : Ty).den, wfD (.pair (.pair (.int .i64) (.pair (.int .i64) (.pair (.int .i64) (.pair (.sl (.int .i64)) .unit)))) (.pair (.int .i64) .unit)) x → L27_ChooseTells x.1 x.2.1 = some true := by
  rintro ⟨c, w, _⟩ ⟨⟨_, _, _, hl, _⟩, _⟩
  have hl : c.2.2.2.1.length ≤ 140737488355328 := hl.1
  unfold L27_ChooseTells
  simp only [alive27, choose_eq _ _ hl, rchoose_eq _ _ hl, fine_eq _ hl, rfine_eq _ hl, turn_eq, rturn_eq, Option.bind_some, beq_self_eq_true, cond_true, decide_true]
  simp
namespace L27
theorem u8_at {xs : List Int} {m : Nat} (h : wfD (.arr m (.int .u8)) xs) (i : Nat) : 0 ≤ xs.getD i 0 ∧ xs.getD i 0 ≤ 255 := by
  by_cases hi : i < xs.length
  · have := getD_mem (xs := xs) (i := (i : Int)) (d := 0) (by omega) (by omega)
    exact wfu8 (h.2 _ (by simpa using this))
  · rw [List.getD_eq_getElem?_getD, List.getElem?_eq_none (by omega)]; simp
/-- From j on, k numbers long: those that are wanted. -/
def from_ (p : Int → Bool) : Nat → Int → List Int
  | 0, _ => []
  | k + 1, j => if p j then j :: from_ p k (j + 1) else from_ p k (j + 1)
theorem from_len (p : Int → Bool) : ∀ k j, (from_ p k j).length ≤ k
  | 0, _ => Nat.le_refl _
  | k + 1, j => by
    have := from_len p k (j + 1)
    unfold from_; split <;> simp <;> omega
theorem from_ok (p : Int → Bool) (n : Int) : ∀ (k : Nat) (l j : Int), l < j → 0 ≤ j → j + k ≤ n → okFrom n l (from_ p k j) = true
  | 0, _, _, _, _, _ => rfl
  | k + 1, l, j, h1, h2, h3 => by
    unfold from_
    split
    · simp only [okFrom, Bool.and_eq_true, decide_eq_true_eq]
      exact ⟨by omega, from_ok p n k j (j + 1) (by omega) (by omega) (by omega)⟩
    · exact from_ok p n k l (j + 1) (by omega) (by omega) (by omega)
theorem mem_from (p : Int → Bool) (g : Int) (hg : p g = true) : ∀ (k : Nat) (j : Int), j ≤ g → g < j + k → g ∈ from_ p k j
  | 0, j, h1, h2 => by omega
  | k + 1, j, h1, h2 => by
    unfold from_
    by_cases e : j = g
    · subst e; rw [if_pos hg]; exact List.mem_cons_self
    · have := mem_from p g hg k (j + 1) (by omega) (by omega)
      split
      · exact List.mem_cons_of_mem _ this
      · exact this
def want (b g : Int) (j : Int) : Bool := decide ((bitsOp .and .u8 (Int.fdiv b (2 ^ min j.toNat 8)) 1) = 1) || decide (j = g)
theorem some_eq (b n g : Int) (h0 : 0 ≤ n) (hn : n ≤ 6) : L27_some b n g = some (from_ (want b g) n.toNat 0) := by
  unfold L27_some
  refine (loop_up (fun x => x.1) n (fun x : Int × List Int => 0 ≤ x.1 ∧ x.1 ≤ n ∧ x.2.length ≤ x.1) (fun x => some (x.2 ++ from_ (want b g) (n - x.1).toNat x.1)) ⟨Int.le_refl 0, h0, by simp⟩ (by simp; omega) ?_).trans (by simp)
  rintro k ⟨j, out⟩ ⟨i0, i1, i2⟩ hk
  simp only at i0 i1 i2
  unfold L27_some_L1
  by_cases hj : j < n
  · have hk := hk hj
    obtain ⟨m, hm⟩ : ∃ m, (n - j).toNat = m + 1 := ⟨(n - j).toNat - 1, by omega⟩
    have hm2 : (n - (j + 1)).toNat = m := by omega
    simp only
    rw [bif_pos hj, chk_pos i0, chk_pos (by simp; omega), w64 (by omega) (by omega), hm]
    have k1 := hk (j + 1, out ++ [j]) ⟨by simp; omega, by simp; omega, by simp; omega⟩ rfl
    have k2 := hk (j + 1, out) ⟨by simp; omega, by simp; omega, by simp; omega⟩ rfl
    simp only [hm2] at k1 k2
    rw [k1, k2, from_]
    unfold want
    cases decide (bitsOp .and .u8 (Int.fdiv b (2 ^ min j.toNat 8)) 1 = 1) <;> cases decide (j = g) <;> simp
  · simp only
    rw [bif_neg hj, show (n - j).toNat = 0 by omega]
    simp [from_, L27_some_J1]
theorem ok_all {n : Int} : ∀ (xs : List Int) (l : Int), okFrom n l xs = true → ∀ y ∈ xs, l < y ∧ 0 ≤ y ∧ y < n
  | [], _, _, y, hy => by cases hy
  | x :: xs, l, h, y, hy => by
    simp only [okFrom, Bool.and_eq_true, decide_eq_true_eq] at h
    cases hy with
    | head => exact h.1
    | tail _ hy => have := ok_all xs x h.2 y hy; omega
theorem find_ok {n t : Int} : ∀ (xs : List Int) (l : Int), okFrom n l xs = true → ∀ a, xs.find? (fun x => decide (x ≥ t)) = some a → t ≤ a ∧ 0 ≤ a ∧ a < n ∧ ∀ y ∈ xs, t ≤ y → a ≤ y
  | [], _, _, a, ha => by cases ha
  | x :: xs, l, h, a, ha => by
    have hall := ok_all (x :: xs) l h
    simp only [okFrom, Bool.and_eq_true, decide_eq_true_eq] at h
    rw [List.find?_cons] at ha
    by_cases hx : x ≥ t
    · rw [decide_eq_true hx] at ha
      cases ha
      refine ⟨hx, h.1.2.1, h.1.2.2, fun y hy ht => ?_⟩
      cases hy with
      | head => exact Int.le_refl _
      | tail _ hy => have := ok_all xs x h.2 y hy; omega
    · rw [decide_eq_false hx] at ha
      obtain ⟨h1, h2, h3, h4⟩ := find_ok xs x h.2 a ha
      refine ⟨h1, h2, h3, fun y hy ht => ?_⟩
      cases hy with
      | head => omega
      | tail _ hy => exact h4 y hy ht
/-- The one that is taken by Fair: where it lies. -/
theorem fair {n t g : Int} {xs : List Int} (h : okFrom n (-1) xs = true) (hg : g ∈ xs) (a : Int) (ha : a = (xs.find? fun x => decide (x ≥ t)).getD (xs.getD 0 0)) :
    0 ≤ a ∧ a < n ∧ (t ≤ g → t ≤ a ∧ a ≤ g) ∧ (g < t → t ≤ a ∨ a ≤ g) := by
  have hall := ok_all xs _ h
  cases hf : xs.find? (fun x => decide (x ≥ t)) with
  | some b =>
    rw [hf] at ha
    have ha : a = b := ha
    subst ha
    obtain ⟨h1, h2, h3, h4⟩ := find_ok xs _ h a hf
    exact ⟨h2, h3, fun hl => ⟨h1, h4 g hg hl⟩, fun _ => .inl h1⟩
  | none =>
    rw [hf] at ha
    have hno := List.find?_eq_none.1 hf
    cases xs with
    | nil => cases hg
    | cons x xs =>
      have ha : a = x := ha
      subst ha
      have h1 := hall a List.mem_cons_self
      simp only [okFrom, Bool.and_eq_true, decide_eq_true_eq] at h
      have h2 : a ≤ g := by
        cases hg with
        | head => exact Int.le_refl _
        | tail _ hg => have := ok_all xs a h.2 g hg; omega
      have h3 := hno g hg
      simp at h3
      exact ⟨h1.2.1, h1.2.2, fun hl => by omega, fun _ => .inr h2⟩
theorem pre {k : List Int} (h : wfD (.arr 3 (.int .u8)) k) : ∃ n, n = 1 + k.getD 0 0 % 6 ∧ IntKind.i64.wrap (1 + IntKind.i64.wrap (Int.tmod (k.getD (0 : Int).toNat 0) 6)) = n ∧ 1 ≤ n ∧ n ≤ 6 := by
  have h0 : 0 ≤ k.getD (0 : Int).toNat 0 ∧ k.getD (0 : Int).toNat 0 ≤ 255 := u8_at h 0
  refine ⟨_, rfl, ?_⟩
  rw [Int.tmod_eq_emod_of_nonneg h0.1, w64 (x := _ % 6) (by omega) (by omega), w64 (by omega) (by omega)]
  simp only [Int.toNat_zero] at h0 ⊢
  exact ⟨trivial, by omega, by omega⟩
theorem mod_of {b n : Int} (h0 : 0 ≤ b) (h1 : b ≤ 255) (hn : 1 ≤ n) : ∃ g, g = b % n ∧ Int.tmod (IntKind.i64.wrap b) n = g ∧ 0 ≤ g ∧ g < n := by
  refine ⟨_, rfl, ?_, Int.emod_nonneg _ (by omega), Int.emod_lt_of_pos _ (by omega)⟩
  rw [w64 (by omega) (by omega), Int.tmod_eq_emod_of_nonneg h0]
theorem fine_some {n m t : Int} {p : Int → Bool} (hn : 1 ≤ n) (hn6 : n ≤ 6) (hm : 0 ≤ m ∧ m ≤ 2) (ht : 0 ≤ t ∧ t < n) : fine (m, n, t, from_ p n.toNat 0, ()) = true := by
  unfold fine
  simp only
  rw [decide_eq_true (by omega), from_ok p n n.toNat (-1) 0 (by omega) (by omega) (by omega)]; rfl
end L27
open L27
theorem law_L27_ChooseFair : ∀ x : ((.pair (.arr 3 (.int .u8)) (.pair (.sl (.int .u8)) .unit)) : Ty).den, wfD (.pair (.arr 3 (.int .u8)) (.pair (.sl (.int .u8)) .unit)) x → L27_ChooseFair x.1 x.2.1 = some true := by
  rintro ⟨k, l, _⟩ ⟨hk, hl, _⟩
  have hl : (l : List Int).length ≤ 140737488355328 := hl.1
  obtain ⟨n, _, hn, n1, n6⟩ := pre hk
  have b1 : 0 ≤ k.getD (1 : Int).toNat 0 ∧ k.getD (1 : Int).toNat 0 ≤ 255 := u8_at hk 1
  have b2 : 0 ≤ k.getD (2 : Int).toNat 0 ∧ k.getD (2 : Int).toNat 0 ≤ 255 := u8_at hk 2
  obtain ⟨g, _, hg, g0, g1⟩ := mod_of b1.1 b1.2 n1
  obtain ⟨t, _, ht, t0, t1⟩ := mod_of b2.1 b2.2 n1
  show L27_ChooseFair k l = some true
  unfold L27_ChooseFair
  simp only [letv_eq]
  rw [chk_pos (by omega), chk_pos (by omega), hn, chk_pos (by omega), chk_pos (by omega), chk_pos (by omega), chk_pos (by omega), hg, ht]
  refine (loop_up (fun x => x.2.2) l.length (fun x : Int × Int × Int => 0 ≤ x.2.2 ∧ 0 ≤ x.1 ∧ x.1 < n ∧ 0 ≤ x.2.1 ∧ x.2.1 + (if x.1 ≤ g then g - x.1 else g - x.1 + n) ≤ n - 1) (fun _ => some true) ⟨by simp, t0, t1, by simp, ?_⟩ (by simp; omega) ?_)
  · simp only
    split <;> omega
  rintro c ⟨t, q, i⟩ ⟨i0, s0, s1, s2, s3⟩ hc
  simp only at i0 s0 s1 s2 s3
  have hend : L27_ChooseFair_J1 = some true := by unfold L27_ChooseFair_J1; rw [alive27]; rfl
  unfold L27_ChooseFair_L1
  simp only
  by_cases hi : i < (l.length : Int)
  · have hc := hc hi
    rw [bif_pos hi]
    by_cases h100 : i < 100
    · rw [bif_pos h100, chk_at i0 hi, some_eq _ n g (by omega) n6]
      generalize hp : want (l.getD i.toNat 0) g = p
      have hpg : p g = true := by rw [← hp]; unfold want; simp
      have hlen := from_len p n.toNat 0
      have hmem := mem_from p g hpg n.toNat 0 (by omega) (by omega)
      have hok := from_ok p n n.toNat (-1) 0 (by omega) (by omega) (by omega)
      have hfine := fine_some (p := p) n1 n6 (m := 1) (t := t) (by omega) ⟨s0, s1⟩
      simp only [Option.bind_some]
      rw [choose_eq _ _ (show (from_ p n.toNat 0).length ≤ 140737488355328 by omega)]
      have hch : ch (1, n, t, from_ p n.toNat 0, ()) i = (((from_ p n.toNat 0).find? fun x => decide (x ≥ t)).getD ((from_ p n.toNat 0).getD 0 0), 0, ()) := by
        unfold ch
        rw [if_pos hfine]
        simp only
        rw [if_neg (fun h0 => by rw [List.eq_nil_of_length_eq_zero h0] at hmem; cases hmem), if_pos trivial]
      rw [hch]
      generalize ha : ((from_ p n.toNat 0).find? fun x => decide (x ≥ t)).getD ((from_ p n.toNat 0).getD 0 0) = a
      obtain ⟨a0, a1, a2, a3⟩ := fair hok hmem a ha.symm
      simp only [Option.bind_some, turn_eq]
      rw [bnot_pos trivial, bif_neg (by omega), bif_neg (by omega)]
      by_cases e : a = g
      · rw [bif_pos e, bif_neg (by omega), w64 (by omega) (by omega)]
        refine hc _ ⟨by simp; omega, ?_, ?_, by simp, ?_⟩ rfl
        · simp only; split <;> omega
        · simp only; split <;> omega
        · simp only; subst e; (repeat' split) <;> omega
      · rw [bif_neg e, w64 (x := q + 1) (by split at s3 <;> omega) (by split at s3 <;> omega), w64 (x := i + 1) (by omega) (by omega), bif_neg (by split at s3 <;> omega)]
        refine hc _ ⟨by simp; omega, ?_, ?_, by simp; omega, ?_⟩ rfl
        · simp only; split <;> omega
        · simp only; split <;> omega
        · simp only
          split at s3 <;> (repeat' split) <;> omega
    · rw [bif_neg h100, hend]
  · rw [bif_neg hi, hend]
theorem law_L27_ChooseEach : ∀ x : ((.pair (.arr 3 (.int .u8)) (.pair (.int .i64) .unit)) : Ty).den, wfD (.pair (.arr 3 (.int .u8)) (.pair (.int .i64) .unit)) x → L27_ChooseEach x.1 x.2.1 = some true := by
  rintro ⟨k, w, _⟩ ⟨hk, hw, _⟩
  obtain ⟨n, _, hn, n1, n6⟩ := pre hk
  have b1 : 0 ≤ k.getD (1 : Int).toNat 0 ∧ k.getD (1 : Int).toNat 0 ≤ 255 := u8_at hk 1
  obtain ⟨g, _, hg, g0, g1⟩ := mod_of b1.1 b1.2 n1
  show L27_ChooseEach k w = some true
  unfold L27_ChooseEach
  simp only [letv_eq]
  rw [chk_pos (by omega), chk_pos (by omega), hn, chk_pos (by omega), chk_pos (by omega), chk_pos (by omega), hg, some_eq _ n g (by omega) n6]
  generalize hp : want (k.getD (2 : Int).toNat 0) g = p
  have hpg : p g = true := by rw [← hp]; unfold want; simp
  have hlen := from_len p n.toNat 0
  have hmem := mem_from p g hpg n.toNat 0 (by omega) (by omega)
  have f0 := fine_some (p := p) n1 n6 (m := 0) (t := 0) (by omega) (by omega)
  have f2 := fine_some (p := p) n1 n6 (m := 2) (t := 0) (by omega) (by omega)
  generalize from_ p n.toNat 0 = r at hlen hmem f0 f2
  have hr : 0 < r.length := by cases r with
    | nil => cases hmem
    | cons _ _ => simp
  have any_eq : ∀ v, choose_Choose (2, n, 0, r, ()) v = some (r.getD (v % (r.length : Int)).toNat 0, 0, ()) := by
    intro v
    rw [choose_eq _ _ (show r.length ≤ 140737488355328 by omega)]
    unfold ch
    rw [if_pos f2]
    simp only
    rw [if_neg (by omega)]; rfl
  have pri_eq : choose_Choose (0, n, 0, r, ()) w = some (r.getD 0 0, 0, ()) := by
    rw [choose_eq _ _ (show r.length ≤ 140737488355328 by omega)]
    unfold ch
    rw [if_pos f0]
    simp only
    rw [if_neg (by omega)]; rfl
  simp only [Option.bind_some, any_eq, pri_eq]
  rw [bnot_pos trivial, bnot_pos trivial, chk_pos (by omega), bnot_pos (show r.getD 0 0 = r.getD (Int.toNat 0) 0 from rfl)]
  have hb := getD_mem (xs := r) (d := 0) (Int.emod_nonneg w (show (r.length : Int) ≠ 0 by omega)) (Int.emod_lt_of_pos w (by omega))
  generalize r.getD (w % (r.length : Int)).toNat 0 = b at hb
  refine (loop_up (fun x => x.2.2) r.length (fun x : Bool × Bool × Int => 0 ≤ x.2.2) (fun x => L27_ChooseEach_J1 (x.1 || (r.drop x.2.2.toNat).any (fun y => decide (y = b))) (x.2.1 || (r.drop x.2.2.toNat).any (fun y => decide (y = g)))) (by simp) (by simp; omega) ?_).trans ?_
  · rintro c ⟨p, q, i⟩ (i0 : 0 ≤ i) hc
    unfold L27_ChooseEach_L1
    simp only
    by_cases hi : i < (r.length : Int)
    · have hc := hc hi
      rw [bif_pos hi, chk_at i0 hi, any_eq, Int.emod_eq_of_lt i0 hi]
      simp only [Option.bind_some]
      rw [bnot_pos trivial, bnot_pos trivial, w64 (by omega) (by omega), drop_at (d := 0) i0 hi]
      simp only [List.any_cons]
      rw [hc (true, true, i + 1) (by simp; omega) rfl, hc (true, decide (r.getD i.toNat 0 = g), i + 1) (by simp; omega) rfl, hc (decide (r.getD i.toNat 0 = b), true, i + 1) (by simp; omega) rfl, hc (decide (r.getD i.toNat 0 = b), decide (r.getD i.toNat 0 = g), i + 1) (by simp; omega) rfl]
      cases p <;> cases q <;> simp
    · rw [bif_neg hi, drop_end hi]; simp
  · simp only [Int.toNat_zero, List.drop_zero, Bool.false_or]
    rw [List.any_eq_true.2 ⟨b, hb, by simp⟩, List.any_eq_true.2 ⟨g, hmem, by simp⟩]
    unfold L27_ChooseEach_J1
    rw [alive27]; rfl
end Go.Proofs.YtoihmfgkmndjfaaV
