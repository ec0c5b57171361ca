/- Sets of ids: what is made of two; the next id, all ids, how many. -/
import Derived.Test.YtejedlpnejjnbaaDoorBMsets
namespace Go.Proofs.YtejedlpnejjnbaaDoorBV
set_option linter.unusedVariables false
set_option linter.unusedSimpArgs false
namespace BS
/-- Word by word. -/
structure Part (f : Nat → Nat → Nat) (s t cur : List Int) (i : Int) : Prop where
  wf : Wf cur
  lo : ∀ k : Nat, (k : Int) < i → k < 4 → wd cur k = f (wd s k) (wd t k)
  hi : ∀ k : Nat, i ≤ (k : Int) → wd cur k = wd s k
theorem wd_set {s : List Int} (h : Wf s) (k v j : Nat) (hk : k < 4) : wd (s.set k (v : Int)) j = if j = k then v else wd s j := by
  unfold wd
  rw [List.getD_eq_getElem?_getD, List.getD_eq_getElem?_getD, List.getElem?_set]
  by_cases hj : k = j
  · rw [if_pos hj, if_pos hj.symm, if_pos (by rw [h.len]; exact hk)]; simp
  · rw [if_neg hj, if_neg (fun e => hj e.symm)]
theorem part0 (f : Nat → Nat → Nat) {s t : List Int} (hs : Wf s) : Part f s t s 0 := ⟨hs, fun k h => by omega, fun k _ => rfl⟩
theorem part_step {f : Nat → Nat → Nat} {s t cur : List Int} {k : Nat} (hf : ∀ a b, a < M → b < M → f a b < M) (hs : Wf s) (ht : Wf t) (hk : k < 4) (h : Part f s t cur (k : Int)) : Part f s t (cur.set k ((f (wd s k) (wd t k) : Nat) : Int)) ((k : Int) + 1) := by
  refine ⟨(h.wf.set k _ hk (hf _ _ (hs.wd k).2 (ht.wd k).2)).1, fun j hj h4 => ?_, fun j hj => ?_⟩
  · rw [wd_set h.wf k _ j hk]
    split
    · rename_i e; rw [e]
    · exact h.lo j (by omega) h4
  · rw [wd_set h.wf k _ j hk, if_neg (by omega)]
    exact h.hi j (by omega)
theorem part_mem {f : Nat → Nat → Nat} {g : Bool → Bool → Bool} (hg : ∀ a b i, i < 64 → a < M → b < M → (f a b).testBit i = g (a.testBit i) (b.testBit i)) {s t cur : List Int} (hs : Wf s) (ht : Wf t) (h : Part f s t cur 4) (i : Nat) (hi : i < 256) : mem cur i = g (mem s i) (mem t i) := by
  unfold mem
  rw [h.lo (i / 64) (by omega) (by omega), hg _ _ _ (by omega) (hs.wd _).2 (ht.wd _).2]
def zipf (f : Nat → Nat → Nat) (s t : List Int) : List Int := [((f (wd s 0) (wd t 0) : Nat) : Int), ((f (wd s 1) (wd t 1) : Nat) : Int), ((f (wd s 2) (wd t 2) : Nat) : Int), ((f (wd s 3) (wd t 3) : Nat) : Int)]
theorem part_zip {f : Nat → Nat → Nat} {s t cur : List Int} (hf : ∀ a b, a < M → b < M → f a b < M) (hs : Wf s) (ht : Wf t) (h : Part f s t cur 4) : cur = zipf f s t := by
  have l0 := h.lo 0 (by omega) (by omega)
  have l1 := h.lo 1 (by omega) (by omega)
  have l2 := h.lo 2 (by omega) (by omega)
  have l3 := h.lo 3 (by omega) (by omega)
  obtain ⟨a, b, c, d, rfl, _⟩ := h.wf.ex
  unfold zipf
  rw [← l0, ← l1, ← l2, ← l3]
  simp [wd]
theorem zip_mem {f : Nat → Nat → Nat} {g : Bool → Bool → Bool} (hf : ∀ a b, a < M → b < M → f a b < M) (hg : ∀ a b i, i < 64 → a < M → b < M → (f a b).testBit i = g (a.testBit i) (b.testBit i)) {s t : List Int} (hs : Wf s) (ht : Wf t) : Wf (zipf f s t) ∧ ∀ i, i < 256 → mem (zipf f s t) i = g (mem s i) (mem t i) := by
  have h : Wf (zipf f s t) := ⟨_, _, _, _, rfl, hf _ _ (hs.wd _).2 (ht.wd _).2, hf _ _ (hs.wd _).2 (ht.wd _).2, hf _ _ (hs.wd _).2 (ht.wd _).2, hf _ _ (hs.wd _).2 (ht.wd _).2⟩
  refine ⟨h, fun i hi => ?_⟩
  have hw : ∀ k, k < 4 → wd (zipf f s t) k = f (wd s k) (wd t k) := by
    intro k hk
    match k, hk with
    | 0, _ => simp [zipf, wd]
    | 1, _ => simp [zipf, wd]
    | 2, _ => simp [zipf, wd]
    | 3, _ => simp [zipf, wd]
  unfold mem
  rw [hw _ (by omega), hg _ _ _ (by omega) (hs.wd _).2 (ht.wd _).2]
theorem or_lt {a b : Nat} (ha : a < M) (hb : b < M) : a ||| b < M := Nat.or_lt_two_pow (n := 64) ha hb
theorem and_lt {a b : Nat} (ha : a < M) (hb : b < M) : a &&& b < M := Nat.and_lt_two_pow (n := 64) a hb
theorem andNot_lt {a b : Nat} (ha : a < M) (hb : b < M) : a &&& (18446744073709551615 - b) < M := Nat.and_lt_two_pow (n := 64) a (Nat.lt_of_le_of_lt (Nat.sub_le _ _) (by decide))
theorem Union_zip {s t : List Int} (hs : Wf s) (ht : Wf t) : bitset_Union s t = some (zipf (fun a b => a ||| b) s t) := by
  unfold bitset_Union
  rw [cutv_eq]
  unfold bitset_Union_C2
  refine loop_up (fun x => x.1) 4 (fun x => ∃ (k : Nat) (cur : List Int), x = ((k : Int), s, t, List.replicate 4 0, cur, t, List.replicate 4 0) ∧ k ≤ 4 ∧ Part (fun a b => a ||| b) s t cur (k : Int)) (fun _ => some (zipf (fun a b => a ||| b) s t)) ⟨0, s, rfl, by omega, part0 _ hs⟩ (by show (4 : Int) - 0 < _; omega) ?_
  rintro k2 x ⟨k, cur, rfl, hk, hp⟩ hnext
  unfold bitset_Union_L1
  simp only at hnext ⊢
  by_cases h4 : (k : Int) < 4
  · rw [bif_pos h4, cutv_eq]
    unfold bitset_Union_C1 bitset_Union_1 bitset_Union_R1
    simp only [Int.toNat_natCast]
    rw [chk_pos (by omega), chk_pos (by omega), (hp.wf.wd k).1, (ht.wd k).1, or_nat (hp.wf.wd k).2 (ht.wd k).2, Option.bind_some, chk_pos (by omega), hp.hi k (Int.le_refl _), w64 (by omega) (by omega)]
    refine hnext h4 _ ⟨k + 1, _, rfl, by omega, ?_⟩ (by simp)
    have := part_step (f := fun a b => a ||| b) (fun a b ha hb => or_lt ha hb) hs ht (by omega) hp
    exact_mod_cast this
  · rw [bif_neg h4]
    unfold bitset_Union_J1 bitset_Union_R2
    simp only
    obtain rfl : k = 4 := by omega
    rw [part_zip (fun a b ha hb => or_lt ha hb) hs ht hp]
theorem Union_eq {s t : List Int} (hs : Wf s) (ht : Wf t) : ∃ u, bitset_Union s t = some u ∧ Wf u ∧ ∀ i, i < 256 → mem u i = (mem s i || mem t i) := by
  obtain ⟨h1, h2⟩ := zip_mem (f := fun a b => a ||| b) (g := fun a b => (a || b)) (fun a b ha hb => or_lt ha hb) (fun a b i hi ha hb => by rw [Nat.testBit_or]) hs ht
  exact ⟨_, Union_zip hs ht, h1, h2⟩
theorem Inter_zip {s t : List Int} (hs : Wf s) (ht : Wf t) : bitset_Inter s t = some (zipf (fun a b => a &&& b) s t) := by
  unfold bitset_Inter
  rw [cutv_eq]
  unfold bitset_Inter_C2
  refine loop_up (fun x => x.1) 4 (fun x => ∃ (k : Nat) (cur : List Int), x = ((k : Int), s, t, List.replicate 4 0, cur, t, List.replicate 4 0) ∧ k ≤ 4 ∧ Part (fun a b => a &&& b) s t cur (k : Int)) (fun _ => some (zipf (fun a b => a &&& b) s t)) ⟨0, s, rfl, by omega, part0 _ hs⟩ (by show (4 : Int) - 0 < _; omega) ?_
  rintro k2 x ⟨k, cur, rfl, hk, hp⟩ hnext
  unfold bitset_Inter_L1
  simp only at hnext ⊢
  by_cases h4 : (k : Int) < 4
  · rw [bif_pos h4, cutv_eq]
    unfold bitset_Inter_C1 bitset_Inter_1 bitset_Inter_R1
    simp only [Int.toNat_natCast]
    rw [chk_pos (by omega), chk_pos (by omega), (hp.wf.wd k).1, (ht.wd k).1, and_nat (hp.wf.wd k).2 (ht.wd k).2, Option.bind_some, chk_pos (by omega), hp.hi k (Int.le_refl _), w64 (by omega) (by omega)]
    refine hnext h4 _ ⟨k + 1, _, rfl, by omega, ?_⟩ (by simp)
    have := part_step (f := fun a b => a &&& b) (fun a b ha hb => and_lt ha hb) hs ht (by omega) hp
    exact_mod_cast this
  · rw [bif_neg h4]
    unfold bitset_Inter_J1 bitset_Inter_R2
    simp only
    obtain rfl : k = 4 := by omega
    rw [part_zip (fun a b ha hb => and_lt ha hb) hs ht hp]
theorem Inter_eq {s t : List Int} (hs : Wf s) (ht : Wf t) : ∃ u, bitset_Inter s t = some u ∧ Wf u ∧ ∀ i, i < 256 → mem u i = (mem s i && mem t i) := by
  obtain ⟨h1, h2⟩ := zip_mem (f := fun a b => a &&& b) (g := fun a b => (a && b)) (fun a b ha hb => and_lt ha hb) (fun a b i hi ha hb => by rw [Nat.testBit_and]) hs ht
  exact ⟨_, Inter_zip hs ht, h1, h2⟩
theorem Less_zip {s t : List Int} (hs : Wf s) (ht : Wf t) : bitset_Less s t = some (zipf (fun a b => a &&& (18446744073709551615 - b)) s t) := by
  unfold bitset_Less
  rw [cutv_eq]
  unfold bitset_Less_C2
  refine loop_up (fun x => x.1) 4 (fun x => ∃ (k : Nat) (cur : List Int), x = ((k : Int), s, t, List.replicate 4 0, cur, t, List.replicate 4 0) ∧ k ≤ 4 ∧ Part (fun a b => a &&& (18446744073709551615 - b)) s t cur (k : Int)) (fun _ => some (zipf (fun a b => a &&& (18446744073709551615 - b)) s t)) ⟨0, s, rfl, by omega, part0 _ hs⟩ (by show (4 : Int) - 0 < _; omega) ?_
  rintro k2 x ⟨k, cur, rfl, hk, hp⟩ hnext
  unfold bitset_Less_L1
  simp only at hnext ⊢
  by_cases h4 : (k : Int) < 4
  · rw [bif_pos h4, cutv_eq]
    unfold bitset_Less_C1 bitset_Less_1 bitset_Less_R1
    simp only [Int.toNat_natCast]
    rw [chk_pos (by omega), chk_pos (by omega), (hp.wf.wd k).1, (ht.wd k).1, andNot_nat (hp.wf.wd k).2 (ht.wd k).2, Option.bind_some, chk_pos (by omega), hp.hi k (Int.le_refl _), w64 (by omega) (by omega)]
    refine hnext h4 _ ⟨k + 1, _, rfl, by omega, ?_⟩ (by simp)
    have := part_step (f := fun a b => a &&& (18446744073709551615 - b)) (fun a b ha hb => andNot_lt ha hb) hs ht (by omega) hp
    exact_mod_cast this
  · rw [bif_neg h4]
    unfold bitset_Less_J1 bitset_Less_R2
    simp only
    obtain rfl : k = 4 := by omega
    rw [part_zip (fun a b ha hb => andNot_lt ha hb) hs ht hp]
theorem Less_eq {s t : List Int} (hs : Wf s) (ht : Wf t) : ∃ u, bitset_Less s t = some u ∧ Wf u ∧ ∀ i, i < 256 → mem u i = (mem s i && !mem t i) := by
  obtain ⟨h1, h2⟩ := zip_mem (f := fun a b => a &&& (18446744073709551615 - b)) (g := fun a b => (a && !b)) (fun a b ha hb => andNot_lt ha hb) (fun a b i hi ha hb => by rw [Nat.testBit_and, not_bit hb, decide_eq_true hi, Bool.true_and]) hs ht
  exact ⟨_, Less_zip hs ht, h1, h2⟩
theorem zero_wf : Wf (List.replicate 4 0) := ⟨0, 0, 0, 0, rfl, by decide, by decide, by decide, by decide⟩
theorem zero_mem (i : Nat) : mem (List.replicate 4 0) i = false := by
  unfold mem wd
  rw [List.getD_eq_getElem?_getD, List.getElem?_replicate]
  split <;> simp
def sub (s t : List Int) : Bool := (List.range 256).all fun i => !mem s i || mem t i
theorem sub_iff {s t : List Int} : sub s t = true ↔ ∀ i, i < 256 → mem s i = true → mem t i = true := by
  unfold sub
  rw [List.all_eq_true]
  constructor
  · intro h i hi hm
    have := h i (List.mem_range.2 hi)
    rw [hm] at this; simpa using this
  · intro h i hi
    cases hm : mem s i with
    | false => rfl
    | true => rw [h i (List.mem_range.1 hi) hm]; rfl
theorem Sub_eq {s t : List Int} (hs : Wf s) (ht : Wf t) : bitset_Sub s t = some (sub s t) := by
  obtain ⟨u, h1, h2, h3⟩ := Less_eq hs ht
  unfold bitset_Sub
  rw [h1, Option.bind_some, letv_eq]
  congr 1
  rw [Bool.eq_iff_iff, decide_eq_true_iff, sub_iff]
  constructor
  · rintro rfl i hi hm
    have := h3 i hi
    rw [zero_mem, hm] at this
    cases ht2 : mem t i with
    | true => rfl
    | false => rw [ht2] at this; cases this
  · intro h
    refine ext h2 zero_wf fun i hi => ?_
    rw [zero_mem, h3 i hi]
    cases hm : mem s i with
    | false => rfl
    | true => rw [h i hi hm]; rfl
end BS
end Go.Proofs.YtejedlpnejjnbaaDoorBV
