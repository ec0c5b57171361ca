/- The law RingsPlay. -/
import Derived.Test.YtoihmfgkmndjfaaMKit
import Derived.Test.YtoihmfgkmndjfaaDRingsPlay
namespace Go.Proofs.YtoihmfgkmndjfaaV
set_option linter.unusedVariables false
set_option linter.unusedSimpArgs false
open Go.RowKit
namespace RingsP
theorem alive : L07_alive = some true := by decide +kernel
theorem ext0 {xs ys : List Int} (hl : xs.length = ys.length) (h : ∀ i, i < xs.length → xs.getD i 0 = ys.getD i 0) : xs = ys := by
  apply List.ext_getElem hl
  intro i h1 h2
  have := h i h1
  rw [List.getD_eq_getElem?_getD, List.getD_eq_getElem?_getD, List.getElem?_eq_getElem h1, List.getElem?_eq_getElem h2] at this
  exact this
def pos (n f j : Int) : Int := if f + j < n then f + j else f + j - n
theorem pos_is {n f j : Int} (h0 : 0 ≤ f) (h1 : f < n) (h2 : 0 ≤ j) (h3 : j ≤ n) : Int.tmod (f + j) n = pos n f j := by
  rw [Int.tmod_eq_emod_of_nonneg (by omega)]
  unfold pos
  by_cases h : f + j < n
  · rw [if_pos h, Int.emod_eq_of_lt (by omega) h]
  · rw [if_neg h]
    have e : f + j = (f + j - n) + n := by omega
    rw [e, Int.add_emod_right, Int.emod_eq_of_lt (by omega) (by omega)]
    omega
theorem getD_set {xs : List Int} {i j : Nat} {v : Int} (hj : j < xs.length) : (xs.set j v).getD i 0 = if i = j then v else xs.getD i 0 := by
  rw [List.getD_eq_getElem?_getD, List.getD_eq_getElem?_getD, List.getElem?_set]
  by_cases h : j = i
  · subst h; simp [hj]
  · rw [if_neg h, if_neg (Ne.symm h)]
theorem getD_app {xs ys : List Int} {i : Nat} (hi : i < xs.length) : (xs ++ ys).getD i 0 = xs.getD i 0 := by
  rw [List.getD_eq_getElem?_getD, List.getD_eq_getElem?_getD, List.getElem?_append_left hi]
theorem getD_app2 {xs ys : List Int} {i : Nat} (hi : xs.length ≤ i) : (xs ++ ys).getD i 0 = ys.getD (i - xs.length) 0 := by
  rw [List.getD_eq_getElem?_getD, List.getD_eq_getElem?_getD, List.getElem?_append_right hi]
theorem getD_take {xs : List Int} {n i : Nat} (h : i < n) : (xs.take n).getD i 0 = xs.getD i 0 := by
  rw [List.getD_eq_getElem?_getD, List.getD_eq_getElem?_getD, List.getElem?_take, if_pos h]
theorem getD_drop {xs : List Int} {n i : Nat} : (xs.drop n).getD i 0 = xs.getD (n + i) 0 := by
  rw [List.getD_eq_getElem?_getD, List.getD_eq_getElem?_getD, List.getElem?_drop]
theorem getD_last {xs : List Int} {x : Int} : (xs ++ [x]).getD xs.length 0 = x := by
  rw [List.getD_eq_getElem?_getD]; simp
abbrev Ring := Bool × (List Int) × Int × Int × Unit
/-- A ring holds this list. -/
structure RL (n : Int) (all : List Int) (f m : Int) (w : List Int) : Prop where
  nl : (all.length : Int) = n
  n0 : 0 ≤ n
  n2 : n ≤ 1024
  f0 : 0 ≤ f
  f1 : f < n ∨ n = 0 ∧ f = 0
  mw : m = (w.length : Int)
  m1 : m ≤ n
  has : ∀ j : Nat, j < w.length → all.getD (pos n f j).toNat 0 = w.getD j 0
theorem RL.empty {n : Int} (h0 : 0 ≤ n) (h1 : n ≤ 1024) : RL n (List.replicate n.toNat 0) 0 0 [] :=
  ⟨by simp; omega, h0, h1, by omega, by omega, rfl, h0, fun j hj => by simp at hj⟩
variable {n : Int} {all : List Int} {f m : Int} {w : List Int}
theorem clear_eq (h : RL n all f m w) : ∃ a2, rings_Ring_int_Clear (true, all, f, m, ()) = some ((true, a2, 0, 0, ()), ()) ∧ RL n a2 0 0 [] := by
  refine ⟨List.replicate all.length 0, rfl, ?_⟩
  have := RL.empty h.n0 h.n2
  rwa [show n.toNat = all.length by have := h.nl; omega] at this
theorem len_eq (h : RL n all f m w) : rings_Ring_int_Len (true, all, f, m, ()) = some ((true, all, f, m, ()), ((w.length : Int), ())) := by
  rw [← h.mw]; rfl
theorem room_eq (h : RL n all f m w) : rings_Ring_int_Room (true, all, f, m, ()) = some ((true, all, f, m, ()), (n, ())) := by
  rw [← h.nl]; rfl
theorem pos_lt (h : RL n all f m w) (hn : 0 < n) {j : Int} (h0 : 0 ≤ j) (h1 : j ≤ n) : 0 ≤ pos n f j ∧ pos n f j < n := by
  have := h.f0; have := h.f1
  unfold pos
  split <;> omega
def atv (w : List Int) (i : Int) : Int × Int × Unit := if 0 ≤ i ∧ i < (w.length : Int) then (w.getD i.toNat 0, 0, ()) else (0, 8, ())
theorem at_eq (h : RL n all f m w) (i : Int) : rings_Ring_int_At (true, all, f, m, ()) i = some ((true, all, f, m, ()), atv w i) := by
  have n2 := h.n2; have f0 := h.f0; have f1 := h.f1; have mw := h.mw; have m1 := h.m1; have nl := h.nl
  unfold rings_Ring_int_At rings_Ring_int_ok atv
  rw [Option.bind_some]
  show cond (!true) _ _ = _
  rw [cond_tt]
  by_cases h1 : i < 0
  · rw [bif_pos h1, if_neg (by omega)]
  · rw [bif_neg h1]
    by_cases h2 : i ≥ m
    · rw [bif_pos h2, if_neg (by omega)]
    · rw [bif_neg h2, if_pos (by omega), cutv_eq]
      unfold rings_Ring_int_At_C1 rings_Ring_int_At_R1
      have hp := pos_lt h (by omega) (j := i) (by omega) (by omega)
      simp only
      rw [nl, chk_pos (by omega), letv_eq, w64 (x := f + i) (by omega) (by omega), pos_is f0 (by omega) (by omega) (by omega), chk_pos hp]
      have := h.has i.toNat (by omega)
      rw [Int.toNat_of_nonneg (by omega)] at this
      rw [this]
theorem Rat_eq (h : w.length ≤ 1024) (i : Int) : R07_At (n, w, ()) i = some (atv w i) := by
  unfold R07_At atv
  simp only
  by_cases h1 : i < 0
  · rw [bif_pos h1, if_neg (by omega)]
  · rw [bif_neg h1]
    by_cases h2 : i ≥ (w.length : Int)
    · rw [bif_pos h2, if_neg (by omega)]
    · rw [bif_neg h2, if_pos (by omega), chk_pos (by omega)]
theorem list_is (h : RL n all f m w) (hm : m ≠ 0) : (all.take (min (f + m) n).toNat).drop f.toNat ++ (all.take (m - (min (f + m) n - f)).toNat).drop (0 : Int).toNat = w := by
  have n2 := h.n2; have f0 := h.f0; have f1 := h.f1; have mw := h.mw; have m1 := h.m1; have nl := h.nl
  have hl1 : ((all.take (min (f + m) n).toNat).drop f.toNat).length = (min (f + m) n - f).toNat := by simp; omega
  have hl2 : ((all.take (m - (min (f + m) n - f)).toNat).drop (0 : Int).toNat).length = (m - (min (f + m) n - f)).toNat := by simp; omega
  apply ext0
  · rw [List.length_append, hl1, hl2]; omega
  · intro i hi
    rw [List.length_append, hl1, hl2] at hi
    rw [← h.has i (by omega)]
    by_cases h1 : i < (min (f + m) n - f).toNat
    · rw [getD_app (by rw [hl1]; exact h1), getD_drop, getD_take (by omega)]
      congr 1
      unfold pos
      rw [if_pos (by omega)]; omega
    · rw [getD_app2 (by rw [hl1]; omega), hl1, getD_drop, getD_take (by simp; omega)]
      congr 1
      unfold pos
      rw [if_neg (by omega)]; simp; omega
theorem list_eq (h : RL n all f m w) : rings_Ring_int_List (true, all, f, m, ()) = some ((true, all, f, m, ()), (w, ())) := by
  have n2 := h.n2; have f0 := h.f0; have f1 := h.f1; have mw := h.mw; have m1 := h.m1; have nl := h.nl
  unfold rings_Ring_int_List rings_Ring_int_ok
  rw [Option.bind_some]
  show cond (!true) _ _ = _
  rw [cond_tt]
  simp only
  by_cases h0 : m = 0
  · rw [bif_pos h0]
    have : w = [] := List.eq_nil_of_length_eq_zero (by omega)
    rw [this]
  · rw [bif_neg h0, nl, w64 (x := f + m) (by omega) (by omega), letv_eq, chk_pos (by omega), chk_pos (by simp; omega), letv_eq, w64 (x := m - (min (f + m) n - f)) (by omega) (by omega), chk_pos (by omega), chk_pos (by simp; omega), letv_eq, list_is h h0]
theorem push_eq (h : RL n all f m w) (x : Int) : (m = n ∧ rings_Ring_int_Push (true, all, f, m, ()) x = some ((true, all, f, m, ()), (10, ()))) ∨ (m < n ∧ ∃ a2 m2, rings_Ring_int_Push (true, all, f, m, ()) x = some ((true, a2, f, m2, ()), (0, ())) ∧ RL n a2 f m2 (w ++ [x])) := by
  have n2 := h.n2; have f0 := h.f0; have f1 := h.f1; have mw := h.mw; have m1 := h.m1; have nl := h.nl
  unfold rings_Ring_int_Push rings_Ring_int_ok
  rw [Option.bind_some]
  show _ ∧ (cond (!true) _ _ = _) ∨ _ ∧ ∃ a2 m2, (cond (!true) _ _ = _) ∧ _
  rw [cond_tt]
  simp only [nl, letv_eq]
  by_cases h0 : m = n
  · exact .inl ⟨h0, by rw [bif_pos h0]⟩
  · refine .inr ⟨by omega, all.set (pos n f m).toNat x, m + 1, ?_, ?_⟩
    · rw [bif_neg h0, cutv_eq]
      unfold rings_Ring_int_Push_C1 rings_Ring_int_Push_R1
      have hp := pos_lt h (by omega) (j := m) (by omega) (by omega)
      simp only
      rw [nl, chk_pos (by omega), letv_eq, w64 (x := f + m) (by omega) (by omega), pos_is f0 (by omega) (by omega) (by omega), chk_pos hp, w64 (by omega) (by omega)]
    · have hp := pos_lt h (by omega) (j := m) (by omega) (by omega)
      refine ⟨by simpa using nl, h.n0, n2, f0, f1, by simp; omega, by omega, fun j hj => ?_⟩
      rw [getD_set (by omega)]
      rw [List.length_append, List.length_singleton] at hj
      by_cases e : j = w.length
      · subst e
        rw [← mw, if_pos rfl, getD_last]
      · have hq : (pos n f j).toNat ≠ (pos n f m).toNat := by
          unfold pos at hp ⊢
          split at hp <;> split <;> omega
        rw [if_neg hq, getD_app (by omega)]
        exact h.has j (by omega)
theorem Rpush_eq (h : w.length ≤ 1024) (x : Int) : R07_Push (n, w, ()) x = some (if (w.length : Int) = n then ((n, w, ()), 10, ()) else ((n, w ++ [x], ()), 0, ())) := by
  unfold R07_Push
  simp only
  by_cases h1 : (w.length : Int) = n
  · rw [bif_pos h1, if_pos h1]
  · rw [bif_neg h1, if_neg h1, chk_pos (by omega), chk_pos (by simp; omega)]
theorem pop_eq (h : RL n all f m w) : (m = 0 ∧ rings_Ring_int_Pop (true, all, f, m, ()) = some ((true, all, f, m, ()), (0, 11, ()))) ∨ (0 < m ∧ ∃ a2 f2 m2, rings_Ring_int_Pop (true, all, f, m, ()) = some ((true, a2, f2, m2, ()), (w.getD 0 0, 0, ())) ∧ RL n a2 f2 m2 (w.drop 1)) := by
  have n2 := h.n2; have f0 := h.f0; have f1 := h.f1; have mw := h.mw; have m1 := h.m1; have nl := h.nl
  unfold rings_Ring_int_Pop rings_Ring_int_ok
  rw [Option.bind_some]
  show _ ∧ (cond (!true) _ _ = _) ∨ _ ∧ ∃ a2 f2 m2, (cond (!true) _ _ = _) ∧ _
  rw [cond_tt]
  simp only
  by_cases h0 : m = 0
  · exact .inl ⟨h0, by rw [bif_pos h0]⟩
  · refine .inr ⟨by omega, all.set f.toNat 0, pos n f 1, m - 1, ?_, ?_⟩
    · rw [bif_neg h0, chk_pos (by omega), chk_pos (by omega), cutv_eq]
      unfold rings_Ring_int_Pop_C1 rings_Ring_int_Pop_R1
      simp only [List.length_set, nl]
      rw [chk_pos (by omega), letv_eq, w64 (x := f + 1) (by omega) (by omega), pos_is f0 (by omega) (by omega) (by omega), w64 (by omega) (by omega)]
      have := h.has 0 (by omega)
      rw [show (pos n f ((0 : Nat) : Int)).toNat = f.toNat by unfold pos; rw [if_pos (by omega)]; omega] at this
      rw [this]
    · have hp := pos_lt h (by omega) (j := 1) (by omega) (by omega)
      refine ⟨by simpa using nl, h.n0, n2, hp.1, .inl hp.2, by simp; omega, by omega, fun j hj => ?_⟩
      rw [List.length_drop] at hj
      rw [getD_set (by omega), getD_drop]
      have e : pos n (pos n f 1) j = pos n f ((1 + j : Nat) : Int) := by
        unfold pos at hp ⊢
        split at hp <;> split <;> split <;> omega
      have hq : (pos n f ((1 + j : Nat) : Int)).toNat ≠ f.toNat := by
        unfold pos
        split <;> omega
      rw [e, if_neg hq]
      exact h.has (1 + j) (by omega)
theorem Rpop_eq (h : w.length ≤ 1024) : R07_Pop (n, w, ()) = some (if w.length = 0 then ((n, w, ()), 0, 11, ()) else ((n, w.drop 1, ()), w.getD 0 0, 0, ())) := by
  unfold R07_Pop
  simp only
  by_cases h1 : w.length = 0
  · rw [bif_pos (by omega), if_pos h1]
  · rw [bif_neg (by omega), if_neg h1, chk_pos (by omega), chk_pos (by omega), Int.toNat_natCast, List.take_of_length_le (Nat.le_refl _)]
    rfl
theorem same_eq (w : List Int) (h : w.length ≤ 1024) : R02_Same w w = some true := by
  unfold R02_Same
  rw [bnot_pos rfl]
  refine loop_up (F := R02_Same_L1 w w) (fun x : Int => x) (w.length : Int) (fun x => 0 ≤ x) (fun x => some true) (x := 0) (Int.le_refl 0) (by simp; omega) ?_
  intro k i (h0 : 0 ≤ i) hk
  unfold R02_Same_L1
  by_cases hj : i < (w.length : Int)
  · rw [bif_pos hj, chk_at h0 hj, chk_at h0 hj, bnot_pos rfl, w64 (by omega) (by omega)]
    exact hk hj _ (by show 0 ≤ i + 1; omega) rfl
  · rw [bif_neg hj]; rfl
theorem RL.wl (h : RL n all f m w) : w.length ≤ 1024 := by
  have := h.mw; have := h.m1; have := h.n2; omega
abbrev X := Int × (List (Int × Int × Unit)) × Int × Int × Int × List Int × List Int × Bool × Int × Int
theorem play (a : Int) (l : List (Int × Int × Unit)) (hl : ∀ x ∈ l, 0 ≤ x.1 ∧ x.1 ≤ 255) : L07_RingsPlay a l = some true := by
  unfold L07_RingsPlay
  rw [alive]
  by_cases h1 : (l.length : Int) > 100
  · rw [bif_pos h1]; rfl
  rw [bif_neg h1]
  by_cases h2 : a < 0
  · rw [bif_pos h2]
    unfold R07_New
    rw [bif_pos h2]; rfl
  rw [bif_neg h2]
  by_cases h3 : a > 1024
  · rw [bif_pos h3]
    unfold R07_New
    rw [bif_neg h2, bif_pos h3]; rfl
  rw [bif_neg h3, chk_pos ⟨rfl, by omega, by omega⟩]
  unfold R07_New
  rw [bif_neg h2, bif_neg h3, Option.bind_some, bnot_pos rfl]
  refine loop_up (fun x : X => x.2.2.2.1) l.length (fun x : X => x.1 = a ∧ x.2.1 = l ∧ x.2.2.1 = l.length ∧ 0 ≤ x.2.2.2.1 ∧ x.2.2.2.2.1 = a ∧ x.2.2.2.2.2.2.2.1 = true ∧ RL a x.2.2.2.2.2.2.1 x.2.2.2.2.2.2.2.2.1 x.2.2.2.2.2.2.2.2.2 x.2.2.2.2.2.1) (fun _ => some true) ⟨rfl, rfl, rfl, Int.le_refl 0, rfl, rfl, RL.empty (by omega) (by omega)⟩ (by simp; omega) ?_
  rintro k ⟨a', l', n', i, ra, w, all, md, f, m⟩ ⟨e1, e2, e3, i0, e4, e5, h⟩ hk
  simp only at e1 e2 e3 i0 e4 e5 h
  subst e1 e2 e3 e4 e5
  unfold L07_RingsPlay_L1
  simp only
  by_cases hi : i < (l'.length : Int)
  · rw [bif_pos hi, chk_at i0 hi, letv_eq]
    have hu := hl _ (getD_mem (d := (0, 0, ())) i0 hi)
    generalize l'.getD i.toNat (0, 0, ()) = s at hu ⊢
    obtain ⟨d, x, _⟩ := s
    simp only at hu ⊢
    have hk : ∀ (w2 all2 : List Int) (f2 m2 : Int), RL ra all2 f2 m2 w2 → k (ra, l', (l'.length : Int), IntKind.i64.wrap (i + 1), ra, w2, all2, true, f2, m2) = some true := by
      intro w2 all2 f2 m2 k2
      rw [w64 (by omega) (by omega)]
      exact hk hi _ ⟨rfl, rfl, rfl, by simp only; omega, rfl, rfl, k2⟩ rfl
    by_cases hd : d = 0
    · rw [bif_pos hd]
      obtain ⟨a2, c1, c2⟩ := clear_eq h
      rw [c1, Option.bind_some, at_eq c2, Option.bind_some, Rat_eq (by simp), Option.bind_some, cutv_eq]
      unfold L07_RingsPlay_C1 L07_RingsPlay_R1
      simp only
      simp only [decide_true, Bool.not_true, cond_false]
      rw [list_eq c2, Option.bind_some, same_eq [] (by simp), Option.bind_some, cond_tt, len_eq c2, Option.bind_some]
      show cond (!decide ((0 : Int) = 0)) _ _ = _
      rw [bnot_pos rfl, room_eq c2, Option.bind_some]
      simp only [decide_true, Bool.not_true, cond_false]
      exact hk _ _ _ _ c2
    · rw [bif_neg hd, chk_pos (by decide), letv_eq]
      by_cases hd3 : Int.tmod d 3 = 0
      · rw [bif_pos hd3, Rpop_eq h.wl]
        have tail : ∀ (all2 : List Int) (f2 m2 : Int) (w2 : List Int), RL ra all2 f2 m2 w2 → ∀ r16 : (Int × (List Int) × Unit) × Int × Int × Unit, r16.1 = (ra, w2, ()) →
            (Option.bind (rings_Ring_int_At (true, all2, f2, m2, ()) x) fun r17 => Option.bind (R07_At r16.1 x) fun r18 => cutv 2 (L07_RingsPlay_C2 r17 r18 (ra, l', (l'.length : Int), i, ra, w, all, true, f, m) r16) (L07_RingsPlay_R2 k)) = some true := by
          intro all2 f2 m2 w2 c2 r16 hr
          rw [hr, at_eq c2, Option.bind_some, Rat_eq c2.wl, Option.bind_some, cutv_eq]
          unfold L07_RingsPlay_C2 L07_RingsPlay_R2
          rw [hr]
          simp only
          simp only [decide_true, Bool.not_true, cond_false]
          rw [list_eq c2, Option.bind_some, same_eq w2 c2.wl, Option.bind_some, cond_tt, len_eq c2, Option.bind_some, bnot_pos rfl, room_eq c2, Option.bind_some]
          simp only [decide_true, Bool.not_true, cond_false]
          exact hk _ _ _ _ c2
        have hmw := h.mw
        rcases pop_eq h with ⟨q1, q2⟩ | ⟨q1, a2, f2, m2, q2, q3⟩
        · rw [q2, if_pos (by omega), Option.bind_some, Option.bind_some, bnot_pos rfl, bnot_pos rfl]
          exact tail _ _ _ _ h _ rfl
        · rw [q2, if_neg (by omega), Option.bind_some, Option.bind_some, bnot_pos rfl, bnot_pos rfl]
          exact tail _ _ _ _ q3 _ rfl
      · rw [bif_neg hd3, Rpush_eq h.wl]
        have tail : ∀ (all2 : List Int) (f2 m2 : Int) (w2 : List Int), RL ra all2 f2 m2 w2 → ∀ r24 : (Int × (List Int) × Unit) × Int × Unit, r24.1 = (ra, w2, ()) →
            (Option.bind (rings_Ring_int_At (true, all2, f2, m2, ()) x) fun r25 => Option.bind (R07_At r24.1 x) fun r26 => cutv 3 (L07_RingsPlay_C3 r25 r26 (ra, l', (l'.length : Int), i, ra, w, all, true, f, m) r24) (L07_RingsPlay_R3 k)) = some true := by
          intro all2 f2 m2 w2 c2 r24 hr
          rw [hr, at_eq c2, Option.bind_some, Rat_eq c2.wl, Option.bind_some, cutv_eq]
          unfold L07_RingsPlay_C3 L07_RingsPlay_R3
          rw [hr]
          simp only
          simp only [decide_true, Bool.not_true, cond_false]
          rw [list_eq c2, Option.bind_some, same_eq w2 c2.wl, Option.bind_some, cond_tt, len_eq c2, Option.bind_some, bnot_pos rfl, room_eq c2, Option.bind_some]
          simp only [decide_true, Bool.not_true, cond_false]
          exact hk _ _ _ _ c2
        have hmw := h.mw
        rcases push_eq h x with ⟨q1, q2⟩ | ⟨q1, a2, m2, q2, q3⟩
        · rw [q2, if_pos (by omega), Option.bind_some, Option.bind_some, bnot_pos rfl]
          exact tail _ _ _ _ h _ rfl
        · rw [q2, if_neg (by omega), Option.bind_some, Option.bind_some, bnot_pos rfl]
          exact tail _ _ _ _ q3 _ rfl
  · rw [bif_neg hi]
    unfold L07_RingsPlay_J1
    rw [alive]; rfl
end RingsP
theorem law_L07_RingsPlay : ∀ x : ((.pair (.int .i64) (.pair (.sl (.pair (.int .u8) (.pair (.int .i64) .unit))) .unit)) : Ty).den, wfD (.pair (.int .i64) (.pair (.sl (.pair (.int .u8) (.pair (.int .i64) .unit))) .unit)) x → L07_RingsPlay x.1 x.2.1 = some true :=
  fun x hx => RingsP.play x.1 x.2.1 fun y hy => wfu8 (hx.2.1.2 y hy).1
end Go.Proofs.YtoihmfgkmndjfaaV
