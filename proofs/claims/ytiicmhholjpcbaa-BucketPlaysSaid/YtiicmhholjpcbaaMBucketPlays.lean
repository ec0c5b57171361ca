/- BucketPlays: the buckets and the document's go alike. -/
import Derived.Test.YtiicmhholjpcbaaMqueues4
import Derived.Test.YtiicmhholjpcbaaMlists
import Derived.Test.YtiicmhholjpcbaaDBucketPlays
namespace Go.Proofs.YtiicmhholjpcbaaV
set_option linter.unusedVariables false
set_option linter.unusedSimpArgs false
open Go.RowKit
namespace Bp
open QT Qu
theorem alive24 : L24_alive = some true := by decide +kernel
theorem sub_len : ∀ {l L : List Int}, l.Nodup → (∀ a ∈ l, a ∈ L) → l.length ≤ L.length
  | [], L, _, _ => by simp
  | a :: l, L, hn, h => by
    have ha := h a List.mem_cons_self
    have := sub_len (l := l) (L := L.erase a) (List.nodup_cons.1 hn).2 fun b hb => (List.mem_erase_of_ne (fun e => (List.nodup_cons.1 hn).1 (by rw [← e]; exact hb))).2 (h b (List.mem_cons_of_mem _ hb))
    rw [List.length_erase_of_mem ha] at this
    have := List.length_pos_of_mem ha
    simp; omega
theorem getD_set {α : Type} {d : α} {l : List α} {i j : Int} (x : α) (hi : 0 ≤ i ∧ i < (l.length : Int)) (hj : 0 ≤ j) : (l.set i.toNat x).getD j.toNat d = if j = i then x else l.getD j.toNat d := by
  rw [List.getD_eq_getElem?_getD, List.getD_eq_getElem?_getD, List.getElem?_set]
  by_cases h : j = i
  · subst h
    rw [if_pos rfl, if_pos rfl, if_pos (by omega)]; rfl
  · rw [if_neg (by omega), if_neg h]
abbrev Wt := List (List Int)
/-- Where a process is, counted from k on. -/
def wh (P : Int) : Wt → Int → Int × Bool
  | [], _ => (0, false)
  | v :: w, k => if P ∈ v then (k, true) else wh P w (k + 1)
theorem wh_false {P : Int} : ∀ {w : Wt} {k : Int}, P ∉ w.flatten → wh P w k = (0, false)
  | [], k, _ => rfl
  | v :: w, k, h => by
    rw [List.flatten_cons, List.mem_append] at h
    rw [wh, if_neg (fun hm => h (.inl hm)), wh_false fun hm => h (.inr hm)]
theorem wh_true {P : Int} : ∀ {w : Wt} {k : Int}, P ∈ w.flatten → (wh P w k).2 = true
  | [], k, h => by cases h
  | v :: w, k, h => by
    rw [List.flatten_cons, List.mem_append] at h
    rw [wh]
    by_cases hm : P ∈ v
    · rw [if_pos hm]
    · rw [if_neg hm]; exact wh_true (h.resolve_left hm)
/-! ### The reference -/
structure Ok (mn : Int) (w : Wt) : Prop where
  m0 : 0 ≤ mn
  m4 : mn ≤ 4
  len : (w.length : Int) = mn
  nd : w.flatten.Nodup
  rng : ∀ q ∈ w.flatten, 0 ≤ q ∧ q < 16
theorem Ok.tot {mn : Int} {w : Wt} (h : Ok mn w) : w.flatten.length ≤ 16 := by
  have := sub_len (L := upto 16) h.nd fun x hx => by
    have := h.rng x hx
    have hc : x = 0 ∨ x = 1 ∨ x = 2 ∨ x = 3 ∨ x = 4 ∨ x = 5 ∨ x = 6 ∨ x = 7 ∨ x = 8 ∨ x = 9 ∨ x = 10 ∨ x = 11 ∨ x = 12 ∨ x = 13 ∨ x = 14 ∨ x = 15 := by omega
    rcases hc with h | h | h | h | h | h | h | h | h | h | h | h | h | h | h | h <;> subst h <;> decide
  rwa [upto_len] at this
theorem Ok.room {mn : Int} {w : Wt} (h : Ok mn w) {P : Int} (h0 : 0 ≤ P) (h1 : P < 16) (hn : P ∉ w.flatten) : w.flatten.length ≤ 15 := by
  have := sub_len (l := P :: w.flatten) (L := upto 16) (List.nodup_cons.2 ⟨hn, h.nd⟩) fun x hx => by
    have : 0 ≤ x ∧ x < 16 := by
      rcases List.mem_cons.1 hx with rfl | hx
      · exact ⟨h0, h1⟩
      · exact h.rng x hx
    have hc : x = 0 ∨ x = 1 ∨ x = 2 ∨ x = 3 ∨ x = 4 ∨ x = 5 ∨ x = 6 ∨ x = 7 ∨ x = 8 ∨ x = 9 ∨ x = 10 ∨ x = 11 ∨ x = 12 ∨ x = 13 ∨ x = 14 ∨ x = 15 := by omega
    rcases hc with h | h | h | h | h | h | h | h | h | h | h | h | h | h | h | h <;> subst h <;> decide
  rw [upto_len] at this
  simp only [List.length_cons] at this; omega
theorem len_le : ∀ {w : Wt} {k : Nat}, (w.getD k []).length ≤ w.flatten.length
  | [], k => by simp
  | v :: w, 0 => by rw [List.flatten_cons, List.length_append]; show v.length ≤ _; omega
  | v :: w, k + 1 => by
    have := len_le (w := w) (k := k)
    rw [List.flatten_cons, List.length_append]
    show (w.getD k []).length ≤ _
    omega
theorem whereR_eq {mn : Int} {w : Wt} (h : Ok mn w) (P : Int) : R24_Where w P = some ((wh P w 0).1, (wh P w 0).2, ()) := by
  have m4 := h.m4
  have hl := h.len
  have ht := h.tot
  unfold R24_Where
  refine (loop_up (fun y => y) (w.length : Int) (fun y => 0 ≤ y) (fun y => some ((wh P (w.drop y.toNat) y).1, (wh P (w.drop y.toNat) y).2, ())) (Int.le_refl 0) (by omega) ?_).trans (by simp)
  intro k1 i h0 hk
  unfold R24_Where_L2
  by_cases hi : i < (w.length : Int)
  · have hk := hk hi (i + 1) (by omega) rfl
    rw [bif_pos hi, drop_at (d := []) h0 hi, wh]
    obtain ⟨v, hv⟩ : ∃ v, w.getD i.toNat [] = v := ⟨_, rfl⟩
    have hvl : v.length ≤ 16 := by have := len_le (w := w) (k := i.toNat); rw [hv] at this; omega
    rw [hv]
    refine (loop_up (fun y => y) (v.length : Int) (fun y => 0 ≤ y) (fun y => if P ∈ v.drop y.toNat then some (i, true, ()) else k1 (i + 1)) (Int.le_refl 0) (by omega) ?_).trans (by
      simp only [show (0 : Int).toNat = 0 from rfl, List.drop_zero]
      by_cases hm : P ∈ v
      · rw [if_pos hm, if_pos hm]
      · rw [if_neg hm, if_neg hm, hk])
    intro k2 j j0 hk2
    unfold R24_Where_L1
    rw [chk_pos ⟨h0, hi⟩, hv]
    by_cases hj : j < (v.length : Int)
    · have hk2 := hk2 hj (j + 1) (by omega) rfl
      rw [bif_pos hj, chk_pos ⟨h0, hi⟩, chk_pos ⟨j0, hj⟩, drop_at (d := 0) j0 hj, w64 (by omega) (by omega), hk2]
      by_cases he : v.getD j.toNat 0 = P
      · rw [bif_pos he, if_pos (by rw [he]; exact List.mem_cons_self)]
      · rw [bif_neg he]
        have : P ∈ v.getD j.toNat 0 :: v.drop (j + 1).toNat ↔ P ∈ v.drop (j + 1).toNat := by
          rw [List.mem_cons]
          constructor
          · rintro (e | e)
            · exact absurd e.symm he
            · exact e
          · exact .inr
        simp only [this]
    · rw [bif_neg hj, drop_end hj, if_neg (by simp)]
      unfold R24_Where_J3 R24_Where_J2
      rw [w64 (by omega) (by omega)]
  · rw [bif_neg hi, drop_end hi]; rfl
theorem listR_eq (w : Wt) (K : Int) : R24_List w K = some (if 0 ≤ K ∧ K < (w.length : Int) then w.getD K.toNat [] else []) := by
  unfold R24_List
  by_cases h : K < 0
  · rw [bif_pos h, if_neg (by omega)]
  · by_cases h2 : K ≥ (w.length : Int)
    · rw [bif_neg h, bif_pos h2, if_neg (by omega)]
    · rw [bif_neg h, bif_neg h2, chk_pos (by omega), if_pos (by omega)]
theorem flushR_out {w : Wt} {K : Int} (h : ¬ (0 ≤ K ∧ K < (w.length : Int))) : R24_Flush w K = some (w, [], 8, ()) := by
  unfold R24_Flush
  by_cases h1 : K < 0
  · rw [bif_pos h1]
  · rw [bif_neg h1, bif_pos (by omega)]
theorem flushR_in {mn : Int} {w : Wt} (ho : Ok mn w) {K : Int} (h : 0 ≤ K ∧ K < (w.length : Int)) : R24_Flush w K = some (w.set K.toNat [], w.getD K.toNat [], 0, ()) := by
  have := ho.m4
  have := ho.len
  unfold R24_Flush R24_put
  rw [bif_neg (by omega), bif_neg (by omega), chk_pos h, chk_pos (by omega), chk_pos h]; rfl
theorem fallR_out {w : Wt} {K P : Int} (h : ¬ (0 ≤ K ∧ K < (w.length : Int)) ∨ ¬ (0 ≤ P ∧ P ≤ 15)) : R24_Fall w K P = some (w, 8, ()) := by
  unfold R24_Fall
  by_cases h1 : K < 0
  · rw [bif_pos h1]
  · rw [bif_neg h1]
    by_cases h2 : K ≥ (w.length : Int)
    · rw [bif_pos h2]
    · rw [bif_neg h2]
      by_cases h3 : P < 0
      · rw [bif_pos h3]
      · rw [bif_neg h3, bif_pos (by omega)]
theorem fallR_there {mn : Int} {w : Wt} (ho : Ok mn w) {K P : Int} (h : 0 ≤ K ∧ K < (w.length : Int)) (hp : 0 ≤ P ∧ P ≤ 15) (hm : P ∈ w.flatten) : R24_Fall w K P = some (w, 7, ()) := by
  unfold R24_Fall
  rw [bif_neg (by omega), bif_neg (by omega), bif_neg (by omega), bif_neg (by omega), whereR_eq ho, wh_true hm]; rfl
theorem fallR_in {mn : Int} {w : Wt} (ho : Ok mn w) {K P : Int} (h : 0 ≤ K ∧ K < (w.length : Int)) (hp : 0 ≤ P ∧ P ≤ 15) (hm : P ∉ w.flatten) : R24_Fall w K P = some (w.set K.toNat (w.getD K.toNat [] ++ [P]), 0, ()) := by
  have := ho.m4
  have := ho.len
  have := ho.tot
  have := len_le (w := w) (k := K.toNat)
  unfold R24_Fall
  rw [bif_neg (by omega), bif_neg (by omega), bif_neg (by omega), bif_neg (by omega), whereR_eq ho, wh_false hm]
  refine bind_t ((cond_f _ _).trans ?_)
  unfold R24_put
  rw [chk_pos h, chk_pos (by omega), chk_pos (by simp only [List.length_cons, List.length_nil]; omega), chk_pos (by omega), chk_pos h]; rfl
theorem flat_set : ∀ {w : Wt} {k : Nat} {v : List Int}, k < w.length → (w.set k v).flatten.Perm (v ++ (w.set k []).flatten) ∧ w.flatten.Perm (w.getD k [] ++ (w.set k []).flatten)
  | [], k, v, h => by simp at h
  | u :: w, 0, v, _ => ⟨by simp, by simp⟩
  | u :: w, k + 1, v, h => by
    obtain ⟨h1, h2⟩ := flat_set (w := w) (k := k) (v := v) (by simp at h; omega)
    have e : (u :: w).getD (k + 1) [] = w.getD k [] := rfl
    rw [e]
    constructor
    · show (u ++ (w.set k v).flatten).Perm (v ++ (u ++ (w.set k []).flatten))
      exact (List.Perm.append_left u h1).trans ((List.append_assoc u v _ ▸ List.append_assoc v u _ ▸ List.Perm.append_right _ List.perm_append_comm))
    · show (u ++ w.flatten).Perm (w.getD k [] ++ (u ++ (w.set k []).flatten))
      exact (List.Perm.append_left u h2).trans ((List.append_assoc u (w.getD k []) _ ▸ List.append_assoc (w.getD k []) u _ ▸ List.Perm.append_right _ List.perm_append_comm))
theorem Ok.flush {mn : Int} {w : Wt} (h : Ok mn w) {K : Int} (hK : 0 ≤ K ∧ K < (w.length : Int)) : Ok mn (w.set K.toNat []) := by
  have hp := (flat_set (w := w) (k := K.toNat) (v := []) (by omega)).2
  refine ⟨h.m0, h.m4, by rw [List.length_set]; exact h.len, ?_, fun q hq => h.rng q (hp.mem_iff.2 (List.mem_append_right _ hq))⟩
  have := hp.nodup_iff.1 h.nd
  rw [List.nodup_append] at this
  exact this.2.1
theorem Ok.fall {mn : Int} {w : Wt} (h : Ok mn w) {K P : Int} (hK : 0 ≤ K ∧ K < (w.length : Int)) (hp : 0 ≤ P ∧ P ≤ 15) (hm : P ∉ w.flatten) : Ok mn (w.set K.toNat (w.getD K.toNat [] ++ [P])) := by
  obtain ⟨h1, h2⟩ := flat_set (w := w) (k := K.toNat) (v := w.getD K.toNat [] ++ [P]) (by omega)
  have h3 : (w.set K.toNat (w.getD K.toNat [] ++ [P])).flatten.Perm (P :: w.flatten) := by
    refine h1.trans ?_
    rw [List.append_assoc]
    refine (List.perm_middle (l₁ := w.getD K.toNat []) (a := P)).trans ?_
    exact List.Perm.cons P h2.symm
  refine ⟨h.m0, h.m4, by rw [List.length_set]; exact h.len, ?_, fun q hq => ?_⟩
  · rw [h3.nodup_iff, List.nodup_cons]; exact ⟨hm, h.nd⟩
  · rcases List.mem_cons.1 (h3.mem_iff.1 hq) with rfl | hq
    · omega
    · exact h.rng q hq
/-! ### Both -/
structure Bth (mn : Int) (w : Wt) (x : Pl) (ps : List (List Int)) (po : List Int) : Prop where
  ok : Ok mn w
  fit : Fit x ps po
  n : x.1.length = 16
  p : (ps.length : Int) = mn + 1
  v : vals x ps = w ++ [[]]
theorem Bth.get {mn : Int} {w : Wt} {x : Pl} {ps : List (List Int)} {po : List Int} (h : Bth mn w x ps po) {K : Int} (h0 : 0 ≤ K) (h1 : K < mn) : (vals x ps).getD K.toNat [] = w.getD K.toNat [] := by
  have := h.ok.len
  rw [h.v, List.getD_eq_getElem?_getD, List.getElem?_append_left (by omega), ← List.getD_eq_getElem?_getD]
theorem Bth.set {mn : Int} {w : Wt} {x : Pl} {ps : List (List Int)} {po : List Int} (h : Bth mn w x ps po) {K : Int} (h0 : 0 ≤ K) (h1 : K < mn) (u : List Int) : (vals x ps).set K.toNat u = w.set K.toNat u ++ [[]] := by
  have := h.ok.len
  rw [h.v, List.set_append_left _ _ (by omega)]
theorem Bth.list {mn : Int} {w : Wt} {x : Pl} {ps : List (List Int)} {po : List Int} (h : Bth mn w x ps po) {K : Int} (h0 : 0 ≤ K) (h1 : K < mn) : queue_Pool_List x K = some (x, (w.getD K.toNat [], ())) ∧ (w.getD K.toNat []).length ≤ 16 := by
  have := h.p
  obtain ⟨e1, e2⟩ := list_val (q := K) h.fit h0 (by omega)
  rw [h.get h0 h1] at e1
  have := h.ok.tot
  have := len_le (w := w) (k := K.toNat)
  exact ⟨e1, by omega⟩
abbrev Ls := List (Bool × Int × Int × Unit)
abbrev S11 := Int × List (List Int) × (List (Bool × Int × Int × Unit)) × Int × Int × Int × (List (Int × Int × Unit)) × Int × Int × Int × (List (Int × Int × Int × Unit))
def sb (mn : Int) (w : Wt) (l : Ls) (i : Int) (x : Pl) : S11 := (mn, w, l, (l.length : Int), i, mn, x.1, x.2.2.1.1, x.2.2.1.2.1, x.2.2.1.2.2.1, x.2.1)
theorem x_eta (x : Pl) : (x.1, x.2.1, (x.2.2.1.1, x.2.2.1.2.1, x.2.2.1.2.2.1, ()), ()) = x := rfl
theorem where_eq {mn : Int} {w : Wt} {x : Pl} {ps : List (List Int)} {po : List Int} (h : Bth mn w x ps po) (l : Ls) (i : Int) (fl : Bool) (K P : Int) (k2 : Int × List (List Int) × Ls × Int × Int × Int × Bool × Bool × Int × Int × Int × (List (Int × Int × Unit)) × Int × Int × Int × (List (Int × Int × Int × Unit)) → Option Bool) :
    L24_BucketPlays_C2 mn w l (l.length : Int) i P mn fl K x.1 x.2.2.1.1 x.2.2.1.2.1 x.2.2.1.2.2.1 x.2.1 k2 = k2 (mn, w, l, (l.length : Int), i, (wh P w 0).1, (wh P w 0).2, fl, K, P, mn, x.1, x.2.2.1.1, x.2.2.1.2.1, x.2.2.1.2.2.1, x.2.1) := by
  have m4 := h.ok.m4
  have hl := h.ok.len
  unfold L24_BucketPlays_C2
  refine (loop_up (fun (y : Int × Int × Int × Bool × Int × Int × Int × (List (Int × Int × Unit)) × Int × Int × Int × (List (Int × Int × Int × Unit))) => y.2.2.1) mn (fun y => 0 ≤ y.2.2.1 ∧ y = (P, mn, y.2.2.1, fl, K, P, mn, x.1, x.2.2.1.1, x.2.2.1.2.1, x.2.2.1.2.2.1, x.2.1)) (fun y => k2 (mn, w, l, (l.length : Int), i, (wh P (w.drop y.2.2.1.toNat) y.2.2.1).1, (wh P (w.drop y.2.2.1.toNat) y.2.2.1).2, fl, K, P, mn, x.1, x.2.2.1.1, x.2.2.1.2.1, x.2.2.1.2.2.1, x.2.1)) ⟨Int.le_refl 0, rfl⟩ (by show mn - 0 < _; omega) ?_).trans (by simp)
  rintro k3 y ⟨j0, hy⟩ hk
  obtain ⟨j, hj'⟩ : ∃ j, y.2.2.1 = j := ⟨_, rfl⟩
  rw [hj'] at j0 hy hk ⊢
  subst hy
  unfold L24_BucketPlays_L1
  dsimp only
  by_cases hj : j < mn
  · obtain ⟨e1, e2⟩ := h.list j0 hj
    rw [bif_pos hj, cutv_eq]
    unfold L24_BucketPlays_C1
    dsimp only
    rw [bif_pos (show j ≥ 0 from j0), decide_eq_true hj]
    refine (cond_tt _ _).trans ?_
    rw [x_eta, e1]
    refine bind_t ?_
    dsimp only
    rw [lists.contains_eq _ _ (by omega)]
    refine bind_t ?_
    unfold L24_BucketPlays_R1
    dsimp only
    rw [drop_at (d := []) j0 (by omega), wh]
    by_cases hm : P ∈ w.getD j.toNat []
    · rw [bif_pos hm, if_pos hm]
    · rw [bif_neg hm, if_neg hm, w64 (by omega) (by omega)]
      exact hk hj _ ⟨by show 0 ≤ j + 1; omega, rfl⟩ rfl
  · rw [bif_neg hj, drop_end (by omega)]
    rfl
theorem tail_eq {mn : Int} {w : Wt} {x : Pl} {ps : List (List Int)} {po : List Int} (h : Bth mn w x ps po) (l : Ls) {i : Int} (h0 : 0 ≤ i) (h1 : i < 140737488355328) (fl : Bool) (K P : Int) (k : S11 → Option Bool) :
    L24_BucketPlays_J3 k mn w l (l.length : Int) i fl K P mn x.1 x.2.2.1.1 x.2.2.1.2.1 x.2.2.1.2.2.1 x.2.1 = k (sb mn w l (i + 1) x) := by
  unfold L24_BucketPlays_J3
  rw [cutv_eq, where_eq h]
  unfold L24_BucketPlays_R2
  dsimp only
  rw [whereR_eq h.ok]
  refine bind_t ?_
  rw [cutv_eq]
  unfold L24_BucketPlays_C3
  dsimp only
  rw [bnot_pos rfl, beq_self_eq_true]
  refine (cond_tt _ _).trans ?_
  have fin : L24_BucketPlays_R3 k (mn, w, l, (l.length : Int), i, !decide (mn = mn), mn, x.1, x.2.2.1.1, x.2.2.1.2.1, x.2.2.1.2.2.1, x.2.1) = k (sb mn w l (i + 1) x) := by
    unfold L24_BucketPlays_R3
    dsimp only
    rw [decide_eq_true rfl]
    refine (cond_f _ _).trans ?_
    rw [w64 (by omega) (by omega)]; rfl
  have hl := h.ok.len
  rw [listR_eq]
  by_cases hK : K ≥ 0
  · rw [bif_pos hK, letv_eq]
    by_cases hK2 : K < mn
    · obtain ⟨e1, e2⟩ := h.list hK hK2
      rw [decide_eq_true hK2]
      refine (cond_tt _ _).trans ?_
      rw [x_eta, e1, if_pos (by omega)]
      refine bind_t (bind_t ?_)
      dsimp only
      rw [lists.same_eq _ _ (by omega), decide_eq_true rfl]
      exact bind_t ((cond_tt _ _).trans fin)
    · rw [decide_eq_false hK2]
      refine (cond_ff _ _).trans ?_
      rw [if_neg (by omega)]
      refine bind_t ?_
      rw [lists.same_eq _ _ (by simp), decide_eq_true rfl]
      exact bind_t ((cond_tt _ _).trans fin)
  · rw [bif_neg hK, if_neg (by omega)]
    refine bind_t ?_
    rw [lists.same_eq _ _ (by simp), decide_eq_true rfl]
    exact bind_t ((cond_tt _ _).trans fin)
/-! ### A step -/
theorem fall_eq {mn : Int} {w : Wt} {x : Pl} {ps : List (List Int)} {po : List Int} (h : Bth mn w x ps po) (l : Ls) {i : Int} (h0 : 0 ≤ i) (h1 : i < 140737488355328) (k : S11 → Option Bool) :
    ∃ w' x' ps' po', Bth mn w' x' ps' po' ∧ cutv 6 (L24_BucketPlays_C6 (sb mn w l i x)) (L24_BucketPlays_R6 k) = k (sb mn w' l (i + 1) x') := by
  rw [cutv_eq]
  unfold L24_BucketPlays_C6
  rw [cutv_eq]
  unfold L24_BucketPlays_C4 sb
  dsimp only
  obtain ⟨z, hz⟩ : ∃ z, l.getD i.toNat (false, 0, 0, ()) = z := ⟨_, rfl⟩
  rw [hz]
  obtain ⟨fl, K, P, _⟩ := z
  dsimp only
  have m4 := h.ok.m4
  have hl := h.ok.len
  have out : ¬ (0 ≤ K ∧ K < mn) ∨ ¬ (0 ≤ P ∧ P ≤ 15) → ∃ w' x' ps' po', Bth mn w' x' ps' po' ∧ L24_BucketPlays_R4 (L24_BucketPlays_R6 k) (sb mn w l i x) (K, P, true, fl, K, P, mn, x.1, x.2.2.1.1, x.2.2.1.2.1, x.2.2.1.2.2.1, x.2.1) = k (sb mn w' l (i + 1) x') := by
    intro ho
    refine ⟨w, x, ps, po, h, ?_⟩
    unfold L24_BucketPlays_R4 sb
    dsimp only
    refine (cond_t _ _).trans ?_
    unfold L24_BucketPlays_R6
    dsimp only
    rw [fallR_out (by rw [hl]; exact ho)]
    refine bind_t ((bnot_pos (show (8 : Int) = 8 from rfl)).trans ?_)
    exact tail_eq h l h0 h1 fl K P k
  by_cases hK : K ≥ 0
  · rw [bif_pos hK, letv_eq]
    by_cases hK2 : K < mn
    · rw [decide_eq_true hK2]
      have hin : 0 ≤ P → (Bool.decEq (decide (P ≥ 16)) true).decide = decide (P ≥ 16) → ∃ w' x' ps' po', Bth mn w' x' ps' po' ∧ L24_BucketPlays_R4 (L24_BucketPlays_R6 k) (sb mn w l i x) (K, P, decide (P ≥ 16), fl, K, P, mn, x.1, x.2.2.1.1, x.2.2.1.2.1, x.2.2.1.2.2.1, x.2.1) = k (sb mn w' l (i + 1) x') := by
        intro hP0 _
        by_cases hP : P ≥ 16
        · rw [decide_eq_true hP]; exact out (.inr (by omega))
        · have hPr : 0 ≤ P ∧ P ≤ 15 := by omega
          have hKr : 0 ≤ K ∧ K < (w.length : Int) := by omega
          rw [decide_eq_false hP]
          -- where it is
          have loopE : ∀ kk, (∀ y, y = (P, mn, mn, fl, K, P, mn, x.1, x.2.2.1.1, x.2.2.1.2.1, x.2.2.1.2.2.1, x.2.1) → True) → loop (L24_BucketPlays_L5 kk (sb mn w l i x) (K, P, false, fl, K, P, mn, x.1, x.2.2.1.1, x.2.2.1.2.1, x.2.2.1.2.2.1, x.2.1)) (P, mn, 0, fl, K, P, mn, x.1, x.2.2.1.1, x.2.2.1.2.1, x.2.2.1.2.2.1, x.2.1) =
              if P ∈ w.flatten then kk (mn, w, l, (l.length : Int), i, 7, fl, K, P, mn, x.1, x.2.2.1.1, x.2.2.1.2.1, x.2.2.1.2.2.1, x.2.1) else L24_BucketPlays_J7 (K, P, false, fl, K, P, mn, x.1, x.2.2.1.1, x.2.2.1.2.1, x.2.2.1.2.2.1, x.2.1) kk (sb mn w l i x) fl K P mn x.1 x.2.2.1.1 x.2.2.1.2.1 x.2.2.1.2.2.1 x.2.1 := by
            intro kk _
            refine (loop_up (fun (y : Int × Int × Int × Bool × Int × Int × Int × (List (Int × Int × Unit)) × Int × Int × Int × (List (Int × Int × Int × Unit))) => y.2.2.1) mn (fun y => 0 ≤ y.2.2.1 ∧ y = (P, mn, y.2.2.1, fl, K, P, mn, x.1, x.2.2.1.1, x.2.2.1.2.1, x.2.2.1.2.2.1, x.2.1)) (fun y => if P ∈ (w.drop y.2.2.1.toNat).flatten then kk (mn, w, l, (l.length : Int), i, 7, fl, K, P, mn, x.1, x.2.2.1.1, x.2.2.1.2.1, x.2.2.1.2.2.1, x.2.1) else L24_BucketPlays_J7 (K, P, false, fl, K, P, mn, x.1, x.2.2.1.1, x.2.2.1.2.1, x.2.2.1.2.2.1, x.2.1) kk (sb mn w l i x) fl K P mn x.1 x.2.2.1.1 x.2.2.1.2.1 x.2.2.1.2.2.1 x.2.1) ⟨Int.le_refl 0, rfl⟩ (by show mn - 0 < _; omega) ?_).trans (by simp)
            rintro k3 y ⟨j0, hy⟩ hk
            obtain ⟨j, hj'⟩ : ∃ j, y.2.2.1 = j := ⟨_, rfl⟩
            rw [hj'] at j0 hy hk ⊢
            subst hy
            unfold L24_BucketPlays_L5
            dsimp only
            by_cases hj : j < mn
            · obtain ⟨e1, e2⟩ := h.list j0 hj
              rw [bif_pos hj, cutv_eq]
              unfold L24_BucketPlays_C5
              dsimp only
              rw [bif_pos (show j ≥ 0 from j0), decide_eq_true hj]
              refine (cond_tt _ _).trans ?_
              rw [x_eta, e1]
              refine bind_t ?_
              dsimp only
              rw [lists.contains_eq _ _ (by omega)]
              refine bind_t ?_
              unfold L24_BucketPlays_R5
              dsimp only
              rw [drop_at (d := []) j0 (by omega), List.flatten_cons]
              by_cases hm : P ∈ w.getD j.toNat []
              · rw [bif_pos hm, if_pos (List.mem_append_left _ hm)]; rfl
              · rw [bif_neg hm, w64 (by omega) (by omega)]
                have : P ∈ w.getD j.toNat [] ++ (w.drop (j + 1).toNat).flatten ↔ P ∈ (w.drop (j + 1).toNat).flatten := by
                  rw [List.mem_append]
                  exact ⟨fun h => h.resolve_left hm, .inr⟩
                simp only [this]
                exact hk hj _ ⟨by show 0 ≤ j + 1; omega, rfl⟩ rfl
            · rw [bif_neg hj, drop_end (by omega), if_neg (by simp)]
          unfold L24_BucketPlays_R4
          dsimp only
          rw [cond_f, loopE _ (fun _ _ => trivial)]
          by_cases hm : P ∈ w.flatten
          · refine ⟨w, x, ps, po, h, ?_⟩
            rw [if_pos hm]
            unfold L24_BucketPlays_R6
            dsimp only
            rw [fallR_there h.ok hKr hPr hm]
            refine bind_t ((bnot_pos (show (7 : Int) = 7 from rfl)).trans ?_)
            exact tail_eq h l h0 h1 fl K P k
          · have ht := h.fit.tot
            have hr := h.ok.room hPr.1 (by omega) hm
            have hn := h.n
            have hp := h.p
            have hpo : po ≠ [] := fun e => by
              have e1 : tot (vals x ps) = w.flatten.length := by
                rw [h.v]
                have : ∀ w : Wt, tot (w ++ [[]]) = w.flatten.length := by
                  intro w
                  induction w with
                  | nil => rfl
                  | cons v w ih => simp only [List.cons_append, tot, ih, List.flatten_cons, List.length_append]; omega
                exact this w
              rw [e1, e] at ht
              simp only [List.length_nil] at ht
              omega
            obtain ⟨x', ps', po', f1, f2, f3, f4, f5, f6⟩ := push_val (v := P) h.fit hK (by omega) hpo
            rw [h.get hK hK2, h.set hK hK2] at f6
            have hb : Bth mn (w.set K.toNat (w.getD K.toNat [] ++ [P])) x' ps' po' := ⟨h.ok.fall hKr hPr hm, f1, by omega, by omega, f6⟩
            refine ⟨_, x', ps', po', hb, ?_⟩
            rw [if_neg hm]
            unfold L24_BucketPlays_J7
            dsimp only
            rw [x_eta, f5]
            refine bind_t ?_
            unfold L24_BucketPlays_R6 sb
            dsimp only
            rw [fallR_in h.ok hKr hPr hm]
            refine bind_t ((bnot_pos (show (0 : Int) = 0 from rfl)).trans ?_)
            exact tail_eq hb l h0 h1 fl K P k
      by_cases hP0 : P < 0
      · obtain ⟨w', x', ps', po', hb, e⟩ := out (.inr (by omega))
        refine ⟨w', x', ps', po', hb, ?_⟩
        refine (cond_tt _ _).trans ((bif_pos hP0).trans ?_)
        exact e
      · obtain ⟨w', x', ps', po', hb, e⟩ := hin (by omega) (by cases decide (P ≥ 16) <;> rfl)
        refine ⟨w', x', ps', po', hb, ?_⟩
        refine (cond_tt _ _).trans ((bif_neg hP0).trans ?_)
        rw [letv_eq]
        exact e
    · obtain ⟨w', x', ps', po', hb, e⟩ := out (.inl (by omega))
      refine ⟨w', x', ps', po', hb, ?_⟩
      rw [decide_eq_false hK2]
      exact (cond_ff _ _).trans e
  · obtain ⟨w', x', ps', po', hb, e⟩ := out (.inl (by omega))
    refine ⟨w', x', ps', po', hb, ?_⟩
    rw [bif_neg hK]
    exact e
theorem flush_eq {mn : Int} {w : Wt} {x : Pl} {ps : List (List Int)} {po : List Int} (h : Bth mn w x ps po) (l : Ls) {i : Int} (h0 : 0 ≤ i) (h1 : i < 140737488355328) {fl : Bool} {K P : Int} (hK : 0 ≤ K) (hK2 : K < mn) (k : S11 → Option Bool) :
    ∃ w' x' ps' po', Bth mn w' x' ps' po' ∧ (Option.bind (queue_Pool_List x K) fun r28 =>
              loop (L24_BucketPlays_L3 (r28.2.1.length : Int) K (sb mn w l i x) k fl P r28) (0, r28.1.1, r28.1.2.2.1.1, r28.1.2.2.1.2.1, r28.1.2.2.1.2.2.1, r28.1.2.1)) = k (sb mn w' l (i + 1) x') := by
  have hl := h.ok.len
  have hp := h.p
  have m4 := h.ok.m4
  have hKr : 0 ≤ K ∧ K < (w.length : Int) := by omega
  obtain ⟨e1, e2⟩ := h.list hK hK2
  -- the pool behind j pops
  have pops : ∀ j : Nat, j ≤ (w.getD K.toNat []).length → ∃ x' ps' po', Fit x' ps' po' ∧ x'.1.length = 16 ∧ (ps'.length : Int) = mn + 1 ∧ vals x' ps' = w.set K.toNat ((w.getD K.toNat []).drop j) ++ [[]] ∧ ∀ r28 : Pl × ((List Int) × Unit), r28.2.1 = w.getD K.toNat [] → ∀ n, j < n → fixN (L24_BucketPlays_L3 (r28.2.1.length : Int) K (sb mn w l i x) k fl P r28) n (0, x.1, x.2.2.1.1, x.2.2.1.2.1, x.2.2.1.2.2.1, x.2.1) = fixN (L24_BucketPlays_L3 (r28.2.1.length : Int) K (sb mn w l i x) k fl P r28) (n - j) ((j : Int), x'.1, x'.2.2.1.1, x'.2.2.1.2.1, x'.2.2.1.2.2.1, x'.2.1) := by
    intro j
    induction j with
    | zero =>
      intro _
      refine ⟨x, ps, po, h.fit, h.n, h.p, ?_, fun r28 hr n hn => rfl⟩
      rw [List.drop_zero]
      obtain ⟨a, z, b, e, ea, ez⟩ := split_at (d := []) (s := w) hKr.1 hKr.2
      rw [ez]
      rw [h.v]
      congr 1
      conv => rhs; rw [e, set_mid ea]
      exact e
    | succ j ih =>
      intro hj
      obtain ⟨x', ps', po', f1, f2, f3, f4, f5⟩ := ih (by omega)
      have hg : (vals x' ps').getD K.toNat [] = (w.getD K.toNat []).getD j 0 :: (w.getD K.toNat []).drop (j + 1) := by
        rw [f4, List.getD_eq_getElem?_getD, List.getElem?_append_left (by rw [List.length_set]; omega), ← List.getD_eq_getElem?_getD, getD_set _ hKr hKr.1, if_pos rfl]
        have := drop_at (d := 0) (xs := w.getD K.toNat []) (i := (j : Int)) (by omega) (by omega)
        simpa using this
      obtain ⟨x2, ps2, po2, g1, g2, g3, g4, g5⟩ := pop_val f1 hK (by omega) hg
      refine ⟨x2, ps2, po2, g1, by omega, by omega, ?_, fun r28 hr n hn => ?_⟩
      · rw [g5, f4, List.set_append_left _ _ (by rw [List.length_set]; omega), List.set_set]
      · rw [f5 r28 hr n (by omega)]
        obtain ⟨m, hm⟩ : ∃ m, n - j = m + 1 := ⟨n - j - 1, by omega⟩
        rw [hm, show n - (j + 1) = m by omega]
        show L24_BucketPlays_L3 _ K _ k fl P r28 (fixN (L24_BucketPlays_L3 (r28.2.1.length : Int) K (sb mn w l i x) k fl P r28) m) _ = _
        obtain ⟨kk, hkk⟩ : ∃ kk, fixN (L24_BucketPlays_L3 (r28.2.1.length : Int) K (sb mn w l i x) k fl P r28) m = kk := ⟨_, rfl⟩
        rw [hkk]
        unfold L24_BucketPlays_L3
        dsimp only
        rw [bif_pos (show (j : Int) < (r28.2.1.length : Int) by rw [hr]; omega), x_eta, g4]
        refine bind_t ((bnot_pos (show (0 : Int) = 0 from rfl)).trans ?_)
        rw [w64 (by omega) (by omega)]; rfl
  obtain ⟨x', ps', po', f1, f2, f3, f4, f5⟩ := pops _ (Nat.le_refl _)
  rw [List.drop_of_length_le (Nat.le_refl _)] at f4
  have hb : Bth mn (w.set K.toNat []) x' ps' po' := ⟨h.ok.flush hKr, f1, f2, f3, f4⟩
  refine ⟨_, x', ps', po', hb, ?_⟩
  rw [e1]
  refine bind_t ?_
  dsimp only
  have hstart := f5 (x, (w.getD K.toNat [], ())) rfl FUEL (by rw [FUEL_eq]; omega)
  unfold loop
  refine hstart.trans ?_
  obtain ⟨m, hm⟩ : ∃ m, FUEL - (w.getD K.toNat []).length = m + 1 := ⟨FUEL - (w.getD K.toNat []).length - 1, by rw [FUEL_eq]; omega⟩
  rw [hm]
  show L24_BucketPlays_L3 _ K _ k fl P _ (fixN _ m) _ = _
  generalize fixN (L24_BucketPlays_L3 _ K (sb mn w l i x) k fl P _) m = kk
  unfold L24_BucketPlays_L3
  dsimp only
  rw [bif_neg (by omega)]
  unfold L24_BucketPlays_J5 sb
  dsimp only
  rw [flushR_in h.ok hKr]
  refine bind_t ?_
  dsimp only
  rw [lists.same_eq _ _ (by omega), decide_eq_true rfl]
  refine bind_t ((cond_tt _ _).trans ?_)
  rw [bnot_pos rfl]
  exact tail_eq hb l h0 h1 fl K P k
theorem loop_eq {mn : Int} {w : Wt} {x : Pl} {ps : List (List Int)} {po : List Int} (h : Bth mn w x ps po) (l : Ls) (hl : l.length ≤ 140737488355328) : loop L24_BucketPlays_L6 (sb mn w l 0 x) = some true := by
  refine loop_up (fun (y : S11) => y.2.2.2.2.1) (l.length : Int) (fun (y : S11) => 0 ≤ y.2.2.2.2.1 ∧ ∃ w x ps po, Bth mn w x ps po ∧ y = sb mn w l y.2.2.2.2.1 x) (fun _ => some true) ⟨Int.le_refl 0, w, x, ps, po, h, rfl⟩ (by show (l.length : Int) - 0 < _; omega) ?_
  rintro k y ⟨h0, w, x, ps, po, hs, hy⟩ hk
  obtain ⟨i, hi⟩ : ∃ i, y.2.2.2.2.1 = i := ⟨_, rfl⟩
  rw [hi] at h0 hy hk
  subst hy
  have fin : i < (l.length : Int) → ∀ {A : Option Bool}, (∃ w' x' ps' po', Bth mn w' x' ps' po' ∧ A = k (sb mn w' l (i + 1) x')) → A = some true := by
    rintro hj A ⟨w', x', ps', po', hb, e⟩
    rw [e]
    exact hk hj _ ⟨by show 0 ≤ i + 1; omega, w', x', ps', po', hb, rfl⟩ rfl
  unfold L24_BucketPlays_L6
  by_cases hj : i < (l.length : Int)
  · refine (bif_pos (show (sb mn w l i x).2.2.2.2.1 < (sb mn w l i x).2.2.2.1 from hj)).trans ?_
    rw [chk_pos (show 0 ≤ (sb mn w l i x).2.2.2.2.1 ∧ (sb mn w l i x).2.2.2.2.1 < ((sb mn w l i x).2.2.1.length : Int) from ⟨h0, hj⟩)]
    obtain ⟨z, hz⟩ : ∃ z, l.getD i.toNat (false, 0, 0, ()) = z := ⟨_, rfl⟩
    rw [show (sb mn w l i x).2.2.1.getD (sb mn w l i x).2.2.2.2.1.toNat (false, 0, 0, ()) = z from hz]
    obtain ⟨fl, K, P, _⟩ := z
    have hln := hs.ok.len
    have out : ¬ (0 ≤ K ∧ K < mn) → (Option.bind (R24_Flush w K) fun r24 =>
          Option.bind (R02_Same [] r24.2.1) fun r25 =>
          bif !r25 then
            some false
          else
            bif !decide (8 = r24.2.2.1) then
              some false
            else
              L24_BucketPlays_J3 k mn r24.1 l (l.length : Int) i fl K P mn x.1 x.2.2.1.1 x.2.2.1.2.1 x.2.2.1.2.2.1 x.2.1) = some true := by
      intro ho
      refine fin hj ⟨w, x, ps, po, hs, ?_⟩
      rw [flushR_out (by rw [hln]; exact ho)]
      refine bind_t ?_
      dsimp only
      rw [lists.same_eq _ _ (by simp), decide_eq_true rfl]
      refine bind_t ((cond_tt _ _).trans ((bnot_pos rfl).trans ?_))
      exact tail_eq hs l h0 (by omega) fl K P k
    cases fl with
    | false =>
      refine (cond_f _ _).trans ?_
      exact fin hj (fall_eq hs l h0 (by omega) k)
    | true =>
      refine (cond_t _ _).trans ?_
      unfold sb
      dsimp only
      by_cases hK : K ≥ 0
      · rw [bif_pos hK, letv_eq]
        by_cases hK2 : K < mn
        · rw [decide_eq_true hK2]
          refine (cond_tt _ _).trans ?_
          rw [bif_pos hK, letv_eq]
          refine (cond_tt _ _).trans ?_
          rw [x_eta]
          exact fin hj (flush_eq hs l h0 (by omega) hK hK2 k)
        · rw [decide_eq_false hK2]
          refine (cond_ff _ _).trans ?_
          exact out (by omega)
      · rw [bif_neg hK]
        exact out (by omega)
  · refine (bif_neg (show ¬ (sb mn w l i x).2.2.2.2.1 < (sb mn w l i x).2.2.2.1 from hj)).trans ?_
    unfold L24_BucketPlays_J1
    rw [alive24]; rfl
theorem new_R {mn : Int} (h0 : 0 ≤ mn) (h1 : mn ≤ 4) : R24_New mn = some (List.replicate mn.toNat [], 0, ()) := by
  unfold R24_New
  rw [bif_neg (by omega), bif_neg (by omega), chk_pos (by omega)]
theorem nodes_eq {mn : Int} (l : Ls) (hl : l.length ≤ 140737488355328) (h0 : 0 ≤ mn) (h4 : mn ≤ 4) :
    loop (L24_BucketPlays_L7 16 mn l (List.replicate (mn + 1).toNat (-1, -1, 0, ()))) (0, List.replicate 16 (0, 0, ()), -1, -1, 0) = some true := by
  refine loop_up (fun y => y.1) 16 (fun y => 0 ≤ y.1 ∧ y.1 ≤ 16 ∧ (y.2.1.length : Int) = 16 ∧ Rep y.2.1 (upto y.1.toNat) (y.2.2.1, y.2.2.2.1, y.2.2.2.2, ())) (fun _ => some true) ⟨by simp, by show (0 : Int) ≤ 16; decide, by rw [List.length_replicate]; rfl, rep_nil _⟩ (by show (16 : Int) - 0 < _; decide) ?_
  rintro k ⟨i, ns, f, z, m⟩ ⟨i0, hi, hn, hr⟩ hk
  dsimp only at i0 hi hn hr hk
  unfold L24_BucketPlays_L7
  dsimp only
  by_cases hj : i < 16
  · rw [bif_pos hj]
    refine (hang_step k hr i0 (by omega) (by omega)).trans ?_
    exact hk hj _ ⟨by dsimp only; omega, by dsimp only; omega, by dsimp only; rw [hang_len]; exact hn, hang_next hr i0 (by omega)⟩ rfl
  · rw [bif_neg hj]
    unfold L24_BucketPlays_J8
    rw [new_R h0 h4]
    refine bind_t ((bnot_pos (show (0 : Int) = 0 from rfl)).trans ?_)
    have e : i.toNat = ns.length := by omega
    rw [e] at hr
    have hf := new_fit (q := (mn + 1).toNat) hr (by omega) (by omega) (by omega)
    have hb : Bth mn (List.replicate mn.toNat []) (ns, List.replicate (mn + 1).toNat (-1, -1, 0, ()), (f, z, m, ()), ()) _ _ := ⟨⟨h0, h4, by simp; omega, by rw [flat_nil]; exact List.nodup_nil, fun q hq => by rw [flat_nil] at hq; cases hq⟩, hf, by show ns.length = 16; omega, by simp; omega, by rw [new_vals, show (mn + 1).toNat = mn.toNat + 1 by omega, repl_snoc]⟩
    exact loop_eq hb l hl
theorem lines_eq {mn : Int} (l : Ls) (hl : l.length ≤ 140737488355328) (h0 : 0 ≤ mn) (h4 : mn ≤ 4) :
    loop (L24_BucketPlays_L8 (mn + 1) (List.replicate 16 (0, 0, ())) mn l) (0, []) = some true := by
  refine loop_up (fun y => y.1) (mn + 1) (fun y => 0 ≤ y.1 ∧ y.1 ≤ mn + 1 ∧ y.2 = List.replicate y.1.toNat (-1, -1, 0, ())) (fun _ => some true) ⟨by simp, by dsimp only; omega, rfl⟩ (by show mn + 1 - 0 < _; omega) ?_
  rintro k ⟨i, ls⟩ ⟨i0, hi, hn⟩ hk
  dsimp only at i0 hi hn hk
  subst hn
  unfold L24_BucketPlays_L8
  dsimp only
  by_cases hj : i < mn + 1
  · rw [bif_pos hj, chk_pos (by simp; omega), w64 (by omega) (by omega), repl_snoc]
    exact hk hj _ ⟨by dsimp only; omega, by dsimp only; omega, by dsimp only; rw [show (i + 1).toNat = i.toNat + 1 by omega]⟩ rfl
  · rw [bif_neg hj]
    unfold L24_BucketPlays_J9
    rw [show i.toNat = (mn + 1).toNat by omega, List.length_replicate]
    exact nodes_eq l hl h0 h4
theorem bad_eq {mn : Int} (h : mn < 0 ∨ mn > 4) : (Option.bind (R24_New mn) fun r2 =>
      bif !decide (r2.2.1 = 0) then
        bif decide (1 = r2.2.1) then
          some true
        else
          some false
      else
        some false) = some true := by
  unfold R24_New
  by_cases h1 : mn < 0
  · rw [bif_pos h1]; rfl
  · rw [bif_neg h1, bif_pos (by omega)]; rfl
theorem plays_main (mn : Int) (l : Ls) (hl : l.length ≤ 140737488355328) : L24_BucketPlays mn l = some true := by
  unfold L24_BucketPlays
  have al : (Option.bind L24_alive fun r => some r) = some true := by rw [alive24]; rfl
  rw [al]
  by_cases h2 : (l.length : Int) > 80
  · rw [bif_pos h2]
  · rw [bif_neg h2]
    by_cases h3 : mn < 0
    · rw [bif_pos h3]; exact bad_eq (mn := mn) (by omega)
    · rw [bif_neg h3]
      by_cases h4 : mn > 4
      · rw [bif_pos h4]; exact bad_eq (mn := mn) (by omega)
      · rw [bif_neg h4, w64 (by omega) (by omega), bif_neg (by omega), bif_neg (by omega), chk_pos (by omega), letv_eq]
        exact lines_eq l hl (by omega) (by omega)
end Bp
theorem law_L24_BucketPlays : ∀ x : ((.pair (.int .i64) (.pair (.sl (.pair .bool (.pair (.int .i64) (.pair (.int .i64) .unit)))) .unit)) : Ty).den, wfD (.pair (.int .i64) (.pair (.sl (.pair .bool (.pair (.int .i64) (.pair (.int .i64) .unit)))) .unit)) x → L24_BucketPlays x.1 x.2.1 = some true := by
  exact fun x hw => Bp.plays_main x.1 x.2.1 (wfl hw.2.1).1
end Go.Proofs.YtiicmhholjpcbaaV
