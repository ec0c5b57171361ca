/- The queue's methods, and its reference's, by the values in the lines. -/
import Derived.Test.YtiicmhholjpcbaaMqueues2
namespace Go.Proofs.YtiicmhholjpcbaaV
set_option linter.unusedVariables false
set_option linter.unusedSimpArgs false
open Go.RowKit
namespace Qu
open QT
/-! ### Remove -/
theorem rem_none (r : Pl × (Bool × Unit)) (v q : Int) : ∀ (n : Nat) (p : List Int) (z : Int), p.length < n → (∀ a ∈ p, 0 ≤ a ∧ a < (r.1.1.length : Int)) → Chain r.1.1 p → (∀ a ∈ p, vl r.1.1 a ≠ v) → fixN (queue_Pool_Remove_L1 r v q) n (z, p.headD (-1)) = some (r.1, (false, ()))
  | 0, p, z, hn, _, _, _ => by omega
  | n + 1, [], z, _, _, _, _ => by
    show queue_Pool_Remove_L1 r v q _ (z, -1) = _
    unfold queue_Pool_Remove_L1
    dsimp only
    rw [bif_pos rfl]
  | n + 1, a :: p, z, hn, hr, hc, hv => by
    show queue_Pool_Remove_L1 r v q (fixN (queue_Pool_Remove_L1 r v q) n) (z, a) = _
    have ha := hr a List.mem_cons_self
    have ih := rem_none r v q n p a (by simp at hn; omega) (fun b hb => hr b (List.mem_cons_of_mem _ hb)) hc.tail (fun b hb => hv b (List.mem_cons_of_mem _ hb))
    rw [← chain_head hc] at ih
    obtain ⟨k, hk⟩ : ∃ k, fixN (queue_Pool_Remove_L1 r v q) n = k := ⟨_, rfl⟩
    rw [hk] at ih ⊢
    unfold queue_Pool_Remove_L1
    dsimp only
    rw [bif_neg (by omega), chk_pos ha, bnot_neg (show ¬ (r.1.1.getD a.toNat (0, 0, ())).1 = v from hv a List.mem_cons_self), chk_pos ha]
    exact ih
theorem rem_some (r : Pl × (Bool × Unit)) (v q i : Int) (p2 : List Int) : ∀ (n : Nat) (p : List Int) (z : Int), p.length < n → (∀ a ∈ p ++ i :: p2, 0 ≤ a ∧ a < (r.1.1.length : Int)) → Chain r.1.1 (p ++ i :: p2) → (∀ a ∈ p, vl r.1.1 a ≠ v) → vl r.1.1 i = v → fixN (queue_Pool_Remove_L1 r v q) n (z, (p ++ i :: p2).headD (-1)) = queue_Pool_Remove_C1 (p.getLast?.getD z, i) r q queue_Pool_Remove_R1
  | 0, p, z, hn, _, _, _, _ => by omega
  | n + 1, [], z, _, hr, _, _, hi => by
    show queue_Pool_Remove_L1 r v q _ (z, i) = _
    have ha := hr i List.mem_cons_self
    unfold queue_Pool_Remove_L1
    dsimp only
    have hi' : (r.1.1.getD i.toNat (0, 0, ())).1 = v := hi
    rw [bif_neg (by omega), chk_pos ha, bnot_pos hi', cutv_eq]; rfl
  | n + 1, a :: p, z, hn, hr, hc, hv, hi => by
    show queue_Pool_Remove_L1 r v q (fixN (queue_Pool_Remove_L1 r v q) n) (z, a) = _
    have ha := hr a List.mem_cons_self
    have ih := rem_some r v q i p2 n p a (by simp at hn; omega) (fun b hb => hr b (List.mem_cons_of_mem _ hb)) hc.tail (fun b hb => hv b (List.mem_cons_of_mem _ hb)) hi
    rw [← chain_head (p := p ++ i :: p2) hc] at ih
    obtain ⟨k, hk⟩ : ∃ k, fixN (queue_Pool_Remove_L1 r v q) n = k := ⟨_, rfl⟩
    rw [hk] at ih ⊢
    unfold queue_Pool_Remove_L1
    dsimp only
    rw [bif_neg (by omega), chk_pos ha, bnot_neg (show ¬ (r.1.1.getD a.toNat (0, 0, ())).1 = v from hv a List.mem_cons_self), chk_pos ha]
    refine Eq.trans ih ?_
    congr 2
    cases p with
    | nil => rfl
    | cons b p => rw [show (a :: b :: p).getLast? = (b :: p).getLast? from rfl]; cases h : (b :: p).getLast? with
      | none => simp at h
      | some y => rfl
theorem rem_in {x : Pl} {q v : Int} (h : 1 ≤ x.2.1.length) (h0 : 0 ≤ q) (h1 : q < (x.2.1.length : Int)) : queue_Pool_Remove x q v = loop (queue_Pool_Remove_L1 (x, (true, ())) v q) ((-1), (x.2.1.getD q.toNat (0, 0, 0, ())).1) := by
  unfold queue_Pool_Remove
  rw [ok_eq h]
  refine bind_t ((cond_tt _ _).trans ?_)
  refine (bif_neg (show ¬ q < 0 by omega)).trans ?_
  refine (bif_neg (show ¬ q ≥ (x.2.1.length : Int) by omega)).trans ?_
  exact chk_pos (show 0 ≤ q ∧ q < (x.2.1.length : Int) from ⟨h0, h1⟩)
theorem mem_split {p : List Int} {f : Int → Int} {v : Int} (h : v ∈ p.map f) : ∃ p1 i p2, p = p1 ++ i :: p2 ∧ f i = v ∧ ∀ a ∈ p1, f a ≠ v := by
  induction p with
  | nil => cases h
  | cons a p ih =>
    by_cases e : f a = v
    · exact ⟨[], a, p, rfl, e, fun b hb => by cases hb⟩
    · have : v ∈ p.map f := by
        rcases List.mem_cons.1 h with h | h
        · exact absurd h.symm e
        · exact h
      obtain ⟨p1, i, p2, rfl, h1, h2⟩ := ih this
      exact ⟨a :: p1, i, p2, rfl, h1, fun b hb => by rcases List.mem_cons.1 hb with rfl | hb; exact e; exact h2 b hb⟩
theorem rem_not {x : Pl} {pa pb : List (List Int)} {p po : List Int} {q v : Int} (h : Fit x (pa ++ p :: pb) po) (hq : (pa.length : Int) = q) (hv : v ∉ p.map (vl x.1)) : queue_Pool_Remove x q v = some (x, (false, ())) := by
  obtain ⟨la, l, lb, hA⟩ := h.at
  have hl := hA.len
  have e := hA.ls
  rw [rem_in h.l1 (by omega) (by rw [e]; simp; omega), e, get_mid (by omega), Rep.hd hA.r]
  unfold loop
  refine rem_none (x, (true, ())) v q FUEL p (-1) ?_ hA.r.rng hA.r.chain (fun a ha he => hv (List.mem_map.2 ⟨a, ha, he⟩))
  have := hA.n
  rw [FUEL_eq]; omega
theorem rem_yes {x : Pl} {pa pb : List (List Int)} {p1 p2 po : List Int} {i q v : Int} (h : Fit x (pa ++ (p1 ++ i :: p2) :: pb) po) (hq : (pa.length : Int) = q) (hi : vl x.1 i = v) (hv : ∀ a ∈ p1, vl x.1 a ≠ v) :
    ∃ x', queue_Pool_Remove x q v = some (x', (true, ())) ∧ Fit x' (pa ++ (p1 ++ p2) :: pb) (po ++ [i]) ∧ x'.1.length = x.1.length ∧ ∀ a, 0 ≤ a → vl x'.1 a = vl x.1 a := by
  obtain ⟨la, l, lb, hA⟩ := h.at
  have hl := hA.len
  have e := hA.ls
  rw [rem_in h.l1 (by omega) (by rw [e]; simp; omega), e, get_mid (by omega), Rep.hd hA.r]
  unfold loop
  have hn := hA.n
  rw [rem_some (x, (true, ())) v q i p2 FUEL p1 (-1) (by rw [FUEL_eq]; simp at hn; omega) hA.r.rng hA.r.chain hv hi]
  cases hz : p1.getLast? with
  | none =>
    have : p1 = [] := List.getLast?_eq_none_iff.1 hz
    subst this
    exact first_rem h hq true
  | some z => exact mid_rem h hz hq true
/-! ### Values -/
theorem rng_of {ns : List Nd} : ∀ {ps : List (List Int)} {ls : List Ln}, All2 (Rep ns) ps ls → ∀ y ∈ ps, ∀ a ∈ y, 0 ≤ a
  | [], _, _, y, hy => by cases hy
  | c :: ps, [], h, _, _ => h.elim
  | c :: ps, d :: ls, h, y, hy => fun a ha => by
    rcases List.mem_cons.1 hy with rfl | hy
    · exact (h.1.rng a ha).1
    · exact rng_of h.2 y hy a ha
theorem vals_mid {x : Pl} {pa pb : List (List Int)} {p : List Int} : vals x (pa ++ p :: pb) = vals x pa ++ p.map (vl x.1) :: vals x pb := by
  unfold vals; simp
theorem vals_len {x : Pl} {ps : List (List Int)} : (vals x ps).length = ps.length := by unfold vals; simp
theorem vals_keep {x x' : Pl} {ps : List (List Int)} (h : ∀ y ∈ ps, ∀ a ∈ y, vl x'.1 a = vl x.1 a) : vals x' ps = vals x ps := by
  unfold vals
  exact List.map_congr_left fun y hy => List.map_congr_left fun a ha => h y hy a ha
theorem vals_get {x : Pl} {pa pb : List (List Int)} {p : List Int} {q : Int} (hq : (pa.length : Int) = q) : (vals x (pa ++ p :: pb)).getD q.toNat [] = p.map (vl x.1) := by
  rw [vals_mid, get_mid (by rw [vals_len]; exact hq)]
theorem push_vals {x x' : Pl} {pa pb : List (List Int)} {p po : List Int} {i v q : Int} (h : Fit x (pa ++ p :: pb) (i :: po)) (hq : (pa.length : Int) = q) (hv : ∀ a, 0 ≤ a → vl x'.1 a = if a = i then v else vl x.1 a) :
    vals x' (pa ++ (p ++ [i]) :: pb) = (vals x (pa ++ p :: pb)).set q.toNat ((vals x (pa ++ p :: pb)).getD q.toNat [] ++ [v]) := by
  obtain ⟨la, l, lb, hA⟩ := h.at
  have hi := (hA.op.rng i List.mem_cons_self).1
  have keep : ∀ a, 0 ≤ a → a ≠ i → vl x'.1 a = vl x.1 a := fun a ha hne => by rw [hv a ha, if_neg hne]
  rw [vals_get hq, vals_mid, vals_mid, set_mid (by rw [vals_len]; exact hq)]
  rw [vals_keep (x := x) (x' := x') (fun y hy a ha => keep a (rng_of hA.ra y hy a ha) (fun e => (hA.d2 y hy a ha).2 (by rw [e]; exact List.mem_cons_self))),
    vals_keep (x := x) (x' := x') (fun y hy a ha => keep a (rng_of hA.rb y hy a ha) (fun e => (hA.d3 y hy a ha).2 (by rw [e]; exact List.mem_cons_self)))]
  congr 2
  rw [List.map_append, List.map_singleton, hv i hi, if_pos rfl]
  congr 1
  exact List.map_congr_left fun a ha => keep a (hA.r.rng a ha).1 (fun e => hA.d1 a ha (by rw [e]; exact List.mem_cons_self))
theorem free_vals {x x' : Pl} {pa pb : List (List Int)} {p p' po : List Int} {q : Int} (h : Fit x (pa ++ p :: pb) po) (hq : (pa.length : Int) = q) (hp : ∀ a ∈ p', a ∈ p) (hv : ∀ a, 0 ≤ a → vl x'.1 a = vl x.1 a) :
    vals x' (pa ++ p' :: pb) = (vals x (pa ++ p :: pb)).set q.toNat (p'.map (vl x.1)) := by
  obtain ⟨la, l, lb, hA⟩ := h.at
  rw [vals_mid, vals_mid, set_mid (by rw [vals_len]; exact hq)]
  rw [vals_keep (x := x) (x' := x') (fun y hy a ha => hv a (rng_of hA.ra y hy a ha)), vals_keep (x := x) (x' := x') (fun y hy a ha => hv a (rng_of hA.rb y hy a ha))]
  congr 2
  exact List.map_congr_left fun a ha => hv a (hA.r.rng a (hp a ha)).1
/-- How many values there are. -/
def tot : List (List Int) → Int
  | [] => 0
  | y :: V => y.length + tot V
theorem tot_vals (x : Pl) : ∀ ps : List (List Int), tot (vals x ps) = ps.flatten.length
  | [] => rfl
  | y :: ps => by
    have := tot_vals x ps
    unfold vals at this ⊢
    rw [List.map_cons, tot, this, List.flatten_cons, List.length_append]; simp
theorem tot_at {V : List (List Int)} {i : Nat} : 0 ≤ tot V ∧ ((V.getD i []).length : Int) ≤ tot V := by
  induction V generalizing i with
  | nil => simp [tot]
  | cons y V ih =>
    cases i with
    | zero => have := (ih (i := 0)).1; simp [tot]; omega
    | succ i => have := ih (i := i); simp [tot] at this ⊢; omega
theorem Fit.tot {x : Pl} {ps : List (List Int)} {po : List Int} (h : Fit x ps po) : tot (vals x ps) + po.length = x.1.length ∧ Qu.tot (vals x ps) ≤ 1024 := by
  have a := h.all
  have n := h.n
  rw [List.length_append] at a
  rw [tot_vals]
  omega
theorem Fit.cut {x : Pl} {ps : List (List Int)} {po : List Int} {q : Int} (h : Fit x ps po) (h0 : 0 ≤ q) (h1 : q < (ps.length : Int)) : ∃ pa p pb, ps = pa ++ p :: pb ∧ (pa.length : Int) = q := by
  obtain ⟨a, z, b, e, ha, _⟩ := split_at (d := []) h0 h1
  exact ⟨a, z, b, e, ha⟩
/-! ### The reference -/
abbrev W := Int × (List (List Int)) × Unit
theorem is_eq (w : W) (q : Int) : R03_is w q = some (decide (0 ≤ q ∧ q < (w.2.1.length : Int))) := by
  unfold R03_is
  by_cases h : q ≥ 0
  · rw [bif_pos h]; congr 1; rw [decide_eq_decide]; omega
  · rw [bif_neg h, decide_eq_false (by omega)]
theorem put_eq {w : W} {q : Int} {l : List Int} (h0 : 0 ≤ q) (h1 : q < (w.2.1.length : Int)) (hn : w.2.1.length ≤ 64) : R03_put w q l = some (w.1, w.2.1.set q.toNat l, ()) := by
  unfold R03_put
  rw [chk_pos (by omega), chk_pos ⟨h0, h1⟩]
theorem firstR_out {w : W} {q : Int} (hq : ¬ (0 ≤ q ∧ q < (w.2.1.length : Int))) : R03_First w q = some (0, 8, ()) := by
  unfold R03_First
  rw [is_eq, decide_eq_false hq]; rfl
theorem firstR_in {w : W} {q : Int} (h0 : 0 ≤ q) (h1 : q < (w.2.1.length : Int)) : R03_First w q = some (match w.2.1.getD q.toNat [] with | [] => (0, 11, ()) | v :: _ => (v, 0, ())) := by
  unfold R03_First
  rw [is_eq, decide_eq_true ⟨h0, h1⟩]
  refine bind_t ((cond_tt _ _).trans ?_)
  rw [chk_pos ⟨h0, h1⟩, chk_pos ⟨h0, h1⟩]
  cases hl : w.2.1.getD q.toNat [] with
  | nil => rw [bif_pos (by simp)]
  | cons v l => rw [bif_neg (by simp only [List.length_cons]; omega), chk_pos (by simp only [List.length_cons]; omega), letv_eq]; rfl
theorem listR_out {w : W} {q : Int} (hq : ¬ (0 ≤ q ∧ q < (w.2.1.length : Int))) : R03_List w q = some [] := by
  unfold R03_List
  rw [is_eq, decide_eq_false hq]; rfl
theorem listR_in {w : W} {q : Int} (h0 : 0 ≤ q) (h1 : q < (w.2.1.length : Int)) : R03_List w q = some (w.2.1.getD q.toNat []) := by
  unfold R03_List
  rw [is_eq, decide_eq_true ⟨h0, h1⟩]
  refine bind_t ((cond_tt _ _).trans ?_)
  rw [chk_pos ⟨h0, h1⟩]
theorem freeR_eq {w : W} (hn : w.2.1.length ≤ 64) (hr : 0 ≤ w.1 ∧ w.1 ≤ 1024) (ht : tot w.2.1 ≤ 1024) : R03_Free w = some (w.1 - tot w.2.1) := by
  unfold R03_Free
  have drp : ∀ (V : List (List Int)) (i : Nat), 0 ≤ tot (V.drop i) ∧ tot (V.drop i) ≤ tot V := by
    intro V
    induction V with
    | nil => intro i; simp [tot]
    | cons y V ih => intro i; cases i with
      | zero => have := (tot_at (V := y :: V) (i := 0)).1; simp; exact this
      | succ i => have := ih i; simp [tot]; omega
  refine (loop_up (fun y => y.2) (w.2.1.length : Int) (fun y => 0 ≤ y.2 ∧ y.1 = w.1 - tot w.2.1 + tot (w.2.1.drop y.2.toNat)) (fun _ => some (w.1 - tot w.2.1)) ⟨by simp, by simp⟩ (by show _ - 0 < _; omega) ?_)
  rintro k ⟨c, i⟩ ⟨h0, h1⟩ hk
  dsimp only at h0 h1 hk ⊢
  unfold R03_Free_L1
  dsimp only
  by_cases hi : i < (w.2.1.length : Int)
  · have d1 := drp w.2.1 i.toNat
    have d2 := drp w.2.1 (i + 1).toNat
    have d3 := (drp w.2.1 0).1
    rw [drop_at (d := []) h0 hi, tot] at h1 d1
    simp only [List.drop_zero] at d3
    rw [bif_pos hi, chk_pos ⟨h0, hi⟩, letv_eq, w64 (x := i + 1) (by omega) (by omega), w64 (by omega) (by omega)]
    exact hk hi _ ⟨by dsimp only; omega, by dsimp only; omega⟩ rfl
  · rw [bif_neg hi]
    rw [drop_end hi] at h1
    unfold R03_Free_J1
    rw [h1]; simp [tot]
theorem pushR_out {w : W} {q v : Int} (hq : ¬ (0 ≤ q ∧ q < (w.2.1.length : Int))) : R03_Push w q v = some (w, 8, ()) := by
  unfold R03_Push
  rw [is_eq, decide_eq_false hq]; rfl
theorem pushR_full {w : W} {q v : Int} (h0 : 0 ≤ q) (h1 : q < (w.2.1.length : Int)) (hn : w.2.1.length ≤ 64) (hr : 0 ≤ w.1 ∧ w.1 ≤ 1024) (ht : tot w.2.1 = w.1) : R03_Push w q v = some (w, 10, ()) := by
  unfold R03_Push
  rw [is_eq, decide_eq_true ⟨h0, h1⟩]
  refine bind_t ((cond_tt _ _).trans ?_)
  rw [freeR_eq hn hr (by omega)]
  refine bind_t (bif_pos (by omega))
theorem pushR_in {w : W} {q v : Int} (h0 : 0 ≤ q) (h1 : q < (w.2.1.length : Int)) (hn : w.2.1.length ≤ 64) (hr : 0 ≤ w.1 ∧ w.1 ≤ 1024) (ht : tot w.2.1 < w.1) : R03_Push w q v = some ((w.1, w.2.1.set q.toNat (w.2.1.getD q.toNat [] ++ [v]), ()), 0, ()) := by
  unfold R03_Push
  rw [is_eq, decide_eq_true ⟨h0, h1⟩]
  refine bind_t ((cond_tt _ _).trans ?_)
  rw [freeR_eq hn hr (by omega)]
  refine bind_t ((bif_neg (by omega)).trans ?_)
  rw [cutv_eq]
  unfold R03_Push_C1
  have := (tot_at (V := w.2.1) (i := q.toNat)).2
  rw [chk_pos ⟨h0, h1⟩, chk_pos (by omega), chk_pos (by simp only [List.length_cons, List.length_nil]; omega), put_eq h0 h1 hn]
  rfl
theorem popR_none {w : W} {q e x : Int} (h : R03_First w q = some (x, e, ())) (he : e ≠ 0) : R03_Pop w q = some (w, 0, e, ()) := by
  unfold R03_Pop
  rw [h]
  exact bind_t (bnot_neg he)
theorem popR_in {w : W} {q v : Int} {l : List Int} (h0 : 0 ≤ q) (h1 : q < (w.2.1.length : Int)) (hn : w.2.1.length ≤ 64) (hl : w.2.1.getD q.toNat [] = v :: l) : R03_Pop w q = some ((w.1, w.2.1.set q.toNat l, ()), v, 0, ()) := by
  unfold R03_Pop
  rw [firstR_in h0 h1, hl]
  refine bind_t ((bnot_pos (show (0 : Int) = 0 from rfl)).trans ?_)
  rw [chk_pos ⟨h0, h1⟩, chk_pos (by simp; omega), put_eq h0 h1 hn]
  simp
theorem remR_out {w : W} {q v : Int} (hq : ¬ (0 ≤ q ∧ q < (w.2.1.length : Int))) : R03_Remove w q v = some (w, false, ()) := by
  unfold R03_Remove
  rw [is_eq, decide_eq_false hq]; rfl
theorem remR_loop {w : W} {q v : Int} (h0 : 0 ≤ q) (h1 : q < (w.2.1.length : Int)) : R03_Remove w q v = loop (R03_Remove_L1 (w.2.1.getD q.toNat []) v w q) 0 := by
  unfold R03_Remove
  rw [is_eq, decide_eq_true ⟨h0, h1⟩]
  exact bind_t ((cond_tt _ _).trans (chk_pos ⟨h0, h1⟩))
theorem remR_not {w : W} {q v : Int} {p : List Int} (h0 : 0 ≤ q) (h1 : q < (w.2.1.length : Int)) (hp : w.2.1.getD q.toNat [] = p) (hl : p.length ≤ 4096) (hv : v ∉ p) : R03_Remove w q v = some (w, false, ()) := by
  rw [remR_loop h0 h1, hp]
  refine loop_up (fun y => y) (p.length : Int) (fun y => 0 ≤ y) (fun _ => some (w, false, ())) (by omega) (by omega) ?_
  intro k i hi hk
  unfold R03_Remove_L1
  by_cases hj : i < (p.length : Int)
  · rw [bif_pos hj, chk_pos ⟨hi, hj⟩, bif_neg (fun e => hv (by rw [← e]; exact getD_mem hi hj)), w64 (by omega) (by omega)]
    exact hk hj _ (by omega) rfl
  · rw [bif_neg hj]; rfl
theorem remR_yes {w : W} {q v : Int} {p1 p2 : List Int} (h0 : 0 ≤ q) (h1 : q < (w.2.1.length : Int)) (hn : w.2.1.length ≤ 64) (hp : w.2.1.getD q.toNat [] = p1 ++ v :: p2) (hl : (p1 ++ v :: p2).length ≤ 4096) (hv : v ∉ p1) : R03_Remove w q v = some ((w.1, w.2.1.set q.toNat (p1 ++ p2), ()), true, ()) := by
  rw [remR_loop h0 h1, hp]
  simp only [List.length_append, List.length_cons] at hl
  refine loop_up (fun y => y) ((p1.length : Int) + 1) (fun y => 0 ≤ y ∧ y ≤ (p1.length : Int)) (fun _ => some ((w.1, w.2.1.set q.toNat (p1 ++ p2), ()), true, ())) ⟨by omega, by omega⟩ (by omega) ?_
  intro k i ⟨hi, hi2⟩ hk
  unfold R03_Remove_L1
  have hj : i < (((p1 ++ v :: p2).length : Nat) : Int) := by simp; omega
  rw [bif_pos hj, chk_pos ⟨hi, hj⟩]
  by_cases e : i = p1.length
  · subst e
    rw [get_mid rfl, bif_pos rfl, cutv_eq]
    unfold R03_Remove_C1
    have t1 : ((p1 ++ v :: p2).take ((p1.length : Int)).toNat).drop (0 : Int).toNat = p1 := by simp
    have t2 : ((p1 ++ v :: p2).take (((p1 ++ v :: p2).length : Nat) : Int).toNat).drop ((p1.length : Int) + 1).toNat = p2 := by
      rw [show ((((p1 ++ v :: p2).length : Nat) : Int)).toNat = (p1 ++ v :: p2).length by omega, List.take_length, show ((p1.length : Int) + 1).toNat = (p1 ++ [v]).length by simp only [List.length_append, List.length_cons, List.length_nil]; omega, show p1 ++ v :: p2 = (p1 ++ [v]) ++ p2 by simp]; exact List.drop_left
    rw [w64 (by omega) (by omega), t1, t2, chk_pos (by omega), chk_pos (by omega), chk_pos (by simp only [List.length_append, List.length_cons]; omega), chk_pos (by omega), letv_eq, put_eq h0 h1 hn]
    rfl
  · have e2 : (p1 ++ v :: p2).getD i.toNat 0 ∈ p1 := by
      rw [getD_at (by simp; omega), List.getElem_append_left (by omega)]
      exact List.getElem_mem _
    rw [bif_neg (fun e => hv (by rw [← e]; exact e2)), w64 (by omega) (by omega)]
    exact hk (by omega) _ ⟨by omega, by omega⟩ rfl
/-! ### Both -/
def W_of (x : Pl) (ps : List (List Int)) : W := ((x.1.length : Int), vals x ps, ())
theorem as_eq {x : Pl} {ps : List (List Int)} {po : List Int} (h : Fit x ps po) (q : Int) : L03_as x (W_of x ps) q = some (x, (true, ())) := by
  have hn : ((W_of x ps).2.1.length : Int) = ps.length := by show ((vals x ps).length : Int) = _; rw [vals_len]
  have hx : ps.length = x.2.1.length := h.reps.len
  have ht := h.tot
  have hc := h.n
  have hq2 := h.q2
  have hfree := freeR_eq (w := W_of x ps) (by omega) (show 0 ≤ (x.1.length : Int) ∧ (x.1.length : Int) ≤ 1024 by omega) ht.2
  have hmo : x.2.2.1.2.2.1 = (x.1.length : Int) - tot (vals x ps) := by rw [h.op.many]; omega
  have tail : ∀ (a c : Int) (l : List Int), queue_Pool_First x q = some (x, (a, c, ())) → R03_First (W_of x ps) q = some (a, c, ()) → queue_Pool_List x q = some (x, (l, ())) → R03_List (W_of x ps) q = some l → queue_Pool_Len x q = some (x, ((l.length : Int), ())) → l.length ≤ 2000 → L03_as x (W_of x ps) q = some (x, (true, ())) := by
    intro a c l f1 f2 f3 f4 f5 f6
    unfold L03_as
    rw [f1, f2]
    simp only [Option.bind_some]
    rw [cutv_eq]
    unfold L03_as_C1
    dsimp only
    rw [bif_pos rfl, bif_pos rfl, f3]
    refine bind_t ?_
    rw [f4]
    refine bind_t ?_
    rw [lists0.same_eq _ _ (show l.length ≤ _ by omega), decide_eq_true rfl]
    refine bind_t ((cond_t _ _).trans ?_)
    rw [f5]
    refine bind_t ?_
    refine bind_t ?_
    dsimp only
    rw [bif_pos rfl, free_eq h.l1]
    refine bind_t ?_
    rw [hfree]
    refine bind_t ?_
    dsimp only
    rw [decide_eq_true (show x.2.2.1.2.2.1 = (W_of x ps).1 - tot (W_of x ps).2.1 from hmo)]
    rfl
  by_cases hq : 0 ≤ q ∧ q < (ps.length : Int)
  · obtain ⟨pa, p, pb, rfl, e⟩ := h.cut hq.1 hq.2
    obtain ⟨la, l, lb, hA⟩ := h.at
    have hgv : (W_of x (pa ++ p :: pb)).2.1.getD q.toNat [] = p.map (vl x.1) := vals_get e
    have f2 := firstR_in (w := W_of x (pa ++ p :: pb)) (q := q) hq.1 (by omega)
    have f4 := listR_in (w := W_of x (pa ++ p :: pb)) (q := q) hq.1 (by omega)
    rw [hgv] at f2 f4
    clear hgv hn hx ht hc hq2 hfree hmo
    obtain ⟨ns, ls, o, ⟨⟩⟩ := x
    have e1 := hA.ls
    have rp := hA.r
    dsimp only at e1 rp
    subst e1
    have hle := hA.len
    obtain ⟨a1, a2, a3, a4⟩ := many_of rp hA.n
    have hp := hA.n
    have f1 := first_eq (ns := ns) (la := la) (lb := lb) (l := l) (o := o) (q := q) (by omega) a4
    have f3 := list_eq (ns := ns) (la := la) (lb := lb) (l := l) (o := o) (q := q) (by omega) rp (by omega)
    have f5 := len_eq (ns := ns) (la := la) (lb := lb) (l := l) (o := o) (q := q) (by omega)
    rw [rp.many] at f1 f5
    rw [show (p.length : Int) = ((p.map (vl ns)).length : Int) by simp] at f5
    cases p with
    | nil => exact tail 0 11 _ f1 f2 f3 f4 f5 (by simp)
    | cons i p =>
      rw [if_neg (by simp; omega), rp.first i rfl] at f1
      exact tail (vl ns i) 0 _ f1 f2 f3 f4 f5 (by simp at hp ⊢; omega)
  · exact tail 0 8 [] (first_out h.l1 (by omega)) (firstR_out (by omega)) (list_out h.l1 (by omega)) (listR_out (by omega)) (len_out h.l1 (by omega)) (by simp)
/-- A push, in both. -/
theorem push_both {x : Pl} {ps : List (List Int)} {po : List Int} (h : Fit x ps po) (q v : Int) : ∃ x' ps' po' e, Fit x' ps' po' ∧ x'.1.length = x.1.length ∧ queue_Pool_Push x q v = some (x', (e, ())) ∧ R03_Push (W_of x ps) q v = some (W_of x' ps', e, ()) := by
  have hn : ((W_of x ps).2.1.length : Int) = ps.length := by show ((vals x ps).length : Int) = _; rw [vals_len]
  have hx := h.reps.len
  have ht := h.tot
  have hc := h.n
  have hq2 := h.q2
  by_cases hq : 0 ≤ q ∧ q < (ps.length : Int)
  · cases po with
    | nil =>
      refine ⟨x, ps, [], 10, h, rfl, ?_, pushR_full hq.1 (by omega) (by omega) (show 0 ≤ (x.1.length : Int) ∧ (x.1.length : Int) ≤ 1024 by omega) (by show tot (vals x ps) = (x.1.length : Int); simp at ht; omega)⟩
      exact push_full (ns := x.1) (ls := x.2.1) (o := x.2.2.1) hq.1 (by omega) (by rw [h.op.many]; rfl)
    | cons i po =>
      obtain ⟨pa, p, pb, rfl, e⟩ := h.cut hq.1 hq.2
      obtain ⟨x', f1, f2, f3, f4⟩ := push_fit (v := v) h e
      refine ⟨x', _, _, 0, f2, f3, f1, ?_⟩
      rw [pushR_in hq.1 (by omega) (by omega) (show 0 ≤ (x.1.length : Int) ∧ (x.1.length : Int) ≤ 1024 by omega) (by show tot (vals x _) < (x.1.length : Int); simp at ht; omega)]
      unfold W_of
      rw [push_vals h e f4, f3]
  · exact ⟨x, ps, po, 8, h, rfl, push_out h.l1 (by omega), pushR_out (by omega)⟩
theorem pop_both {x : Pl} {ps : List (List Int)} {po : List Int} (h : Fit x ps po) (q : Int) : ∃ x' ps' po' v e, Fit x' ps' po' ∧ x'.1.length = x.1.length ∧ queue_Pool_Pop x q = some (x', (v, e, ())) ∧ R03_Pop (W_of x ps) q = some (W_of x' ps', v, e, ()) := by
  have hn : ((W_of x ps).2.1.length : Int) = ps.length := by show ((vals x ps).length : Int) = _; rw [vals_len]
  have hx := h.reps.len
  have hq2 := h.q2
  by_cases hq : 0 ≤ q ∧ q < (ps.length : Int)
  · obtain ⟨pa, p, pb, rfl, e⟩ := h.cut hq.1 hq.2
    have hgv : (W_of x (pa ++ p :: pb)).2.1.getD q.toNat [] = p.map (vl x.1) := vals_get e
    cases p with
    | nil =>
      obtain ⟨la, l, lb, hA⟩ := h.at
      have f2 := firstR_in (w := W_of x (pa ++ [] :: pb)) (q := q) hq.1 (by omega)
      rw [hgv] at f2
      clear hx hgv hn
      obtain ⟨ns, ls, o, ⟨⟩⟩ := x
      have e1 := hA.ls
      have rp := hA.r
      dsimp only at e1 rp
      subst e1
      have hle := hA.len
      obtain ⟨a1, a2, a3, a4⟩ := many_of rp hA.n
      have f1 := first_eq (ns := ns) (la := la) (lb := lb) (l := l) (o := o) (q := q) (by omega) a4
      rw [rp.many] at f1
      exact ⟨_, _, _, 0, 11, h, rfl, pop_none f1 (by decide), popR_none f2 (by decide)⟩
    | cons i p =>
      obtain ⟨x', f1, f2, f3, f4⟩ := pop_fit h e
      refine ⟨x', _, _, _, 0, f2, f3, f1, ?_⟩
      rw [popR_in hq.1 (by omega) (by omega) hgv]
      unfold W_of
      rw [free_vals h e (fun a ha => List.mem_cons_of_mem _ ha) f4, f3]
  · exact ⟨x, ps, po, 0, 8, h, rfl, pop_none (first_out h.l1 (by omega)) (by decide), popR_none (firstR_out (by omega)) (by decide)⟩
theorem rem_both {x : Pl} {ps : List (List Int)} {po : List Int} (h : Fit x ps po) (q v : Int) : ∃ x' ps' po' b, Fit x' ps' po' ∧ x'.1.length = x.1.length ∧ queue_Pool_Remove x q v = some (x', (b, ())) ∧ R03_Remove (W_of x ps) q v = some (W_of x' ps', b, ()) := by
  have hn : ((W_of x ps).2.1.length : Int) = ps.length := by show ((vals x ps).length : Int) = _; rw [vals_len]
  have hx := h.reps.len
  have hq2 := h.q2
  by_cases hq : 0 ≤ q ∧ q < (ps.length : Int)
  · obtain ⟨pa, p, pb, rfl, e⟩ := h.cut hq.1 hq.2
    have hgv : (W_of x (pa ++ p :: pb)).2.1.getD q.toNat [] = p.map (vl x.1) := vals_get e
    obtain ⟨la, l, lb, hA⟩ := h.at
    have hpn := hA.n
    by_cases hv : v ∈ p.map (vl x.1)
    · obtain ⟨p1, i, p2, rfl, hi, hp1⟩ := mem_split hv
      obtain ⟨x', f1, f2, f3, f4⟩ := rem_yes h e hi hp1
      refine ⟨x', _, _, true, f2, f3, f1, ?_⟩
      rw [List.map_append, List.map_cons, hi] at hgv
      rw [remR_yes hq.1 (by omega) (by omega) hgv (by simp at hpn ⊢; omega) (fun hm => by obtain ⟨a, ha, ea⟩ := List.mem_map.1 hm; exact hp1 a ha ea)]
      unfold W_of
      rw [free_vals h e (fun a ha => by rcases List.mem_append.1 ha with ha | ha; exact List.mem_append_left _ ha; exact List.mem_append_right _ (List.mem_cons_of_mem _ ha)) f4, f3, List.map_append]
    · exact ⟨x, _, po, false, h, rfl, rem_not h e hv, remR_not hq.1 (by omega) hgv (by simp; omega) hv⟩
  · exact ⟨x, ps, po, false, h, rfl, rem_out h.l1 (by omega), remR_out (by omega)⟩
end Qu
end Go.Proofs.YtiicmhholjpcbaaV
