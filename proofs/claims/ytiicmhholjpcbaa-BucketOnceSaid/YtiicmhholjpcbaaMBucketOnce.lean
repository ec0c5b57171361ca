/- BucketOnce: who falls is flushed once, in order. -/
import Derived.Test.YtiicmhholjpcbaaMqueues4
import Derived.Test.YtiicmhholjpcbaaMlists
import Derived.Test.YtiicmhholjpcbaaDBucketOnce
namespace Go.Proofs.YtiicmhholjpcbaaV
set_option linter.unusedVariables false
set_option linter.unusedSimpArgs false
open Go.RowKit
namespace Bo
open QT Qu
theorem alive24 : L24_alive = some true := by decide +kernel
def k1 (y : List Int) : Int := Int.tmod (y.getD 1 0) 4
def k2 (y : List Int) : Int := Int.tmod (y.getD 2 0) 16
def Num3 (y : List Int) : Prop := (0 ≤ k1 y ∧ k1 y < 4) ∧ 0 ≤ k2 y ∧ k2 y < 16
theorem sub_len : ∀ {l L : List Int}, l.Nodup → (∀ a ∈ l, a ∈ L) → l.length ≤ L.length
  | [], L, _, _ => by simp
  | a :: l, L, hn, h => by
    have ha := h a List.mem_cons_self
    have := sub_len (l := l) (L := L.erase a) (List.nodup_cons.1 hn).2 fun b hb => (List.mem_erase_of_ne (fun e => (List.nodup_cons.1 hn).1 (by rw [← e]; exact hb))).2 (h b (List.mem_cons_of_mem _ hb))
    rw [List.length_erase_of_mem ha] at this
    have := List.length_pos_of_mem ha
    simp; omega
theorem getD_set {α : Type} {d : α} {l : List α} {i j : Int} (x : α) (hi : 0 ≤ i ∧ i < (l.length : Int)) (hj : 0 ≤ j) : (l.set i.toNat x).getD j.toNat d = if j = i then x else l.getD j.toNat d := by
  rw [List.getD_eq_getElem?_getD, List.getD_eq_getElem?_getD, List.getElem?_set]
  by_cases h : j = i
  · subst h
    rw [if_pos rfl, if_pos rfl, if_pos (by omega)]; rfl
  · rw [if_neg (by omega), if_neg h]
structure BI (i : Int) (A I : List Int) (V : List (List Int)) : Prop where
  la : A.length = 16
  li : I.length = 16
  lv : V.length = 5
  v4 : V.getD 4 [] = []
  a : ∀ k : Int, 0 ≤ k → k < 4 → ∀ q ∈ V.getD k.toNat [], 0 ≤ q ∧ q < 16 ∧ 0 < A.getD q.toNat 0 ∧ I.getD q.toNat 0 = k
  b : ∀ p : Int, 0 ≤ p → p < 16 → A.getD p.toNat 0 ≠ 0 → ∃ k : Int, 0 ≤ k ∧ k < 4 ∧ p ∈ V.getD k.toNat []
  c : ∀ k : Int, 0 ≤ k → k < 4 → (V.getD k.toNat []).Pairwise (fun x y => A.getD x.toNat 0 < A.getD y.toNat 0)
  d : ∀ p : Int, 0 ≤ p → p < 16 → 0 ≤ A.getD p.toNat 0 ∧ A.getD p.toNat 0 ≤ i
theorem BI.nodup {i : Int} {A I : List Int} {V : List (List Int)} (h : BI i A I V) {k : Int} (h0 : 0 ≤ k) (h1 : k < 4) : (V.getD k.toNat []).Nodup :=
  (h.c k h0 h1).imp fun hx e => by rw [e] at hx; omega
theorem BI.not {i : Int} {A I : List Int} {V : List (List Int)} (h : BI i A I V) {p : Int} (h0 : 0 ≤ p) (h1 : p < 16) (hz : A.getD p.toNat 0 = 0) {k : Int} (k0 : 0 ≤ k) (k1 : k < 4) : p ∉ V.getD k.toNat [] := fun hm => by
  have := (h.a k k0 k1 p hm).2.2.1
  omega
theorem BI.room {i : Int} {A I : List Int} {V : List (List Int)} (h : BI i A I V) {p : Int} (h0 : 0 ≤ p) (h1 : p < 16) (hz : A.getD p.toNat 0 = 0) : tot V ≤ 15 := by
  have lv := h.lv
  match V, lv with
  | [v0, v1, v2, v3, v4], _ =>
    have a0 := h.a 0 (by decide) (by decide)
    have a1 := h.a 1 (by decide) (by decide)
    have a2 := h.a 2 (by decide) (by decide)
    have a3 := h.a 3 (by decide) (by decide)
    have n0 : v0.Nodup := h.nodup (k := 0) (by decide) (by decide)
    have n1 : v1.Nodup := h.nodup (k := 1) (by decide) (by decide)
    have n2 : v2.Nodup := h.nodup (k := 2) (by decide) (by decide)
    have n3 : v3.Nodup := h.nodup (k := 3) (by decide) (by decide)
    have v4 : v4 = [] := h.v4
    have c0 : p ∉ v0 := h.not h0 h1 hz (k := 0) (by decide) (by decide)
    have c1 : p ∉ v1 := h.not h0 h1 hz (k := 1) (by decide) (by decide)
    have c2 : p ∉ v2 := h.not h0 h1 hz (k := 2) (by decide) (by decide)
    have c3 : p ∉ v3 := h.not h0 h1 hz (k := 3) (by decide) (by decide)
    have a0 : ∀ q ∈ v0, _ := a0
    have a1 : ∀ q ∈ v1, _ := a1
    have a2 : ∀ q ∈ v2, _ := a2
    have a3 : ∀ q ∈ v3, _ := a3
    have nd : (p :: (v0 ++ (v1 ++ (v2 ++ v3)))).Nodup := by
      rw [List.nodup_cons, List.nodup_append, List.nodup_append, List.nodup_append]
      refine ⟨by simp [c0, c1, c2, c3], n0, ⟨n1, ⟨n2, n3, fun x hx y hy e => ?_⟩, fun x hx y hy e => ?_⟩, fun x hx y hy e => ?_⟩
      · subst e; have := (a2 x hx).2.2.2; have := (a3 x hy).2.2.2; omega
      · subst e
        rcases List.mem_append.1 hy with hy | hy
        · have := (a1 x hx).2.2.2; have := (a2 x hy).2.2.2; omega
        · have := (a1 x hx).2.2.2; have := (a3 x hy).2.2.2; omega
      · subst e
        rcases List.mem_append.1 hy with hy | hy
        · have := (a0 x hx).2.2.2; have := (a1 x hy).2.2.2; omega
        · rcases List.mem_append.1 hy with hy | hy
          · have := (a0 x hx).2.2.2; have := (a2 x hy).2.2.2; omega
          · have := (a0 x hx).2.2.2; have := (a3 x hy).2.2.2; omega
    have key := sub_len (L := upto 16) nd fun x hx => by
      have hr : 0 ≤ x ∧ x < 16 := by
        rcases List.mem_cons.1 hx with rfl | hx
        · exact ⟨h0, h1⟩
        · rcases List.mem_append.1 hx with hx | hx
          · exact ⟨(a0 x hx).1, (a0 x hx).2.1⟩
          · rcases List.mem_append.1 hx with hx | hx
            · exact ⟨(a1 x hx).1, (a1 x hx).2.1⟩
            · rcases List.mem_append.1 hx with hx | hx
              · exact ⟨(a2 x hx).1, (a2 x hx).2.1⟩
              · exact ⟨(a3 x hx).1, (a3 x hx).2.1⟩
      have hc : x = 0 ∨ x = 1 ∨ x = 2 ∨ x = 3 ∨ x = 4 ∨ x = 5 ∨ x = 6 ∨ x = 7 ∨ x = 8 ∨ x = 9 ∨ x = 10 ∨ x = 11 ∨ x = 12 ∨ x = 13 ∨ x = 14 ∨ x = 15 := by omega
      rcases hc with h | h | h | h | h | h | h | h | h | h | h | h | h | h | h | h <;> subst h <;> decide
    rw [upto_len] at key
    subst v4
    simp only [tot, List.length_nil]
    simp only [List.length_cons, List.length_append] at key
    omega
/-- Who falls. -/
theorem BI.fall {i : Int} {A I : List Int} {V : List (List Int)} (h : BI i A I V) (hi : 0 ≤ i) {p k : Int} (h0 : 0 ≤ p) (h1 : p < 16) (k0 : 0 ≤ k) (k1 : k < 4) (hz : A.getD p.toNat 0 = 0) : BI (i + 1) (A.set p.toNat (i + 1)) (I.set p.toNat k) (V.set k.toNat (V.getD k.toNat [] ++ [p])) := by
  have la := h.la
  have li := h.li
  have lv := h.lv
  have gA : ∀ q : Int, 0 ≤ q → (A.set p.toNat (i + 1)).getD q.toNat 0 = if q = p then i + 1 else A.getD q.toNat 0 := fun q hq => getD_set _ (by omega) hq
  have gI : ∀ q : Int, 0 ≤ q → (I.set p.toNat k).getD q.toNat 0 = if q = p then k else I.getD q.toNat 0 := fun q hq => getD_set _ (by omega) hq
  have gV : ∀ q : Int, 0 ≤ q → (V.set k.toNat (V.getD k.toNat [] ++ [p])).getD q.toNat [] = if q = k then V.getD k.toNat [] ++ [p] else V.getD q.toNat [] := fun q hq => getD_set _ (by omega) hq
  have no : ∀ q ∈ V.getD k.toNat [], q ≠ p := fun q hq e => by rw [e] at hq; exact h.not h0 h1 hz k0 k1 hq
  refine ⟨by simp [la], by simp [li], by simp [lv], ?_, fun k' k0' k1' q hq => ?_, fun q q0 q1 hq => ?_, fun k' k0' k1' => ?_, fun q q0 q1 => ?_⟩
  · have := gV 4 (by decide)
    rw [if_neg (by omega)] at this
    rw [show (4 : Nat) = (4 : Int).toNat from rfl, this]; exact h.v4
  · rw [gV k' k0'] at hq
    by_cases e : k' = k
    · rw [if_pos e] at hq
      rcases List.mem_append.1 hq with hq | hq
      · have := h.a k k0 k1 q hq
        rw [gA q this.1, gI q this.1, if_neg (no q hq), if_neg (no q hq), e]; exact this
      · rw [List.mem_singleton.1 hq, gA p h0, gI p h0, if_pos rfl, if_pos rfl]; omega
    · rw [if_neg e] at hq
      have := h.a k' k0' k1' q hq
      have hne : q ≠ p := fun e2 => by rw [e2] at hq; exact h.not h0 h1 hz k0' k1' hq
      rw [gA q this.1, gI q this.1, if_neg hne, if_neg hne]; exact this
  · rw [gA q q0] at hq
    by_cases e : q = p
    · exact ⟨k, k0, k1, by rw [gV k k0, if_pos rfl, e]; simp⟩
    · rw [if_neg e] at hq
      obtain ⟨k', a1, a2, a3⟩ := h.b q q0 q1 hq
      refine ⟨k', a1, a2, ?_⟩
      rw [gV k' a1]
      by_cases e2 : k' = k
      · rw [if_pos e2]; rw [e2] at a3; exact List.mem_append_left _ a3
      · rw [if_neg e2]; exact a3
  · rw [gV k' k0']
    have mono : ∀ k'' : Int, 0 ≤ k'' → k'' < 4 → (V.getD k''.toNat []).Pairwise (fun x y => (A.set p.toNat (i + 1)).getD x.toNat 0 < (A.set p.toNat (i + 1)).getD y.toNat 0) := fun k'' b0 b1 => by
      refine List.Pairwise.imp_of_mem (fun {x y} hx hy hxy => ?_) (h.c k'' b0 b1)
      have ax := h.a k'' b0 b1 x hx
      have ay := h.a k'' b0 b1 y hy
      rw [gA x ax.1, gA y ay.1, if_neg (fun e => by rw [e] at hx; exact h.not h0 h1 hz b0 b1 hx), if_neg (fun e => by rw [e] at hy; exact h.not h0 h1 hz b0 b1 hy)]
      exact hxy
    by_cases e : k' = k
    · rw [if_pos e, List.pairwise_append]
      refine ⟨mono k k0 k1, List.pairwise_singleton _ _, fun x hx y hy => ?_⟩
      have ax := h.a k k0 k1 x hx
      rw [List.mem_singleton.1 hy, gA x ax.1, gA p h0, if_neg (no x hx), if_pos rfl]
      have := (h.d x ax.1 ax.2.1).2
      omega
    · rw [if_neg e]; exact mono k' k0' k1'
  · have := h.d q q0 q1
    rw [gA q q0]
    split <;> omega
theorem BI.next {i : Int} {A I : List Int} {V : List (List Int)} (h : BI i A I V) : BI (i + 1) A I V :=
  ⟨h.la, h.li, h.lv, h.v4, h.a, h.b, h.c, fun p h0 h1 => by have := h.d p h0 h1; omega⟩
/-- Who is flushed. -/
theorem BI.flush {i : Int} {A A' I : List Int} {V : List (List Int)} (h : BI i A I V) {k : Int} (k0 : 0 ≤ k) (k1 : k < 4) (hl : A'.length = 16) (hA : ∀ q : Int, 0 ≤ q → A'.getD q.toNat 0 = if q ∈ V.getD k.toNat [] then 0 else A.getD q.toNat 0) : BI (i + 1) A' I (V.set k.toNat []) := by
  have lv := h.lv
  have gV : ∀ q : Int, 0 ≤ q → (V.set k.toNat []).getD q.toNat [] = if q = k then [] else V.getD q.toNat [] := fun q hq => getD_set _ (by omega) hq
  have oth : ∀ k' : Int, 0 ≤ k' → k' < 4 → k' ≠ k → ∀ q ∈ V.getD k'.toNat [], q ∉ V.getD k.toNat [] := fun k' b0 b1 hne q hq hm => by
    have := (h.a k' b0 b1 q hq).2.2.2
    have := (h.a k k0 k1 q hm).2.2.2
    omega
  refine ⟨hl, h.li, by simp [lv], ?_, fun k' k0' k1' q hq => ?_, fun q q0 q1 hq => ?_, fun k' k0' k1' => ?_, fun q q0 q1 => ?_⟩
  · have := gV 4 (by decide)
    rw [if_neg (by omega)] at this
    rw [show (4 : Nat) = (4 : Int).toNat from rfl, this]; exact h.v4
  · rw [gV k' k0'] at hq
    by_cases e : k' = k
    · rw [if_pos e] at hq; cases hq
    · rw [if_neg e] at hq
      have := h.a k' k0' k1' q hq
      rw [hA q this.1, if_neg (oth k' k0' k1' e q hq)]; exact this
  · rw [hA q q0] at hq
    by_cases hm : q ∈ V.getD k.toNat []
    · rw [if_pos hm] at hq; exact absurd rfl hq
    · rw [if_neg hm] at hq
      obtain ⟨k', a1, a2, a3⟩ := h.b q q0 q1 hq
      exact ⟨k', a1, a2, by rw [gV k' a1, if_neg (fun e => hm (by rw [← e]; exact a3))]; exact a3⟩
  · rw [gV k' k0']
    by_cases e : k' = k
    · rw [if_pos e]; exact List.Pairwise.nil
    · rw [if_neg e]
      refine List.Pairwise.imp_of_mem (fun {x y} hx hy hxy => ?_) (h.c k' k0' k1')
      rw [hA x (h.a k' k0' k1' x hx).1, hA y (h.a k' k0' k1' y hy).1, if_neg (oth k' k0' k1' e x hx), if_neg (oth k' k0' k1' e y hy)]
      exact hxy
  · have := h.d q q0 q1
    rw [hA q q0]
    split <;> omega
/-! ### The loop's state -/
abbrev S10 := List (List Int) × Int × Int × List Int × List Int × (List (Int × Int × Unit)) × Int × Int × Int × (List (Int × Int × Int × Unit))
def sv (l : List (List Int)) (i : Int) (A I : List Int) (x : Pl) : S10 := (l, (l.length : Int), i, A, I, x.1, x.2.2.1.1, x.2.2.1.2.1, x.2.2.1.2.2.1, x.2.1)
theorem x_eta (x : Pl) : (x.1, x.2.1, (x.2.2.1.1, x.2.2.1.2.1, x.2.2.1.2.2.1, ()), ()) = x := rfl
/-- The pool of a table. -/
structure Pf (x : Pl) (ps : List (List Int)) (po : List Int) : Prop where
  fit : Fit x ps po
  n : x.1.length = 16
  p : ps.length = 5
theorem R5_eq (l : List (List Int)) {i : Int} (h0 : 0 ≤ i) (h1 : i ≤ 80) (A I : List Int) (x : Pl) (k : S10 → Option Bool) : L24_BucketOnce_R5 k (sv l i A I x) = k (sv l (i + 1) A I x) := by
  unfold L24_BucketOnce_R5 sv
  dsimp only
  rw [w64 (by omega) (by omega)]
/-- What an element of the list leads to. -/
theorem fall_step {l : List (List Int)} {i : Int} (h0 : 0 ≤ i) (h1 : i ≤ 80) {A I : List Int} {x : Pl} {ps : List (List Int)} {po : List Int} (hf : Pf x ps po) (hb : BI i A I (vals x ps)) {v1 v2 : Int} (hv1 : 0 ≤ v1 ∧ v1 < 4) (hv2 : 0 ≤ v2 ∧ v2 < 16) (k : S10 → Option Bool)
    (hk : ∀ A' I' x' ps' po', Pf x' ps' po' → BI (i + 1) A' I' (vals x' ps') → k (sv l i A' I' x') = some true) :
    cutv 4 (L24_BucketOnce_C4 v1 v2 (sv l i A I x)) (L24_BucketOnce_R4 k) = some true := by
  have la := hb.la
  have li := hb.li
  have hp5 := hf.p
  rw [cutv_eq]
  unfold L24_BucketOnce_C4
  rw [cutv_eq]
  unfold L24_BucketOnce_C2
  rw [bif_pos (show v1 ≥ 0 from hv1.1), decide_eq_true hv1.2]
  refine (cond_tt _ _).trans ?_
  rw [bif_neg (by omega), decide_eq_false (show ¬ v2 ≥ 16 by omega)]
  unfold L24_BucketOnce_R2
  refine (cond_f _ _).trans ?_
  unfold sv
  dsimp only
  -- who is where
  refine loop_up (fun (y : Int × Int × List Int × List Int × (List (Int × Int × Unit)) × Int × Int × Int × (List (Int × Int × Int × Unit))) => y.2.1) 4 (fun y => 0 ≤ y.2.1 ∧ y.2.1 ≤ 4 ∧ (∀ q : Int, 0 ≤ q → q < y.2.1 → v2 ∉ (vals x ps).getD q.toNat []) ∧ y = (v2, y.2.1, A, I, x.1, x.2.2.1.1, x.2.2.1.2.1, x.2.2.1.2.2.1, x.2.1)) (fun _ => some true) ⟨Int.le_refl 0, by show (0 : Int) ≤ 4; decide, fun q a b => by have b : q < 0 := b; omega, rfl⟩ (by show (4 : Int) - 0 < _; decide) ?_
  rintro k8 y ⟨q0, q4, hno, hy⟩ hk8
  obtain ⟨q, hq⟩ : ∃ q, y.2.1 = q := ⟨_, rfl⟩
  rw [hq] at q0 q4 hno hy hk8
  subst hy
  unfold L24_BucketOnce_L3
  dsimp only
  by_cases hj : q < 4
  · rw [bif_pos hj, cutv_eq]
    unfold L24_BucketOnce_C3
    dsimp only
    obtain ⟨lv1, lv2⟩ := list_val (q := q) hf.fit q0 (by omega)
    rw [bif_pos (show q ≥ 0 from q0), decide_eq_true hj]
    refine (cond_tt _ _).trans ?_
    rw [x_eta, lv1]
    refine bind_t ?_
    dsimp only
    rw [lists.contains_eq _ _ (by omega)]
    refine bind_t ?_
    unfold L24_BucketOnce_R3
    dsimp only
    by_cases hm : v2 ∈ (vals x ps).getD q.toNat []
    · rw [decide_eq_true hm]
      refine (cond_t _ _).trans ?_
      unfold L24_BucketOnce_R4
      dsimp only
      have ha := hb.a q q0 hj v2 hm
      have hne : ¬ A.getD v2.toNat 0 = 0 := by omega
      rw [chk_pos hv2, decide_eq_false (show ¬ (7 : Int) = 0 by decide), decide_eq_false hne]
      refine (cond_tt _ _).trans ?_
      exact hk A I x ps po hf hb.next
    · rw [decide_eq_false hm]
      refine (cond_f _ _).trans ?_
      rw [w64 (by omega) (by omega)]
      exact hk8 hj _ ⟨by show 0 ≤ q + 1; omega, by show q + 1 ≤ 4; omega, fun q' a b => by
        have b : q' < q + 1 := b
        by_cases e : q' = q
        · rw [e]; exact hm
        · exact hno q' a (by omega), rfl⟩ rfl
  · rw [bif_neg hj]
    unfold L24_BucketOnce_J4
    dsimp only
    have hz : A.getD v2.toNat 0 = 0 := by
      by_cases hz : A.getD v2.toNat 0 = 0
      · exact hz
      · obtain ⟨k', a1, a2, a3⟩ := hb.b v2 hv2.1 hv2.2 hz
        exact absurd a3 (hno k' a1 (by omega))
    have ht := hf.fit.tot
    have hr := hb.room hv2.1 hv2.2 hz
    have hn := hf.n
    obtain ⟨x', ps', po', f1, f2, f3, f4, f5, f6⟩ := push_val (v := v2) hf.fit hv1.1 (by omega) (fun e => by rw [e] at ht; simp at ht; omega)
    rw [x_eta, f5]
    refine bind_t ?_
    unfold L24_BucketOnce_R4
    dsimp only
    rw [chk_pos hv2, decide_eq_true (show (0 : Int) = 0 from rfl), decide_eq_true hz]
    refine (cond_tt _ _).trans ?_
    refine (cond_t _ _).trans ?_
    rw [chk_pos hv2, chk_pos hv2, w64 (by omega) (by omega)]
    have hb2 := hb.fall h0 hv2.1 hv2.2 hv1.1 hv1.2 hz
    rw [← f6] at hb2
    exact hk _ _ x' ps' po' ⟨f1, by omega, by omega⟩ hb2
theorem flush_last {l : List (List Int)} {i : Int} (h0 : 0 ≤ i) (h1 : i ≤ 80) {A A' I : List Int} {V : List (List Int)} {x : Pl} {ps : List (List Int)} {po : List Int} (hf : Pf x ps po) (hb : BI i A I V) {v1 : Int} (hv1 : 0 ≤ v1 ∧ v1 < 4) (hV : vals x ps = V.set v1.toNat []) (hl : A'.length = 16) (hA : ∀ q : Int, 0 ≤ q → A'.getD q.toNat 0 = if q ∈ V.getD v1.toNat [] then 0 else A.getD q.toNat 0) (x0 : Pl) (k : S10 → Option Bool)
    (hk : ∀ A' I' x' ps' po', Pf x' ps' po' → BI (i + 1) A' I' (vals x' ps') → k (sv l i A' I' x') = some true) :
    L24_BucketOnce_J9 (sv l i A I x0) v1 k x.1 x.2.2.1.1 x.2.2.1.2.1 x.2.2.1.2.2.1 x.2.1 A' = some true := by
  have hb2 := hb.flush hv1.1 hv1.2 hl hA
  rw [← hV] at hb2
  unfold L24_BucketOnce_J9
  refine loop_up (fun y => y) 16 (fun y => 0 ≤ y ∧ y ≤ 16) (fun _ => some true) ⟨Int.le_refl 0, by decide⟩ (by decide) ?_
  rintro k13 q ⟨q0, q4⟩ hk13
  unfold L24_BucketOnce_L7 sv
  dsimp only
  by_cases hj : q < 16
  · have hn := hk13 hj (q + 1) ⟨by omega, by omega⟩ rfl
    rw [bif_pos hj, chk_pos ⟨q0, hj⟩, w64 (by omega) (by omega), hn]
    by_cases hg : A'.getD q.toNat 0 > 0
    · rw [bif_pos hg, chk_pos ⟨q0, hj⟩]
      rw [hA q q0] at hg
      by_cases hm : q ∈ V.getD v1.toNat []
      · rw [if_pos hm] at hg; omega
      · rw [if_neg hm] at hg
        obtain ⟨k', a1, a2, a3⟩ := hb.b q q0 hj (by omega)
        have := (hb.a k' a1 a2 q a3).2.2.2
        rw [bif_neg (fun e => hm (by rw [← e, this]; exact a3))]
    · rw [bif_neg hg]
  · rw [bif_neg hj]
    unfold L24_BucketOnce_J8
    exact hk A' I x ps po hf hb2
theorem flush_mid {l : List (List Int)} {i : Int} (h0 : 0 ≤ i) (h1 : i ≤ 80) {A I : List Int} {V : List (List Int)} {x : Pl} {ps : List (List Int)} {po : List Int} (hf : Pf x ps po) (hb : BI i A I V) {v1 : Int} (hv1 : 0 ≤ v1 ∧ v1 < 4) (hV : vals x ps = V.set v1.toNat []) {r8 : Pl × ((List Int) × Unit)} (hr : r8.2.1 = V.getD v1.toNat []) (hrl : r8.2.1.length ≤ 1024) (x0 : Pl) (k : S10 → Option Bool)
    (hk : ∀ A' I' x' ps' po', Pf x' ps' po' → BI (i + 1) A' I' (vals x' ps') → k (sv l i A' I' x') = some true) :
    L24_BucketOnce_J10 r8 (sv l i A I x0) v1 k x.1 x.2.2.1.1 x.2.2.1.2.1 x.2.2.1.2.2.1 x.2.1 = some true := by
  have ha := hb.a v1 hv1.1 hv1.2
  have hc := hb.c v1 hv1.1 hv1.2
  have hnd := hb.nodup hv1.1 hv1.2
  have la := hb.la
  rw [← hr] at ha hc hnd
  unfold L24_BucketOnce_J10
  refine loop_up (fun (y : Int × Int × List Int) => y.2.1) (r8.2.1.length : Int) (fun y => 0 ≤ y.2.1 ∧ y.2.1 ≤ (r8.2.1.length : Int) ∧ y.2.2.length = 16 ∧ (∀ q : Int, 0 ≤ q → y.2.2.getD q.toNat 0 = if q ∈ r8.2.1.take y.2.1.toNat then 0 else A.getD q.toNat 0) ∧ ∀ q ∈ r8.2.1.drop y.2.1.toNat, y.1 < A.getD q.toNat 0) (fun _ => some true) ⟨Int.le_refl 0, by show (0 : Int) ≤ _; omega, la, fun q hq => (if_neg (by simp)).symm, fun q hq => (ha q (List.mem_of_mem_drop hq)).2.2.1⟩ (by show (r8.2.1.length : Int) - 0 < _; omega) ?_
  rintro k14 ⟨last, j, A'⟩ ⟨j0, j4, hl, hA', hlast⟩ hk14
  dsimp only at j0 j4 hl hA' hlast hk14
  unfold L24_BucketOnce_L8 sv
  dsimp only
  by_cases hj : j < (r8.2.1.length : Int)
  · obtain ⟨q, hq⟩ : ∃ q, r8.2.1.getD j.toNat 0 = q := ⟨_, rfl⟩
    have hqm : q ∈ r8.2.1 := by rw [← hq]; exact getD_mem j0 hj
    obtain ⟨a1, a2, a3, a4⟩ := ha q hqm
    have hd := drop_at (d := 0) j0 hj
    have htk := take_at (d := 0) j0 hj
    rw [hq] at hd htk
    have hsplit : r8.2.1 = r8.2.1.take j.toNat ++ (q :: r8.2.1.drop (j + 1).toNat) := by rw [← hd]; exact (List.take_append_drop _ _).symm
    have hnt : q ∉ r8.2.1.take j.toNat := fun hm => by
      rw [hsplit, List.nodup_append] at hnd
      exact hnd.2.2 q hm q List.mem_cons_self rfl
    have hAq := hA' q a1
    rw [if_neg hnt] at hAq
    have hlq := hlast q (by rw [hd]; exact List.mem_cons_self)
    rw [bif_pos hj, chk_pos ⟨j0, hj⟩, hq, bif_neg (by omega), bif_neg (by omega), chk_pos ⟨a1, a2⟩, hAq, bif_neg (by omega), chk_pos ⟨a1, a2⟩, bnot_pos a4, chk_pos ⟨a1, a2⟩, letv_eq, chk_pos ⟨a1, a2⟩, w64 (by omega) (by omega)]
    refine hk14 hj _ ⟨by show 0 ≤ j + 1; omega, by show j + 1 ≤ _; omega, by show (A'.set q.toNat 0).length = 16; rw [List.length_set]; exact hl, fun p hp => ?_, fun p hp => ?_⟩ rfl
    · show (A'.set q.toNat 0).getD p.toNat 0 = if p ∈ r8.2.1.take (j + 1).toNat then 0 else A.getD p.toNat 0
      rw [getD_set _ (by omega) hp, htk, hA' p hp]
      by_cases e : p = q
      · rw [if_pos e, if_pos (by rw [e]; simp)]
      · rw [if_neg e]
        have : p ∈ r8.2.1.take j.toNat ++ [q] ↔ p ∈ r8.2.1.take j.toNat := by simp [e]
        simp only [this]
    · show A.getD q.toNat 0 < A.getD p.toNat 0
      rw [hsplit, List.pairwise_append] at hc
      exact (List.pairwise_cons.1 hc.2.1).1 p hp
  · rw [bif_neg hj]
    rw [List.take_of_length_le (by omega), hr] at hA'
    exact flush_last h0 h1 hf hb hv1 hV hl hA' x0 k hk
theorem flush_step {l : List (List Int)} {i : Int} (h0 : 0 ≤ i) (h1 : i ≤ 80) {A I : List Int} {x : Pl} {ps : List (List Int)} {po : List Int} (hf : Pf x ps po) (hb : BI i A I (vals x ps)) {v1 : Int} (hv1 : 0 ≤ v1 ∧ v1 < 4) (k : S10 → Option Bool)
    (hk : ∀ A' I' x' ps' po', Pf x' ps' po' → BI (i + 1) A' I' (vals x' ps') → k (sv l i A' I' x') = some true) :
    (Option.bind (queue_Pool_List x v1) fun r8 => loop (L24_BucketOnce_L11 (r8.2.1.length : Int) v1 (sv l i A I x) k r8) (0, r8.1.1, r8.1.2.2.1.1, r8.1.2.2.1.2.1, r8.1.2.2.1.2.2.1, r8.1.2.1)) = some true := by
  have hp5 := hf.p
  obtain ⟨lv1, lv2⟩ := list_val (q := v1) hf.fit hv1.1 (by omega)
  have lv5 := hb.lv
  rw [lv1]
  refine bind_t ?_
  dsimp only
  refine loop_up (fun (y : Int × (List (Int × Int × Unit)) × Int × Int × Int × (List (Int × Int × Int × Unit))) => y.1) (((vals x ps).getD v1.toNat []).length : Int) (fun y => 0 ≤ y.1 ∧ y.1 ≤ (((vals x ps).getD v1.toNat []).length : Int) ∧ ∃ x' ps' po', Pf x' ps' po' ∧ vals x' ps' = (vals x ps).set v1.toNat (((vals x ps).getD v1.toNat []).drop y.1.toNat) ∧ y = (y.1, x'.1, x'.2.2.1.1, x'.2.2.1.2.1, x'.2.2.1.2.2.1, x'.2.1)) (fun _ => some true) ⟨Int.le_refl 0, by show (0 : Int) ≤ _; omega, x, ps, po, hf, ?_, rfl⟩ (by show (((vals x ps).getD v1.toNat []).length : Int) - 0 < _; omega) ?_
  · show vals x ps = (vals x ps).set v1.toNat ((vals x ps).getD v1.toNat [])
    obtain ⟨a, z, b, e, ea, ez⟩ := split_at (d := []) (s := vals x ps) hv1.1 (by omega)
    rw [ez]
    conv => rhs; rw [e, set_mid ea]
    exact e
  · rintro k15 y ⟨j0, j4, x', ps', po', hf', hV, hy⟩ hk15
    obtain ⟨j, hj'⟩ : ∃ q, y.1 = q := ⟨_, rfl⟩
    rw [hj'] at j0 j4 hV hy hk15
    subst hy
    unfold L24_BucketOnce_L11
    dsimp only
    by_cases hj : j < (((vals x ps).getD v1.toNat []).length : Int)
    · rw [bif_pos hj, x_eta]
      have hg : (vals x' ps').getD v1.toNat [] = ((vals x ps).getD v1.toNat []).getD j.toNat 0 :: ((vals x ps).getD v1.toNat []).drop (j + 1).toNat := by
        rw [hV, getD_set _ (by omega) hv1.1, if_pos rfl, ← drop_at (d := 0) j0 hj]
      have := hf'.p
      obtain ⟨x2, ps2, po2, f1, f2, f3, f4, f5⟩ := pop_val hf'.fit hv1.1 (by omega) hg
      rw [f4]
      refine bind_t ((bnot_pos (show (0 : Int) = 0 from rfl)).trans ?_)
      have hn := hf'.n
      rw [w64 (by omega) (by omega)]
      refine hk15 hj _ ⟨by show 0 ≤ j + 1; omega, by show j + 1 ≤ _; omega, x2, ps2, po2, ⟨f1, by omega, by omega⟩, ?_, rfl⟩ rfl
      rw [f5, hV, List.set_set]
    · rw [bif_neg hj]
      rw [drop_end hj] at hV
      exact flush_mid h0 h1 hf' hb hv1 hV rfl (by dsimp only; omega) x k hk
theorem once_loop {l : List (List Int)} (hl : l.length ≤ 80) (hN : ∀ y ∈ l, Num3 y) {x : Pl} {ps : List (List Int)} {po : List Int} (hf : Pf x ps po) (hb : BI 0 (List.replicate 16 0) (List.replicate 16 0) (vals x ps)) : loop L24_BucketOnce_L15 (sv l 0 (List.replicate 16 0) (List.replicate 16 0) x) = some true := by
  refine loop_up (fun (y : S10) => y.2.2.1) (l.length : Int) (fun (y : S10) => 0 ≤ y.2.2.1 ∧ ∃ A I x ps po, Pf x ps po ∧ BI y.2.2.1 A I (vals x ps) ∧ y = sv l y.2.2.1 A I x) (fun _ => some true) ⟨Int.le_refl 0, _, _, x, ps, po, hf, hb, rfl⟩ (by show (l.length : Int) - 0 < _; omega) ?_
  rintro k y ⟨h0, A, I, x, ps, po, hf, hb, hy⟩ hk
  obtain ⟨i, hi⟩ : ∃ i, y.2.2.1 = i := ⟨_, rfl⟩
  rw [hi] at h0 hy hk hb
  subst hy
  unfold L24_BucketOnce_L15
  by_cases hj : i < (l.length : Int)
  · refine (bif_pos (show (sv l i A I x).2.2.1 < (sv l i A I x).2.1 from hj)).trans ?_
    rw [cutv_eq]
    have hk' : ∀ A' I' x' ps' po', Pf x' ps' po' → BI (i + 1) A' I' (vals x' ps') → L24_BucketOnce_R5 k (sv l i A' I' x') = some true := fun A' I' x' ps' po' a b => by
      rw [R5_eq l h0 (by omega)]
      exact hk hj _ ⟨by show 0 ≤ i + 1; omega, A', I', x', ps', po', a, b, rfl⟩ rfl
    unfold L24_BucketOnce_C5
    obtain ⟨z, hz⟩ : ∃ z, l.getD i.toNat (List.replicate 3 0) = z := ⟨_, rfl⟩
    have hzm : z ∈ l := by rw [← hz]; exact getD_mem h0 hj
    obtain ⟨n1, n2⟩ := hN z hzm
    rw [chk_pos (show 0 ≤ (sv l i A I x).2.2.1 ∧ (sv l i A I x).2.2.1 < ((sv l i A I x).1.length : Int) from ⟨h0, hj⟩), chk_pos (by decide), chk_pos (by decide), chk_pos (by decide), chk_pos (by decide), letv_eq, letv_eq, chk_pos (by decide), chk_pos (by decide)]
    rw [show (sv l i A I x).1.getD (sv l i A I x).2.2.1.toNat (List.replicate 3 0) = z from hz]
    have e1 : IntKind.i64.wrap (Int.tmod (z.getD (1 : Int).toNat 0) 4) = k1 z := w64 (by have := n1.1; have : k1 z = Int.tmod (z.getD (1 : Int).toNat 0) 4 := rfl; omega) (by have := n1.1; have : k1 z = Int.tmod (z.getD (1 : Int).toNat 0) 4 := rfl; omega)
    have e2 : IntKind.i64.wrap (Int.tmod (z.getD (2 : Int).toNat 0) 16) = k2 z := w64 (by have := n1.1; have : k2 z = Int.tmod (z.getD (2 : Int).toNat 0) 16 := rfl; omega) (by have := n1.1; have : k2 z = Int.tmod (z.getD (2 : Int).toNat 0) 16 := rfl; omega)
    rw [e1, e2]
    by_cases hg : Int.tmod (z.getD (0 : Int).toNat 0) 3 > 0
    · rw [bif_pos hg]
      exact fall_step h0 (by omega) hf hb n1 n2 _ hk'
    · rw [bif_neg hg, bif_pos (show k1 z ≥ 0 from n1.1), decide_eq_true n1.2]
      refine (cond_tt _ _).trans ?_
      rw [bif_pos (show k1 z ≥ 0 from n1.1)]
      refine (cond_tt _ _).trans ?_
      exact flush_step h0 (by omega) hf hb n1 _ hk'
  · refine (bif_neg (show ¬ (sv l i A I x).2.2.1 < (sv l i A I x).2.1 from hj)).trans ?_
    unfold L24_BucketOnce_J3
    rw [alive24]; rfl
theorem bi0 : BI 0 (List.replicate 16 0) (List.replicate 16 0) (List.replicate 5 []) := by
  have z : ∀ p : Nat, (List.replicate 16 (0 : Int)).getD p 0 = 0 := fun p => by
    rw [List.getD_eq_getElem?_getD, List.getElem?_replicate]; split <;> rfl
  have e : ∀ p : Nat, (List.replicate 5 ([] : List Int)).getD p [] = [] := fun p => by
    rw [List.getD_eq_getElem?_getD, List.getElem?_replicate]; split <;> rfl
  refine ⟨rfl, rfl, rfl, rfl, fun k _ _ q hq => ?_, fun p _ _ hp => absurd (z _) hp, fun k _ _ => ?_, fun p _ _ => ?_⟩
  · rw [e] at hq; cases hq
  · rw [e]; exact List.Pairwise.nil
  · rw [z]; omega
theorem R1B_eq {l : List (List Int)} (hN : ∀ y ∈ l, Num3 y) {x : Pl} {ps : List (List Int)} {po : List Int} (hf : Pf x ps po) (hv : vals x ps = List.replicate 5 []) : L24_BucketOnce_R1 (l, x.1, x.2.2.1.1, x.2.2.1.2.1, x.2.2.1.2.2.1, x.2.1) = some true := by
  unfold L24_BucketOnce_R1
  dsimp only
  by_cases h1 : (l.length : Int) > 80
  · rw [bif_pos h1, alive24]; rfl
  · rw [bif_neg h1]
    exact once_loop (by omega) hN hf (by rw [hv]; exact bi0)
theorem nodesB_eq {l : List (List Int)} (hN : ∀ y ∈ l, Num3 y) :
    loop (L24_BucketOnce_L1 16 L24_BucketOnce_R1 l (List.replicate 5 (-1, -1, 0, ()))) (0, List.replicate 16 (0, 0, ()), -1, -1, 0) = some true := by
  refine loop_up (fun y => y.1) 16 (fun y => 0 ≤ y.1 ∧ y.1 ≤ 16 ∧ (y.2.1.length : Int) = 16 ∧ Rep y.2.1 (upto y.1.toNat) (y.2.2.1, y.2.2.2.1, y.2.2.2.2, ())) (fun _ => some true) ⟨by simp, by show (0 : Int) ≤ 16; decide, by rw [List.length_replicate]; rfl, rep_nil _⟩ (by show (16 : Int) - 0 < _; decide) ?_
  rintro k ⟨i, ns, f, z, m⟩ ⟨h0, hi, hn, hr⟩ hk
  dsimp only at h0 hi hn hr hk
  unfold L24_BucketOnce_L1
  dsimp only
  by_cases hj : i < 16
  · rw [bif_pos hj]
    refine (hang_step k hr h0 (by omega) (by omega)).trans ?_
    exact hk hj _ ⟨by dsimp only; omega, by dsimp only; omega, by dsimp only; rw [hang_len]; exact hn, hang_next hr h0 (by omega)⟩ rfl
  · rw [bif_neg hj]
    unfold L24_BucketOnce_J1
    have e : i.toNat = ns.length := by omega
    rw [e] at hr
    have hf := new_fit (q := 5) hr (by omega) (by omega) (by omega)
    exact R1B_eq hN ⟨hf, by show ns.length = 16; omega, by simp⟩ (by rw [new_vals])
theorem linesB_eq {l : List (List Int)} (hN : ∀ y ∈ l, Num3 y) :
    loop (L24_BucketOnce_L2 (List.replicate 16 (0, 0, ())) L24_BucketOnce_R1 l) (0, []) = some true := by
  refine loop_up (fun y => y.1) 5 (fun y => 0 ≤ y.1 ∧ y.1 ≤ 5 ∧ y.2 = List.replicate y.1.toNat (-1, -1, 0, ())) (fun _ => some true) ⟨by simp, by show (0 : Int) ≤ 5; decide, rfl⟩ (by show (5 : Int) - 0 < _; decide) ?_
  rintro k ⟨i, ls⟩ ⟨h0, hi, hn⟩ hk
  dsimp only at h0 hi hn hk
  subst hn
  unfold L24_BucketOnce_L2
  dsimp only
  by_cases hj : i < 5
  · rw [bif_pos hj, chk_pos (by simp; omega), w64 (by omega) (by omega), repl_snoc]
    exact hk hj _ ⟨by dsimp only; omega, by dsimp only; omega, by dsimp only; rw [show (i + 1).toNat = i.toNat + 1 by omega]⟩ rfl
  · rw [bif_neg hj]
    unfold L24_BucketOnce_J2
    rw [show i.toNat = 5 by omega, List.length_replicate]
    exact nodesB_eq hN
theorem once_main (l : List (List Int)) (hN : ∀ y ∈ l, Num3 y) : L24_BucketOnce l = some true := by
  unfold L24_BucketOnce L24_BucketOnce_C1
  rw [cutv_eq, chk_pos (by decide), letv_eq]
  exact linesB_eq hN
theorem num_of {y : List Int} (h : wfD (.arr 3 (.int .u8)) y) : Num3 y := by
  have h1 := u8_at h 1
  have h2 := u8_at h 2
  unfold Num3 k1 k2
  rw [Int.tmod_eq_emod_of_nonneg h1.1, Int.tmod_eq_emod_of_nonneg h2.1]
  omega
end Bo
theorem law_L24_BucketOnce : ∀ x : ((.pair (.sl (.arr 3 (.int .u8))) .unit) : Ty).den, wfD (.pair (.sl (.arr 3 (.int .u8))) .unit) x → L24_BucketOnce x.1 = some true := by
  exact fun x hw => Bo.once_main x.1 fun y hy => Bo.num_of ((wfl hw.1).2 y hy)
end Go.Proofs.YtiicmhholjpcbaaV
