import Derived.Test.YtbkccpddkpclaaaGreatDoorBMMReadyGuards
import Derived.Test.YtbkccpddkpclaaaGreatDoorBDDReady
namespace Go.Proofs.YtbkccpddkpclaaaGreatDoorV
set_option linter.unusedVariables false
set_option linter.unusedSimpArgs false
open Go.RowKit
namespace Rd
theorem loop_q {X R : Type} {F : (X → Option R) → X → Option R} (idx : X → Int) (n : Int) (inv : X → Prop) (Q : Option R → Prop) {x : X} (hx : inv x) (hn : n - idx x < 1152921504606846976)
    (h : ∀ k x, inv x → (idx x < n → ∀ y, inv y → idx y = idx x + 1 → Q (k y)) → Q (F k x)) : Q (loop F x) := by
  have key : ∀ m x, inv x → (n - idx x).toNat < m → Q (fixN F m x) := by
    intro m
    induction m with
    | zero => intro x _ h; omega
    | succ m ih => intro x hi hm; exact h _ x hi fun hl y hy he => ih y hy (by omega)
  unfold loop
  exact key FUEL x hx (by rw [FUEL_eq]; omega)
def Ex {R : Type} (P : R → Prop) (o : Option R) : Prop := ∃ r, o = some r ∧ P r
theorem Ex.bind {α R : Type} {P : R → Prop} {A : α → Prop} {o : Option α} {f : α → Option R} (h : Ex A o) (hf : ∀ a, A a → Ex P (f a)) : Ex P (Option.bind o f) := by
  obtain ⟨a, rfl, ha⟩ := h
  exact hf a ha
theorem Ex.of {R : Type} {P : R → Prop} {r : R} (h : P r) : Ex P (some r) := ⟨r, rfl, h⟩
theorem Ex.eq {R : Type} {P : R → Prop} {o : Option R} {r : R} (e : o = some r) (h : P r) : Ex P o := ⟨r, e, h⟩
theorem Ex.to {R : Type} {P Q : R → Prop} {o : Option R} (h : Ex P o) (hq : ∀ r, P r → Q r) : Ex Q o := by
  obtain ⟨r, e, h⟩ := h
  exact ⟨r, e, hq r h⟩
theorem getD_set {α : Type} (l : List α) (k i : Nat) (x d : α) : (l.set k x).getD i d = if i = k ∧ k < l.length then x else l.getD i d := by
  simp only [List.getD_eq_getElem?_getD, List.getElem?_set]
  by_cases e : k = i
  · subst e
    by_cases h : k < l.length
    · simp [h]
    · simp [h]
  · rw [if_neg e, if_neg (fun h => e h.1.symm)]
def inW (c : Ch) : List Int := c.2.2.2.2.2.1.2.1
def outW (c : Ch) : List Int := c.2.2.2.1.2.1
structure Sz (n : Nat) (c : Ch) : Prop where
  a : c.2.2.1.length ≤ n
  b : c.2.2.2.1.2.1.length ≤ n
  d : c.2.2.2.2.1.length ≤ n
  e : c.2.2.2.2.2.1.2.1.length ≤ n
theorem Sz.small {n : Nat} {c : Ch} (h : Sz n c) (hn : n ≤ 1000) : channel.Small c := ⟨by have := h.a; omega, by have := h.b; omega, by have := h.d; omega, by have := h.e; omega⟩
theorem Sz.up {n m : Nat} {c : Ch} (h : Sz n c) (hn : n ≤ m) : Sz m c := ⟨by have := h.a; omega, by have := h.b; omega, by have := h.d; omega, by have := h.e; omega⟩
theorem join_who (l : claims.Line) (p : Int) : (∀ q, q ∈ (claims.join l p).1.2.1 → q ∈ l.2.1 ∨ q = p) ∧ (claims.join l p).1.2.1.length ≤ l.2.1.length + 1 := by
  have same : (∀ q, q ∈ l.2.1 → q ∈ l.2.1 ∨ q = p) ∧ l.2.1.length ≤ l.2.1.length + 1 := ⟨fun q h => .inl h, by omega⟩
  unfold claims.join
  split
  · exact same
  split
  · exact same
  split
  · exact same
  split
  · exact same
  refine ⟨fun q h => ?_, by simp⟩
  rcases List.mem_append.1 h with h | h
  · exact .inl h
  · exact .inr (List.mem_singleton.1 h)
theorem recv_who {n : Nat} {c : Ch} (h : Sz n c) (p : Int) : Sz (n + 1) (channel.recv c p).1 ∧ outW (channel.recv c p).1 = outW c ∧ ∀ q, q ∈ inW (channel.recv c p).1 → q ∈ inW c ∨ q = p := by
  obtain ⟨j1, j2⟩ := join_who c.2.2.2.2.2.1 p
  have := h.e
  unfold channel.recv
  split
  · exact ⟨h.up (by omega), rfl, fun q h => .inl h⟩
  split
  · exact ⟨⟨by have := h.a; dsimp only; omega, by have := h.b; dsimp only; omega, by have := h.d; dsimp only; omega, by dsimp only; omega⟩, rfl, j1⟩
  · exact ⟨h.up (by omega), rfl, fun q h => .inl h⟩
theorem send_who {n : Nat} {c : Ch} (h : Sz n c) (p v : Int) : Sz (n + 1) (channel.send c p v).1 ∧ inW (channel.send c p v).1 = inW c ∧ ∀ q, q ∈ outW (channel.send c p v).1 → q ∈ outW c ∨ q = p := by
  obtain ⟨j1, j2⟩ := join_who c.2.2.2.1 p
  have := h.b
  unfold channel.send
  split
  · exact ⟨h.up (by omega), rfl, fun q h => .inl h⟩
  split
  · exact ⟨h.up (by omega), rfl, fun q h => .inl h⟩
  split
  · exact ⟨⟨by have := h.a; dsimp only; omega, by dsimp only; omega, by have := h.d; dsimp only; rw [List.length_append, List.length_singleton]; omega, by have := h.e; dsimp only; omega⟩, rfl, j1⟩
  · exact ⟨h.up (by omega), rfl, fun q h => .inl h⟩
structure Grow (t to : List Ch) (p : Int) (l : List Gd) (n : Nat) : Prop where
  len : to.length = t.length
  sz : ∀ c ∈ to, Sz n c
  inn : ∀ (i : Nat) q, q ∈ inW (to.getD i C0) → q ∈ inW (t.getD i C0) ∨ (q = p ∧ ∃ g ∈ l, g.1 = 1 ∧ g.2.1 = (i : Int))
  out : ∀ (i : Nat) q, q ∈ outW (to.getD i C0) → q ∈ outW (t.getD i C0) ∨ (q = p ∧ ∃ g ∈ l, g.1 = 2 ∧ g.2.1 = (i : Int))
theorem Grow.up {t to : List Ch} {p : Int} {l : List Gd} {n m : Nat} (h : Grow t to p l n) (hn : n ≤ m) : Grow t to p l m := ⟨h.len, fun c hc => (h.sz c hc).up hn, h.inn, h.out⟩
theorem sz_set {n : Nat} {b : List Ch} {i : Nat} {x : Ch} (h : ∀ c ∈ b, Sz n c) (hx : Sz (n + 1) x) : ∀ c ∈ b.set i x, Sz (n + 1) c := fun c hc => by
  rcases List.mem_or_eq_of_mem_set hc with h1 | h1
  · exact (h c h1).up (by omega)
  · subst h1; exact hx
theorem Grow.set_in {t to : List Ch} {p : Int} {l : List Gd} {n : Nat} (h : Grow t to p l n) {g : Gd} (hg : g ∈ l) (h1 : g.1 = 1) (h0 : 0 ≤ g.2.1) (hi : g.2.1 < (to.length : Int)) : Grow t (to.set g.2.1.toNat (channel.recv (to.getD g.2.1.toNat C0) p).1) p l (n + 1) := by
  have hr := recv_who (h.sz _ (getD_mem (d := C0) h0 hi)) p
  refine ⟨by rw [List.length_set]; exact h.len, sz_set h.sz hr.1, fun i q hq => ?_, fun i q hq => ?_⟩
  · rw [getD_set] at hq
    by_cases e : i = g.2.1.toNat ∧ g.2.1.toNat < to.length
    · rw [if_pos e] at hq
      rcases hr.2.2 q hq with h2 | h2
      · rw [← e.1] at h2; exact h.inn i q h2
      · exact .inr ⟨h2, g, hg, h1, by omega⟩
    · rw [if_neg e] at hq; exact h.inn i q hq
  · rw [getD_set] at hq
    by_cases e : i = g.2.1.toNat ∧ g.2.1.toNat < to.length
    · rw [if_pos e, hr.2.1, ← e.1] at hq; exact h.out i q hq
    · rw [if_neg e] at hq; exact h.out i q hq
theorem Grow.set_out {t to : List Ch} {p : Int} {l : List Gd} {n : Nat} (h : Grow t to p l n) {g : Gd} (hg : g ∈ l) (h1 : g.1 = 2) (h0 : 0 ≤ g.2.1) (hi : g.2.1 < (to.length : Int)) (v : Int) : Grow t (to.set g.2.1.toNat (channel.send (to.getD g.2.1.toNat C0) p v).1) p l (n + 1) := by
  have hr := send_who (h.sz _ (getD_mem (d := C0) h0 hi)) p v
  refine ⟨by rw [List.length_set]; exact h.len, sz_set h.sz hr.1, fun i q hq => ?_, fun i q hq => ?_⟩
  · rw [getD_set] at hq
    by_cases e : i = g.2.1.toNat ∧ g.2.1.toNat < to.length
    · rw [if_pos e, hr.2.1, ← e.1] at hq; exact h.inn i q hq
    · rw [if_neg e] at hq; exact h.inn i q hq
  · rw [getD_set] at hq
    by_cases e : i = g.2.1.toNat ∧ g.2.1.toNat < to.length
    · rw [if_pos e] at hq
      rcases hr.2.2 q hq with h2 | h2
      · rw [← e.1] at h2; exact h.out i q h2
      · exact .inr ⟨h2, g, hg, h1, by omega⟩
    · rw [if_neg e] at hq; exact h.out i q hq
theorem offer_ex (t : List Ch) (p : Int) (l : List Gd) (al : Bool) (n : Nat) (ht : t.length ≤ 8) (hs : ∀ c ∈ t, Sz n c) (hn : n ≤ 100) (hl : l.length ≤ 6) : Ex (fun r => r.2.2.1 = 0 → Grow t r.1 p l (n + 6)) (R19_Offer t p l al) := by
  unfold R19_Offer
  refine loop_q (fun x : List Ch × Int => x.2) (l.length : Int) (fun x => 0 ≤ x.2 ∧ x.2 ≤ (l.length : Int) ∧ Grow t x.1 p l (n + x.2.toNat)) _ ⟨Int.le_refl 0, by dsimp only; omega, ⟨rfl, hs, fun i q h => .inl h, fun i q h => .inl h⟩⟩ (by dsimp only; omega) ?_
  rintro k ⟨to, j⟩ ⟨h0, h1, hg⟩ hk
  dsimp only at h0 h1 hg hk
  unfold R19_Offer_L1
  dsimp only
  by_cases hj : j < (l.length : Int)
  · have hm := getD_mem (d := (0, 0, 0, 0, 0, ())) h0 hj
    have hlen := hg.len
    have hk := fun y hy => hk hj (y, j + 1) ⟨by dsimp only; omega, by dsimp only; omega, hy⟩ rfl
    have e1 : (j + 1).toNat = j.toNat + 1 := by omega
    dsimp only at hk
    rw [e1] at hk
    have J2 : ∀ r : Ch × Int × Unit, 0 ≤ (l.getD j.toNat (0, 0, 0, 0, 0, ())).2.1 → (l.getD j.toNat (0, 0, 0, 0, 0, ())).2.1 < (to.length : Int) → (r.2.1 = 0 → Grow t (to.set (l.getD j.toNat (0, 0, 0, 0, 0, ())).2.1.toNat r.1) p l (n + (j.toNat + 1))) → Ex (fun r => r.2.2.1 = 0 → Grow t r.1 p l (n + 6)) (R19_Offer_J2 t (to, j) l k r.2.1 r.1.1.1 r.1.1.2.1 r.1.1.2.2.1 r.1.1.2.2.2.1 r.1.2.1 r.1.2.2.1 r.1.2.2.2.1.1 r.1.2.2.2.1.2.1 r.1.2.2.2.2.1 r.1.2.2.2.2.2.1.1 r.1.2.2.2.2.2.1.2.1) := by
      intro r o0 o1 hr
      unfold R19_Offer_J2
      by_cases he : r.2.1 = 0
      · rw [bnot_pos he]
        dsimp only
        rw [chantab.put_eq _ _ _ o0 o1 (by omega), w64 (by omega) (by omega)]
        exact hk _ (hr he)
      · rw [bnot_neg he]
        exact Ex.of fun h => absurd h he
    have J3 : (l.getD j.toNat (0, 0, 0, 0, 0, ())).1 = 1 ∨ (l.getD j.toNat (0, 0, 0, 0, 0, ())).1 = 2 → 0 ≤ (l.getD j.toNat (0, 0, 0, 0, 0, ())).2.1 → (l.getD j.toNat (0, 0, 0, 0, 0, ())).2.1 < (to.length : Int) → Ex (fun r => r.2.2.1 = 0 → Grow t r.1 p l (n + 6)) (R19_Offer_J3 l (to, j) p t k) := by
      intro kd o0 o1
      have hsm := (hg.sz _ (getD_mem (d := C0) o0 o1)).small (by omega)
      have er := channel.rrecv_eq _ p hsm
      have es := channel.rsend_eq _ p (l.getD j.toNat (0, 0, 0, 0, 0, ())).2.2.1 hsm
      unfold C0 at er es
      unfold R19_Offer_J3
      dsimp only
      rw [chk_pos ⟨o0, o1⟩, er, chk_pos ⟨o0, o1⟩, es]
      show Ex _ (cond _ (R19_Offer_J2 _ _ _ _ _ _ _ _ _ _ _ _ _ _ _ _) (R19_Offer_J2 _ _ _ _ _ _ _ _ _ _ _ _ _ _ _ _))
      rcases kd with kd | kd
      · rw [bif_neg (by omega)]
        exact J2 _ o0 o1 fun _ => hg.set_in hm kd o0 o1
      · rw [bif_pos kd]
        exact J2 _ o0 o1 fun _ => hg.set_out hm kd o0 o1 _
    have J4 : (l.getD j.toNat (0, 0, 0, 0, 0, ())).1 = 1 ∨ (l.getD j.toNat (0, 0, 0, 0, 0, ())).1 = 2 → Ex (fun r => r.2.2.1 = 0 → Grow t r.1 p l (n + 6)) (R19_Offer_J4 t l (to, j) al p k) := by
      intro kd
      have no : ∀ e : Int, e ≠ 0 → Ex (fun r : List Ch × Int × Int × Unit => r.2.2.1 = 0 → Grow t r.1 p l (n + 6)) (some (t, j, e, ())) := fun e he => Ex.of fun h => absurd h he
      unfold R19_Offer_J4
      dsimp only
      rw [chantab.ris_eq]
      by_cases o : 0 ≤ (l.getD j.toNat (0, 0, 0, 0, 0, ())).2.1 ∧ (l.getD j.toNat (0, 0, 0, 0, 0, ())).2.1 < (t.length : Int)
      · have j3 := J3 kd o.1 (by omega)
        rw [decide_eq_true o]
        show Ex _ (cond al _ _)
        cases al with
        | false => exact j3
        | true =>
          rw [chk_pos (by omega), chk_pos (by omega)]
          refine (show ∀ {a b : Option _}, Ex _ a → Ex _ (cond true a b) from fun h => h) ?_
          have two : ∀ a b : Bool, Ex (fun r : List Ch × Int × Int × Unit => r.2.2.1 = 0 → Grow t r.1 p l (n + 6)) (cond a (cond b (some (t, j, 12, ())) (R19_Offer_J3 l (to, j) p t k)) (R19_Offer_J3 l (to, j) p t k)) := by
            intro a b
            cases a
            · exact j3
            · cases b
              · exact j3
              · exact no 12 (by decide)
          cases decide ((l.getD j.toNat (0, 0, 0, 0, 0, ())).1 = 1) with
          | false => exact two _ _
          | true =>
            show Ex _ (cond _ _ _)
            generalize (to.getD (l.getD j.toNat (0, 0, 0, 0, 0, ())).2.1.toNat ((0, 0, 0, 0, ()), 0, [], (false, [], ()), [], (false, [], ()), ())).2.2.2.2.2.1.1 = b
            cases b with
            | true => exact no 12 (by decide)
            | false => exact two _ _
      · rw [decide_eq_false o]
        exact no 8 (by decide)
    rw [bif_pos hj, chk_at h0 hj]
    by_cases k1 : (l.getD j.toNat (0, 0, 0, 0, 0, ())).1 = 1
    · rw [bnot_pos k1]; exact J4 (.inl k1)
    · rw [bnot_neg k1]
      by_cases k2 : (l.getD j.toNat (0, 0, 0, 0, 0, ())).1 = 2
      · rw [bnot_pos k2]; exact J4 (.inr k2)
      · rw [bnot_neg k2, w64 (by omega) (by omega)]
        exact hk _ (hg.up (by omega))
  · rw [bif_neg hj]
    exact Ex.of fun _ => hg.up (by omega)
def atW (b : Bar) : List Int := b.2.1.2.1
def LB (b : Bar) : Prop := b.2.1.1.length ≤ 256 ∧ b.2.1.2.1.length ≤ 256
def D0 : Bar := ((false, 0, ()), ([], [], ()), 0, ())
theorem fine21_ex (r : List Int × List Int × Unit) (h1 : r.1.length ≤ 256) (h2 : r.2.1.length ≤ 256) : Ex (fun _ => True) (R21_Fine r) := by
  unfold R21_Fine
  refine loop_q (fun x : Int => x) (r.1.length : Int) (fun x => 0 ≤ x) _ (Int.le_refl 0) (by omega) ?_
  intro k j h0 hk
  unfold R21_Fine_L1
  by_cases hj : j < (r.1.length : Int)
  · rw [bif_pos hj, chk_at h0 hj, chk_at h0 hj, w64 (by omega) (by omega)]
    by_cases a : r.1.getD j.toNat 0 < 0
    · rw [bif_pos a]; exact Ex.of trivial
    · rw [bif_neg a]
      by_cases b : r.1.getD j.toNat 0 > 15
      · rw [bif_pos b]; exact Ex.of trivial
      · rw [bif_neg b]; exact hk hj _ (by omega) rfl
  · rw [bif_neg hj]
    unfold R21_Fine_J1
    rw [BS.rLess_eq _ _ (by omega) (by omega)]
    exact Ex.of trivial
theorem asked21_ex (r : List Int × List Int × Unit) (h1 : r.1.length ≤ 256) (h2 : r.2.1.length ≤ 256) (p : Int) : Ex (fun _ => True) (R21_asked r p) := by
  unfold R21_asked
  refine (fine21_ex r h1 h2).bind fun b _ => ?_
  cases b with
  | false => exact Ex.of trivial
  | true =>
    refine (show ∀ {a b : Option _}, Ex _ b → Ex _ (cond (!true) a b) from fun h => h) ?_
    by_cases a : p < 0
    · rw [bif_pos a]; exact Ex.of trivial
    · rw [bif_neg a]
      by_cases b : p > 15
      · rw [bif_pos b]; exact Ex.of trivial
      · rw [bif_neg b]; exact Ex.of trivial
theorem enrol21_ex (r : List Int × List Int × Unit) (h1 : r.1.length ≤ 256) (h2 : r.2.1.length ≤ 256) (p : Int) : Ex (fun x => x.1.1.length ≤ 256 ∧ x.1.2.1 = r.2.1) (R21_Enrol r p) := by
  unfold R21_Enrol
  refine (asked21_ex r h1 h2 p).bind fun e _ => ?_
  by_cases he : e = 0
  · rw [bnot_pos he, BS.rHas_eq _ _ (by omega), BS.rAdd_eq _ _ (by omega)]
    refine (show ∀ (b : Bool) {a c : Option ((List Int × List Int × Unit) × Int × Unit)}, Ex (fun x => x.1.1.length ≤ 256 ∧ x.1.2.1 = r.2.1) a → Ex (fun x => x.1.1.length ≤ 256 ∧ x.1.2.1 = r.2.1) c → Ex (fun x => x.1.1.length ≤ 256 ∧ x.1.2.1 = r.2.1) (cond b a c) from fun b => by cases b <;> exact fun h1 h2 => by assumption) _ (Ex.of ⟨h1, rfl⟩) (Ex.of ⟨BS.ids_len _, rfl⟩)
  · rw [bnot_neg he]; exact Ex.of ⟨h1, rfl⟩
theorem offer21_ex (r : List Int × List Int × Unit) (h1 : r.1.length ≤ 256) (h2 : r.2.1.length ≤ 256) (p : Int) : Ex (fun x => x.1.1 = r.1 ∧ x.1.2.1.length ≤ 256 ∧ ∀ q ∈ x.1.2.1, q ∈ r.2.1 ∨ q = p) (R21_Offer r p) := by
  have same : ∀ e : Int, Ex (fun x : (List Int × List Int × Unit) × Int × Unit => x.1.1 = r.1 ∧ x.1.2.1.length ≤ 256 ∧ ∀ q ∈ x.1.2.1, q ∈ r.2.1 ∨ q = p) (some (r, e, ())) := fun e => Ex.of ⟨rfl, h2, fun q h => .inl h⟩
  have two : ∀ (b : Bool) {a c : Option ((List Int × List Int × Unit) × Int × Unit)}, Ex (fun x => x.1.1 = r.1 ∧ x.1.2.1.length ≤ 256 ∧ ∀ q ∈ x.1.2.1, q ∈ r.2.1 ∨ q = p) a → Ex (fun x => x.1.1 = r.1 ∧ x.1.2.1.length ≤ 256 ∧ ∀ q ∈ x.1.2.1, q ∈ r.2.1 ∨ q = p) c → Ex (fun x => x.1.1 = r.1 ∧ x.1.2.1.length ≤ 256 ∧ ∀ q ∈ x.1.2.1, q ∈ r.2.1 ∨ q = p) (cond b a c) := fun b => by cases b <;> exact fun h1 h2 => by assumption
  unfold R21_Offer
  refine (asked21_ex r h1 h2 p).bind fun e _ => ?_
  by_cases he : e = 0
  · rw [bnot_pos he, BS.rHas_eq _ _ (by omega), BS.rHas_eq _ _ (by omega), BS.rAdd_eq _ _ (by omega)]
    refine two _ (same 6) (two _ (same 7) (Ex.of ⟨rfl, BS.ids_len _, fun q hq => ?_⟩))
    obtain ⟨a, b, c⟩ := BS.ids_mem.1 hq
    have c := of_decide_eq_true c
    rw [show ((q.toNat : Nat) : Int) = q by omega] at c
    rcases List.mem_append.1 c with c | c
    · exact .inl c
    · exact .inr (List.mem_singleton.1 c)
  · rw [bnot_neg he]; exact same _
theorem fine22_ex {b : Bar} (h : LB b) : Ex (fun _ => True) (R22_Fine b) := by
  unfold R22_Fine
  rw [BS.r20_eq]
  show Ex _ (cond _ _ _)
  cases BS.ph b.2.2.1 b.1.2.1 with
  | false => exact Ex.of trivial
  | true =>
    obtain ⟨r, e, _⟩ := fine21_ex b.2.1 h.1 h.2
    show Ex _ (Option.bind _ _)
    rw [e]
    exact Ex.of trivial
theorem enrol22_ex {b : Bar} (h : LB b) (p : Int) : Ex (fun x => LB x.1 ∧ atW x.1 = atW b) (R22_Enrol b p) := by
  unfold R22_Enrol
  refine (fine22_ex h).bind fun f _ => ?_
  cases f with
  | false => exact Ex.of ⟨h, rfl⟩
  | true => exact (enrol21_ex b.2.1 h.1 h.2 p).bind fun x hx => Ex.of ⟨⟨hx.1, by have := h.2; dsimp only; rw [hx.2]; exact this⟩, hx.2⟩
theorem offer22_ex {b : Bar} (h : LB b) (p : Int) (al : Bool) : Ex (fun x => LB x.1 ∧ ∀ q ∈ atW x.1, q ∈ atW b ∨ q = p) (R22_Offer b p al) := by
  have same : ∀ e : Int, Ex (fun x : Bar × Int × Unit => LB x.1 ∧ ∀ q ∈ atW x.1, q ∈ atW b ∨ q = p) (some (b, e, ())) := fun e => Ex.of ⟨h, fun q h => .inl h⟩
  have J : Ex (fun x : Bar × Int × Unit => LB x.1 ∧ ∀ q ∈ atW x.1, q ∈ atW b ∨ q = p) (R22_Offer_J1 b p) := by
    unfold R22_Offer_J1
    by_cases e : b.2.2.1 = b.1.2.1
    · rw [bif_pos e]; exact same 14
    · rw [bif_neg e]
      exact (offer21_ex b.2.1 h.1 h.2 p).bind fun x hx => Ex.of ⟨⟨by have := h.1; dsimp only; rw [hx.1]; exact this, hx.2.1⟩, hx.2.2⟩
  unfold R22_Offer
  refine (fine22_ex h).bind fun f _ => ?_
  cases f with
  | false => exact same 1
  | true =>
    cases al with
    | false => exact J
    | true =>
      show Ex _ (cond _ _ _)
      cases b.1.1 with
      | false => exact same 12
      | true => exact J
theorem putB_eq (t : List Bar) (i : Int) (x : Bar) (e : Int) (h0 : 0 ≤ i) (hi : i < (t.length : Int)) (hl : t.length ≤ 1000) : R23_put t i x e = some (if e = 0 then (t.set i.toNat x, 0, ()) else (t, e, ())) := by
  unfold R23_put
  by_cases he : e = 0
  · rw [bnot_pos he, chk_pos (by omega), chk_pos ⟨h0, hi⟩, if_pos he]
  · rw [bnot_neg he, if_neg he]
theorem isB_eq (t : List Bar) (i : Int) : R23_is t i = some (decide (0 ≤ i ∧ i < (t.length : Int))) := by
  unfold R23_is
  by_cases h : i ≥ 0
  · rw [bif_pos h]; congr 1; rw [decide_eq_decide]; omega
  · rw [bif_neg h, decide_eq_false (by omega)]
def Nob (t : List Bar) : Prop := t.length ≤ 8 ∧ ∀ b ∈ t, LB b ∧ atW b = []
theorem newB_ex (l : List (Bool × Int × Unit)) : Ex (fun r => r.2.2.1 = 0 → Nob r.1) (R23_New l) := by
  unfold R23_New
  by_cases hl : (l.length : Int) > 8
  · rw [bif_pos hl]; exact Ex.of fun h => absurd h (by decide)
  rw [bif_neg hl]
  refine loop_q (fun x : Int × List Bar => x.1) (l.length : Int) (fun x => 0 ≤ x.1 ∧ (x.2.length : Int) = x.1 ∧ x.1 ≤ 8 ∧ ∀ b ∈ x.2, LB b ∧ atW b = []) _ ⟨Int.le_refl 0, rfl, by decide, fun b hb => by cases hb⟩ (by dsimp only; omega) ?_
  rintro k ⟨j, acc⟩ ⟨h0, h1, h2, h3⟩ hk
  dsimp only at h0 h1 h2 h3 hk
  unfold R23_New_L1
  dsimp only
  by_cases hj : j < (l.length : Int)
  · rw [bif_pos hj, chk_at h0 hj]
    have en : Ex (fun x : Bar × Int × Unit => x.2.1 = 0 → LB x.1 ∧ atW x.1 = []) (R22_New (l.getD j.toNat (false, 0, ()))) := by
      unfold R22_New
      have ec : Ex (fun _ => True) (R22_Check (l.getD j.toNat (false, 0, ()))) := by
        unfold R22_Check
        by_cases a : (l.getD j.toNat (false, 0, ())).2.1 < 1
        · rw [bif_pos a]; exact Ex.of trivial
        · rw [bif_neg a]
          by_cases b : (l.getD j.toNat (false, 0, ())).2.1 > 65535
          · rw [bif_pos b]; exact Ex.of trivial
          · rw [bif_neg b]; exact Ex.of trivial
      refine ec.bind fun e _ => ?_
      by_cases he : e = 0
      · rw [bnot_pos he]; exact Ex.of fun _ => ⟨⟨Nat.zero_le _, Nat.zero_le _⟩, rfl⟩
      · rw [bnot_neg he]; exact Ex.of fun h => absurd h he
    refine en.bind fun x hx => ?_
    by_cases he : x.2.1 = 0
    · rw [bnot_pos he, chk_pos (by simp only [List.length_cons, List.length_nil]; omega), w64 (by omega) (by omega)]
      refine hk hj _ ⟨by dsimp only; omega, by simp; omega, by dsimp only; omega, fun b hb => ?_⟩ rfl
      rcases List.mem_append.1 hb with hb | hb
      · exact h3 b hb
      · rw [List.mem_singleton.1 hb]; exact hx he
    · rw [bnot_neg he]; exact Ex.of fun h => absurd h he
  · rw [bif_neg hj]
    exact Ex.of fun _ => ⟨show acc.length ≤ 8 by omega, h3⟩
theorem nob_enrol {t : List Bar} (h : Nob t) (i p : Int) : Ex (fun r => Nob r.1 ∧ r.1.length = t.length) (R23_Enrol t i p) := by
  have hl := h.1
  unfold R23_Enrol
  rw [isB_eq]
  by_cases hi : 0 ≤ i ∧ i < (t.length : Int)
  · rw [decide_eq_true hi]
    refine (show ∀ {a b : Option _}, Ex _ b → Ex _ (Option.bind (some true) fun r1 => cond (!r1) a b) from fun h => h) ?_
    rw [chk_pos hi]
    have hb := h.2 _ (getD_mem (d := D0) hi.1 hi.2)
    refine (enrol22_ex hb.1 p).bind fun x hx => ?_
    rw [putB_eq _ _ _ _ hi.1 hi.2 (by omega)]
    refine Ex.of ?_
    dsimp only
    split
    · refine ⟨⟨by rw [List.length_set]; exact hl, fun b hb2 => ?_⟩, List.length_set⟩
      rcases List.mem_or_eq_of_mem_set hb2 with h1 | h1
      · exact h.2 b h1
      · subst h1; exact ⟨hx.1, hx.2.trans hb.2⟩
    · exact ⟨h, rfl⟩
  · rw [decide_eq_false hi]; exact Ex.of ⟨h, rfl⟩
structure GrowB (t to : List Bar) (p : Int) (l : List Gd) : Prop where
  len : to.length = t.length
  lb : ∀ b ∈ to, LB b
  at_ : ∀ (i : Nat) q, q ∈ atW (to.getD i D0) → q ∈ atW (t.getD i D0) ∨ (q = p ∧ ∃ g ∈ l, g.1 = 3 ∧ g.2.1 = (i : Int))
theorem offerB_ex (t : List Bar) (p : Int) (l : List Gd) (al : Bool) (ht : t.length ≤ 8) (hs : ∀ b ∈ t, LB b) (hl : l.length ≤ 6) : Ex (fun r => r.2.2.1 = 0 → GrowB t r.1 p l) (R23_Offer t p l al) := by
  unfold R23_Offer
  refine loop_q (fun x : List Bar × Int => x.2) (l.length : Int) (fun x => 0 ≤ x.2 ∧ GrowB t x.1 p l) _ ⟨Int.le_refl 0, ⟨rfl, hs, fun i q h => .inl h⟩⟩ (by dsimp only; omega) ?_
  rintro k ⟨to, j⟩ ⟨h0, hg⟩ hk
  dsimp only at h0 hg hk
  have hlen := hg.len
  unfold R23_Offer_L1
  dsimp only
  by_cases hj : j < (l.length : Int)
  · have hm := getD_mem (d := (0, 0, 0, 0, 0, ())) h0 hj
    have no : ∀ e : Int, e ≠ 0 → Ex (fun r : List Bar × Int × Int × Unit => r.2.2.1 = 0 → GrowB t r.1 p l) (some (t, j, e, ())) := fun e he => Ex.of fun h => absurd h he
    simp only [chk_at h0 hj]
    rw [bif_pos hj, w64 (by omega) (by omega)]
    generalize l.getD j.toNat (0, 0, 0, 0, 0, ()) = g at hm
    by_cases k1 : g.1 = 3
    · rw [bnot_pos k1, isB_eq]
      by_cases o : 0 ≤ g.2.1 ∧ g.2.1 < (t.length : Int)
      · rw [decide_eq_true o]
        refine (show ∀ {a b : Option _}, Ex _ b → Ex _ (Option.bind (some true) fun r1 => cond (!r1) a b) from fun h => h) ?_
        rw [chk_pos (by omega)]
        have hb := hg.lb _ (getD_mem (d := D0) (i := g.2.1) o.1 (by omega))
        refine (offer22_ex hb p al).bind fun x hx => ?_
        by_cases he : x.2.1 = 0
        · rw [bnot_pos he, putB_eq _ _ _ _ o.1 (by omega) (by omega), if_pos rfl]
          refine hk hj _ ⟨by dsimp only; omega, ⟨by dsimp only; rw [List.length_set]; exact hg.len, fun b hb2 => ?_, fun i q hq => ?_⟩⟩ rfl
          · rcases List.mem_or_eq_of_mem_set hb2 with h1 | h1
            · exact hg.lb b h1
            · subst h1; exact hx.1
          · dsimp only at hq
            rw [getD_set] at hq
            by_cases e : i = g.2.1.toNat ∧ g.2.1.toNat < to.length
            · rw [if_pos e] at hq
              rcases hx.2 q hq with h2 | h2
              · have h2 : q ∈ atW (to.getD g.2.1.toNat D0) := h2
                rw [← e.1] at h2; exact hg.at_ i q h2
              · exact .inr ⟨h2, g, hm, k1, by omega⟩
            · rw [if_neg e] at hq; exact hg.at_ i q hq
        · rw [bnot_neg he]; exact no _ he
      · rw [decide_eq_false o]; exact no 8 (by decide)
    · rw [bnot_neg k1]
      exact hk hj _ ⟨by dsimp only; omega, hg⟩ rfl
  · rw [bif_neg hj]
    exact Ex.of fun _ => hg
theorem add_ex (lim id : Int) (tm : List Tm) (a w : Int) (hl : tm.length ≤ 1000) : Ex (fun r => r.1.2.2.1.length ≤ tm.length + 1 ∧ ∀ t ∈ r.1.2.2.1, t ∈ tm ∨ t.2.2.1 = w) (R06_Add (lim, id, tm, ()) a w) := by
  have same : ∀ e : Int, Ex (fun r : (Int × Int × (List Tm) × Unit) × Int × Int × Unit => r.1.2.2.1.length ≤ tm.length + 1 ∧ ∀ t ∈ r.1.2.2.1, t ∈ tm ∨ t.2.2.1 = w) (some ((lim, id, tm, ()), 0, e, ())) := fun e => Ex.of ⟨Nat.le_succ _, fun t h => .inl h⟩
  have ef : R05_Fine a = some (decide (0 ≤ a ∧ a ≤ 1099511627776)) := by
    unfold R05_Fine
    by_cases hx : a ≥ 0
    · rw [bif_pos hx, Option.some_inj, decide_eq_decide]; omega
    · rw [bif_neg hx, decide_eq_false (by omega)]
  have J : ∀ j i : Int, 0 ≤ j → j ≤ (tm.length : Int) → Ex (fun r : (Int × Int × (List Tm) × Unit) × Int × Int × Unit => r.1.2.2.1.length ≤ tm.length + 1 ∧ ∀ t ∈ r.1.2.2.1, t ∈ tm ∨ t.2.2.1 = w) (R06_Add_J1 (lim, id, tm, ()) a w j i) := by
    intro j i h0 h1
    have n1 : (tm.take j.toNat).length ≤ j.toNat := List.length_take_le _ _
    unfold R06_Add_J1
    simp only [letv_eq, Int.toNat_natCast, List.take_length, Int.toNat_zero, List.drop_zero]
    rw [chk_pos ⟨by omega, by omega, by omega⟩, chk_pos (by omega), chk_pos (by simp only [List.length_cons, List.length_nil]; omega), chk_pos ⟨by omega, by omega, by omega⟩, chk_pos (by simp only [List.length_append, List.length_cons, List.length_nil, List.length_drop]; omega)]
    refine Ex.of ⟨by simp only [List.length_append, List.length_cons, List.length_nil, List.length_drop, List.length_take]; omega, fun t ht => ?_⟩
    dsimp only at ht
    rcases List.mem_append.1 ht with ht | ht
    · rcases List.mem_append.1 ht with ht | ht
      · exact .inl (List.mem_of_mem_take ht)
      · rw [List.mem_singleton.1 ht]; exact .inr rfl
    · exact .inl (List.mem_of_mem_drop ht)
  unfold R06_Add
  rw [ef]
  show Ex _ (cond _ _ _)
  by_cases ha : 0 ≤ a ∧ a ≤ 1099511627776
  · rw [decide_eq_true ha]
    refine (show ∀ {a b : Option _}, Ex _ b → Ex _ (cond (!true) a b) from fun h => h) ?_
    by_cases hf : ((tm.length : Nat) : Int) = lim
    · rw [bif_pos hf]; exact same 10
    · rw [bif_neg hf]
      refine loop_q (fun x : Int => x) (tm.length : Int) (fun x => 0 ≤ x ∧ x ≤ (tm.length : Int)) _ ⟨Int.le_refl 0, by omega⟩ (by omega) ?_
      rintro k j ⟨h0, h1⟩ hk
      unfold R06_Add_L1
      dsimp only
      by_cases hj : j < (tm.length : Int)
      · rw [bif_pos hj, chk_at h0 hj, w64 (by omega) (by omega)]
        by_cases hc : (tm.getD j.toNat (0, 0, 0, ())).1 ≤ a
        · rw [bif_pos hc]; exact hk hj _ ⟨by omega, by omega⟩ rfl
        · rw [bif_neg hc]; exact J j _ h0 h1
      · rw [bif_neg hj]; exact J j _ h0 h1
  · rw [decide_eq_false ha]; exact same 8
def CI (ch : List Ch) (wa : List Wait) : Prop := ∀ (i : Nat) q, (q ∈ inW (ch.getD i C0) → ∃ w ∈ wa, w.1 = q ∧ ∃ g ∈ w.2.1, g.1 = 1 ∧ g.2.1 = (i : Int)) ∧ (q ∈ outW (ch.getD i C0) → ∃ w ∈ wa, w.1 = q ∧ ∃ g ∈ w.2.1, g.1 = 2 ∧ g.2.1 = (i : Int))
def BI (bs : List Bar) (wa : List Wait) : Prop := ∀ (i : Nat) q, q ∈ atW (bs.getD i D0) → ∃ w ∈ wa, w.1 = q ∧ ∃ g ∈ w.2.1, g.1 = 3 ∧ g.2.1 = (i : Int)
def TI (tm : List Tm) (wa : List Wait) : Prop := ∀ t ∈ tm, ∃ w ∈ wa, ∃ g ∈ w.2.1, g.1 = 4 ∧ t.2.2.1 = IntKind.i64.wrap (IntKind.i64.wrap (8 * w.1) + g.2.2.2.2.1)
def lastS (ws : List Wait) : Prop := ws.Pairwise fun a b => a.1 < b.1
structure Made (v : View) : Prop where
  sm : small v = true
  ci : CI v.2.1 v.2.2.2.1
  bi : BI v.2.2.1 v.2.2.2.1
  ti : TI v.2.2.2.2.1 v.2.2.2.1
  up : lastS v.2.2.2.1
  nos : ∀ w ∈ v.2.2.2.1, w.2.1.Pairwise fun a b => a.2.2.2.2.1 < b.2.2.2.2.1
abbrev MR := View × Bool × Unit
def QM (o : Option MR) : Prop := Ex (fun r : MR => r.2.1 = true → Made r.1) o
theorem QM.no (v : View) : QM (some (v, false, ())) := Ex.of fun h => by cases h
theorem pw_of {l : List Gd} (h : ∀ i : Nat, i + 1 < l.length → (l.getD i g0).2.2.2.2.1 < (l.getD (i + 1) g0).2.2.2.2.1) : l.Pairwise fun a b => a.2.2.2.2.1 < b.2.2.2.2.1 := by
  rw [List.pairwise_iff_getElem]
  have key : ∀ d i : Nat, (hd : i + (d + 1) < l.length) → (l.getD i g0).2.2.2.2.1 < (l.getD (i + (d + 1)) g0).2.2.2.2.1 := by
    intro d
    induction d with
    | zero => intro i hd; exact h i hd
    | succ d ih =>
      intro i hd
      have a := ih i (by omega)
      have b := h (i + (d + 1)) (by omega)
      exact Int.lt_trans a b
  intro i j hi hj hij
  have := key (j - i - 1) i (by omega)
  rw [show i + (j - i - 1 + 1) = j by omega] at this
  rw [List.getD_eq_getElem?_getD, List.getD_eq_getElem?_getD, List.getElem?_eq_getElem hi, List.getElem?_eq_getElem hj] at this
  exact this
def noR (w : Wait) : Prop := w.2.1.Pairwise fun a b => a.2.2.2.2.1 < b.2.2.2.2.1
abbrev RT := List Wait × Int × Int × List Gd × Int × Int × Int × List Gd
theorem right_ex (v : View) (hw : v.2.2.2.1.length ≤ 16) (hg : ∀ w ∈ v.2.2.2.1, w.2.1.length ≤ 8) : Ex (fun b => b = true → ∀ w ∈ v.2.2.2.1, noR w) (L29_right v) := by
  unfold L29_right
  generalize v.2.2.2.1 = ws at hw hg
  refine loop_q (fun x : List Wait × Int × Int => x.2.2) (ws.length : Int) (fun x => 0 ≤ x.2.2 ∧ x = (ws, (ws.length : Int), x.2.2) ∧ ∀ w ∈ ws.take x.2.2.toNat, noR w) _ ⟨Int.le_refl 0, rfl, fun w h => by simp at h⟩ (by dsimp only; omega) ?_
  rintro k ⟨x1, x2, j⟩ ⟨h0, hx, h1⟩ hk
  dsimp only at h0 h1 hk hx
  obtain ⟨rfl, rfl⟩ : x1 = ws ∧ x2 = (ws.length : Int) := by simpa using hx
  clear hx
  unfold L29_right_L2
  dsimp only
  by_cases hj : j < (x1.length : Int)
  · rw [bif_pos hj, chk_at h0 hj]
    have hgw := hg _ (getD_mem (d := (0, [], ())) h0 hj)
    have hk := fun (hn : noR (x1.getD j.toNat (0, [], ()))) => hk hj (x1, (x1.length : Int), j + 1) ⟨by dsimp only; omega, rfl, fun w h => by
      rw [show (x1, (x1.length : Int), j + 1).2.2 = j + 1 from rfl, take_at (d := (0, [], ())) h0 hj] at h
      rcases List.mem_append.1 h with h | h
      · exact h1 w h
      · rw [List.mem_singleton.1 h]; exact hn⟩ rfl
    generalize x1.getD j.toNat (0, [], ()) = w at hgw hk
    obtain ⟨l, hl⟩ : ∃ l, w.2.1 = l := ⟨_, rfl⟩
    have hk : (l.Pairwise fun a b => a.2.2.2.2.1 < b.2.2.2.2.1) → Ex (fun b => b = true → ∀ w ∈ x1, noR w) (k (x1, (x1.length : Int), j + 1)) := fun h => hk (by unfold noR; rw [hl]; exact h)
    rw [hl] at hgw ⊢
    refine loop_q (fun x : RT => x.2.2.2.2.2.1) (l.length : Int) (fun x => 0 ≤ x.2.2.2.2.2.1 ∧ x = (x1, (x1.length : Int), j, l, (l.length : Int), x.2.2.2.2.2.1, w.1, l) ∧ ∀ i : Nat, i + 1 < l.length → (i : Int) + 1 < x.2.2.2.2.2.1 → (l.getD i g0).2.2.2.2.1 < (l.getD (i + 1) g0).2.2.2.2.1) _ ⟨Int.le_refl 0, rfl, fun i _ h => by dsimp only at h; omega⟩ (by dsimp only; omega) ?_
    rintro k2 x ⟨m0, hx, m1⟩ hk2
    obtain ⟨m, hm⟩ : ∃ m, x.2.2.2.2.2.1 = m := ⟨_, rfl⟩
    rw [hm] at m0 m1 hk2 hx
    subst hx
    clear hm
    unfold L29_right_L1
    by_cases hmm : m < (l.length : Int)
    · refine (show ∀ {a b : Option Bool}, Ex (fun b => b = true → ∀ w ∈ x1, noR w) a → Ex (fun b => b = true → ∀ w ∈ x1, noR w) (cond (decide (m < (l.length : Int))) a b) from fun h => by rw [bif_pos hmm]; exact h) ?_
      rw [cutv_eq]
      unfold L29_right_C1
      dsimp only
      rw [chk_at m0 hmm]
      have no : Ex (fun b => b = true → ∀ w ∈ x1, noR w) (some false) := Ex.of fun h => by cases h
      have fin : (0 < m → (l.getD (m - 1).toNat (0, 0, 0, 0, 0, ())).2.2.2.2.1 < (l.getD m.toNat (0, 0, 0, 0, 0, ())).2.2.2.2.1) → Ex (fun b => b = true → ∀ w ∈ x1, noR w) (cond (decide ((l.getD m.toNat (0, 0, 0, 0, 0, ())).1 = 4)) (cond (decide ((l.getD m.toNat (0, 0, 0, 0, 0, ())).2.2.1 < 0)) (some false) (cond (decide ((l.getD m.toNat (0, 0, 0, 0, 0, ())).2.2.1 > 1099511627776)) (some false) (L29_right_R1 k2 (x1, (x1.length : Int), j, l, (l.length : Int), m, w.1, l)))) (L29_right_R1 k2 (x1, (x1.length : Int), j, l, (l.length : Int), m, w.1, l))) := by
        intro hlt
        have next : Ex (fun b => b = true → ∀ w ∈ x1, noR w) (L29_right_R1 k2 (x1, (x1.length : Int), j, l, (l.length : Int), m, w.1, l)) := by
          unfold L29_right_R1
          dsimp only
          rw [w64 (by omega) (by omega)]
          refine hk2 hmm _ ⟨by dsimp only; omega, rfl, fun i hi hi2 => ?_⟩ rfl
          dsimp only at hi2
          by_cases e : (i : Int) + 1 < m
          · exact m1 i hi e
          · have e : m = (i : Int) + 1 := by omega
            subst e
            have := hlt (by omega)
            rw [show ((i : Int) + 1 - 1).toNat = i by omega, show ((i : Int) + 1).toNat = i + 1 by omega] at this
            exact this
        by_cases c1 : (l.getD m.toNat (0, 0, 0, 0, 0, ())).1 = 4
        · rw [bif_pos c1]
          by_cases c2 : (l.getD m.toNat (0, 0, 0, 0, 0, ())).2.2.1 < 0
          · rw [bif_pos c2]; exact no
          · rw [bif_neg c2]
            by_cases c3 : (l.getD m.toNat (0, 0, 0, 0, 0, ())).2.2.1 > 1099511627776
            · rw [bif_pos c3]; exact no
            · rw [bif_neg c3]; exact next
        · rw [bif_neg c1]; exact next
      by_cases hp : m > 0
      · rw [bif_pos hp, w64 (by omega) (by omega), chk_pos (by omega)]
        by_cases hle : (l.getD m.toNat (0, 0, 0, 0, 0, ())).2.2.2.2.1 ≤ (l.getD (m - 1).toNat (0, 0, 0, 0, 0, ())).2.2.2.2.1
        · rw [bif_pos hle]; exact no
        · rw [bif_neg hle]; exact fin fun _ => by omega
      · rw [bif_neg hp]; exact fin fun h => absurd h hp
    · refine (show ∀ {a b : Option Bool}, Ex (fun b => b = true → ∀ w ∈ x1, noR w) b → Ex (fun b => b = true → ∀ w ∈ x1, noR w) (cond (decide (m < (l.length : Int))) a b) from fun h => by rw [bif_neg hmm]; exact h) ?_
      unfold L29_right_J3 L29_right_J2
      dsimp only
      rw [w64 (by omega) (by omega)]
      exact hk (pw_of fun i hi => m1 i hi (by omega))
  · rw [bif_neg hj]
    refine Ex.of fun _ w hw => h1 w ?_
    rw [take_end hj]; exact hw
theorem made_J1 (ch : List Ch) (bs : List Bar) (now lim id : Int) (tm : List Tm) (wa : List Wait) (hc : ch.length ≤ 8) (hb : bs.length ≤ 8) (ht : tm.length ≤ 1000) (hw : wa.length ≤ 12) (hg : ∀ w ∈ wa, w.2.1.length ≤ 6) (ci : CI ch wa) (bi : BI bs wa) (ti : TI tm wa) (up : lastS wa) : QM (L29_made_J1 ch bs now lim id tm wa) := by
  unfold L29_made_J1
  rw [small_eq _ ⟨by dsimp only; omega, by dsimp only; omega, by dsimp only; omega, fun w h => by have := hg w h; omega, by dsimp only; omega, Nat.zero_le _⟩]
  show QM (cond _ _ _)
  cases hs : small (now, ch, bs, wa, tm, [], ()) with
  | false => exact QM.no _
  | true =>
    refine (show ∀ {a b : Option MR}, QM a → QM (cond true a b) from fun h => h) ?_
    refine Ex.bind (right_ex (now, ch, bs, wa, tm, [], ()) (by dsimp only; omega) (fun w h => by have := hg w h; omega)) fun b hb2 => Ex.of fun h => ?_
    exact ⟨hs, ci, bi, ti, up, hb2 h⟩
theorem poison_who {n : Nat} {c : Ch} (h : Sz n c) (v : Int) : Sz n (channel.poison c v).1 ∧ inW (channel.poison c v).1 = inW c ∧ outW (channel.poison c v).1 = outW c := by
  unfold channel.poison
  split
  · exact ⟨h, rfl, rfl⟩
  split
  · exact ⟨⟨h.a, h.b, h.d, h.e⟩, rfl, rfl⟩
  · exact ⟨h, rfl, rfl⟩
structure FinC (ch : List Ch) (wa : List Wait) : Prop where
  len : ch.length ≤ 8
  sz : ∀ c ∈ ch, Sz 1000 c
  ci : CI ch wa
theorem FinC.poison {ch : List Ch} {wa : List Wait} (h : FinC ch wa) (i v : Int) : Ex (fun r => FinC r.1 wa) (R19_Poison ch i v) := by
  have hl := h.len
  rw [chantab.rpoisonT_eq _ _ _ ⟨by omega, fun c hc => (h.sz c hc).small (Nat.le_refl _)⟩]
  refine Ex.of ?_
  unfold chantab.poisonT
  split
  · rename_i hi
    split
    · have hp := poison_who (h.sz _ (getD_mem (d := C0) hi.1 hi.2)) v
      refine ⟨by dsimp only; rw [List.length_set]; exact hl, fun c hc => ?_, fun i' q => ?_⟩
      · rcases List.mem_or_eq_of_mem_set hc with h1 | h1
        · exact h.sz c h1
        · subst h1; exact hp.1
      · have hci := h.ci i' q
        dsimp only
        rw [getD_set]
        by_cases e : i' = i.toNat ∧ i.toNat < ch.length
        · rw [if_pos e]
          rw [e.1] at hci ⊢
          have e1 : inW (channel.poison (ch.getD i.toNat ((0, 0, 0, 0, ()), 0, [], (false, [], ()), [], (false, [], ()), ())) v).1 = _ := hp.2.1
          have e2 : outW (channel.poison (ch.getD i.toNat ((0, 0, 0, 0, ()), 0, [], (false, [], ()), [], (false, [], ()), ())) v).1 = _ := hp.2.2
          rw [e1, e2]
          exact hci
        · rw [if_neg e]; exact hci
    · exact h
  · exact h
abbrev PT_ := (List Ch) × (List Bar) × List Int × Int × Int × Int × Int × Int × (List Tm) × (List Wait)
theorem made_J2 (ch : List Ch) (bs : List Bar) (c1 : List (Int × Int × Int × Int × Unit)) (c2 : List (Bool × Int × Unit)) (c3 : List Int) (c4 : List Wait) (po : List Int) (now x11 lim id : Int) (tm : List Tm) (wa : List Wait) (hp : po.length ≤ 140737488355328) (hc : FinC ch wa) (hb : bs.length ≤ 8) (ht : tm.length ≤ 1000) (hw : wa.length ≤ 12) (hg : ∀ w ∈ wa, w.2.1.length ≤ 6) (bi : BI bs wa) (ti : TI tm wa) (up : lastS wa) : QM (L29_made_J2 ch bs c1 c2 c3 c4 po now x11 lim id tm wa) := by
  unfold L29_made_J2
  refine loop_q (fun x : PT_ => x.2.2.2.2.1) (po.length : Int) (fun x => 0 ≤ x.2.2.2.2.1 ∧ FinC x.1 wa ∧ x = (x.1, bs, po, (po.length : Int), x.2.2.2.2.1, x11, lim, id, tm, wa)) _ ⟨Int.le_refl 0, hc, rfl⟩ (by dsimp only; omega) ?_
  rintro k x ⟨h0, h1, hx⟩ hk
  obtain ⟨j, hj'⟩ : ∃ j, x.2.2.2.2.1 = j := ⟨_, rfl⟩
  obtain ⟨d, hd⟩ : ∃ d, x.1 = d := ⟨_, rfl⟩
  rw [hj'] at h0 hx hk
  rw [hd] at hx h1
  subst hx
  clear hj' hd
  unfold L29_made_L1
  by_cases hj : j < (po.length : Int)
  · refine (show ∀ {a b : Option MR}, QM a → QM (cond (decide (j < (po.length : Int))) a b) from fun h => by rw [bif_pos hj]; exact h) ?_
    rw [cutv_eq]
    unfold L29_made_C1
    dsimp only
    have next : ∀ d' : List Ch, FinC d' wa → QM (L29_made_R1 k (d', bs, po, (po.length : Int), j, x11, lim, id, tm, wa)) := by
      intro d' hd
      unfold L29_made_R1
      dsimp only
      rw [w64 (by omega) (by omega)]
      exact hk hj _ ⟨by dsimp only; omega, hd, rfl⟩ rfl
    rw [chk_at h0 hj]
    by_cases a : j < (d.length : Int)
    · rw [bif_pos a]
      by_cases b : po.getD j.toNat 0 > 0
      · rw [bif_pos b]
        exact Ex.bind (h1.poison _ _) fun r hr => next _ hr
      · rw [bif_neg b]; exact next _ h1
    · rw [bif_neg a]; exact next _ h1
  · refine (show ∀ {a b : Option MR}, QM b → QM (cond (decide (j < (po.length : Int))) a b) from fun h => by rw [bif_neg hj]; exact h) ?_
    dsimp only
    exact made_J1 d bs _ _ _ _ _ h1.len hb ht hw hg h1.ci bi ti up
structure Mid (ch : List Ch) (bs : List Bar) (last : Int) (tm : List Tm) (wa : List Wait) (i : Nat) : Prop where
  cl : ch.length ≤ 8
  cs : ∀ c ∈ ch, Sz (6 * i) c
  bl : bs.length ≤ 8
  lb : ∀ b ∈ bs, LB b
  tl : tm.length ≤ 6 * i
  wl : wa.length ≤ i
  wg : ∀ w ∈ wa, w.2.1.length ≤ 6
  le : ∀ w ∈ wa, w.1 ≤ last
  ci : CI ch wa
  bi : BI bs wa
  ti : TI tm wa
  up : lastS wa
theorem Mid.skip {ch : List Ch} {bs : List Bar} {last last' : Int} {tm : List Tm} {wa : List Wait} {i : Nat} (h : Mid ch bs last tm wa i) (hl : last ≤ last') : Mid ch bs last' tm wa (i + 1) :=
  ⟨h.cl, fun c hc => (h.cs c hc).up (by omega), h.bl, h.lb, by have := h.tl; omega, by have := h.wl; omega, h.wg, fun w hw => by have := h.le w hw; omega, h.ci, h.bi, h.ti, h.up⟩
theorem Mid.wait {ch ch' : List Ch} {bs bs' : List Bar} {last : Int} {tm tm' : List Tm} {wa : List Wait} {i : Nat} (h : Mid ch bs last tm wa i) (w : Wait) (hw : last < w.1) (hl : w.2.1.length ≤ 6) (hc : Grow ch ch' w.1 w.2.1 (6 * i + 6)) (hb : GrowB bs bs' w.1 w.2.1) (t1 : tm'.length ≤ 6 * i + 6) (t2 : TI tm' (wa ++ [w])) : Mid ch' bs' w.1 tm' (wa ++ [w]) (i + 1) := by
  have mem : ∀ x, x ∈ wa → x ∈ wa ++ [w] := fun x hx => List.mem_append_left _ hx
  have me : w ∈ wa ++ [w] := by simp
  refine ⟨by rw [hc.len]; exact h.cl, hc.sz, by rw [hb.len]; exact h.bl, hb.lb, t1, ?_, ?_, ?_, ?_, ?_, t2, ?_⟩
  · have := h.wl; rw [List.length_append, List.length_singleton]; omega
  · intro x hx
    rcases List.mem_append.1 hx with hx | hx
    · exact h.wg x hx
    · rw [List.mem_singleton.1 hx]; exact hl
  · intro x hx
    rcases List.mem_append.1 hx with hx | hx
    · have := h.le x hx; omega
    · rw [List.mem_singleton.1 hx]; exact Int.le_refl _
  · intro j q
    refine ⟨fun hq => ?_, fun hq => ?_⟩
    · rcases hc.inn j q hq with a | ⟨a, b⟩
      · obtain ⟨x, hx, y⟩ := (h.ci j q).1 a
        exact ⟨x, mem x hx, y⟩
      · exact ⟨w, me, a.symm, b⟩
    · rcases hc.out j q hq with a | ⟨a, b⟩
      · obtain ⟨x, hx, y⟩ := (h.ci j q).2 a
        exact ⟨x, mem x hx, y⟩
      · exact ⟨w, me, a.symm, b⟩
  · intro j q hq
    rcases hb.at_ j q hq with a | ⟨a, b⟩
    · obtain ⟨x, hx, y⟩ := h.bi j q a
      exact ⟨x, mem x hx, y⟩
    · exact ⟨w, me, a.symm, b⟩
  · unfold lastS
    rw [List.pairwise_append]
    refine ⟨h.up, List.pairwise_singleton _ _, fun a ha b hb2 => ?_⟩
    rw [List.mem_singleton.1 hb2]
    have := h.le a ha
    omega
abbrev World := (List (Int × Int × Int × Int × Unit)) × (List (Bool × Int × Unit)) × (List Int) × (List Wait) × (List Int) × Int × Unit
abbrev WT_ := (List Ch) × (List Bar) × Int × (List Wait) × Int × Int × (List (Int × Int × Int × Int × Unit)) × (List (Bool × Int × Unit)) × List Int × (List Wait) × List Int × Int × Int × Int × Int × (List Tm) × (List Wait)
def wst (a : World) (ch : List Ch) (bs : List Bar) (last i lim id : Int) (tm : List Tm) (wa : List Wait) : WT_ := (ch, bs, last, a.2.2.2.1, (a.2.2.2.1.length : Int), i, a.1, a.2.1, a.2.2.1, a.2.2.2.1, a.2.2.2.2.1, a.2.2.2.2.2.1, a.2.2.2.2.2.1, lim, id, tm, wa)
theorem adds_ex (l : List Gd) (hl : l.length ≤ 6) (w : Wait) (hw : w.2.1 = l) (k4 : WT_ → Option MR) (r7 : (List Ch) × Int × Int × Unit) (r8 : (List Bar) × Int × Int × Unit) (x3 : WT_) (wa2 : List Wait) (hm : w ∈ wa2) (lim id : Int) (tm : List Tm) (n : Nat) (hn : n ≤ 100) (t1 : tm.length ≤ n) (t2 : TI tm wa2)
    (hk : ∀ lim id tm', tm'.length ≤ n + 6 → TI tm' wa2 → QM (L29_made_J3 k4 r7 r8 w.1 x3 lim id tm' wa2)) : QM (loop (L29_made_L2 (l.length : Int) l w.1 k4 r7 r8 x3 wa2) (0, lim, id, tm)) := by
  refine loop_q (fun x : Int × Int × Int × List Tm => x.1) (l.length : Int) (fun x => 0 ≤ x.1 ∧ x.1 ≤ (l.length : Int) ∧ (x.2.2.2.length : Int) ≤ n + x.1 ∧ TI x.2.2.2 wa2) _ ⟨Int.le_refl 0, by dsimp only; omega, by dsimp only; omega, t2⟩ (by dsimp only; omega) ?_
  rintro k ⟨j, lim, id, tm⟩ ⟨h0, h1, h2, h3⟩ hk2
  dsimp only at h0 h1 h2 h3 hk2
  unfold L29_made_L2
  dsimp only
  by_cases hj : j < (l.length : Int)
  · have hgm := getD_mem (d := (0, 0, 0, 0, 0, ())) h0 hj
    rw [bif_pos hj, chk_at h0 hj, w64 (x := j + 1) (by omega) (by omega)]
    generalize l.getD j.toNat (0, 0, 0, 0, 0, ()) = g at hgm ⊢
    by_cases k1 : g.1 = 4
    · rw [bif_pos k1]
      refine Ex.bind (add_ex lim id tm _ _ (by omega)) fun r hr => ?_
      refine hk2 hj _ ⟨by dsimp only; omega, by dsimp only; omega, by have := hr.1; dsimp only; omega, fun t ht => ?_⟩ rfl
      rcases hr.2 t ht with a | a
      · exact h3 t a
      · exact ⟨w, hm, g, by rw [hw]; exact hgm, k1, a⟩
    · rw [bif_neg k1]
      exact hk2 hj _ ⟨by dsimp only; omega, by dsimp only; omega, by dsimp only; omega, h3⟩ rfl
  · rw [bif_neg hj]
    exact hk _ _ _ (by omega) h3
theorem made_J4 (a : World) (r1 : (List Ch) × Int × Int × Unit) (bs : List Bar) (hws : a.2.2.2.1.length ≤ 12) (hp : a.2.2.2.2.1.length ≤ 140737488355328) (hc : r1.1.length ≤ 8) (hcs : ∀ c ∈ r1.1, Sz 0 c ∧ inW c = [] ∧ outW c = []) (hb : Nob bs) : QM (L29_made_J4 r1 a bs) := by
  have start : Mid r1.1 bs (-1) [] [] 0 := by
    refine ⟨hc, fun c hcm => (hcs c hcm).1, hb.1, fun b hbm => (hb.2 b hbm).1, Nat.zero_le _, Nat.zero_le _, (fun w h => by cases h), (fun w h => by cases h), fun i q => ?_, fun i q hq => ?_, (fun t h => by cases h), List.Pairwise.nil⟩
    · by_cases hi : i < r1.1.length
      · have hm : r1.1.getD i C0 ∈ r1.1 := by rw [List.getD_eq_getElem?_getD, List.getElem?_eq_getElem hi]; exact List.getElem_mem hi
        rw [(hcs _ hm).2.1, (hcs _ hm).2.2]
        exact ⟨(fun h => by cases h), (fun h => by cases h)⟩
      · rw [List.getD_eq_getElem?_getD, List.getElem?_eq_none (by omega)]
        exact ⟨(fun h => by cases h), (fun h => by cases h)⟩
    · by_cases hi : i < bs.length
      · have hm : bs.getD i D0 ∈ bs := by rw [List.getD_eq_getElem?_getD, List.getElem?_eq_getElem hi]; exact List.getElem_mem hi
        rw [(hb.2 _ hm).2] at hq
        cases hq
      · rw [List.getD_eq_getElem?_getD, List.getElem?_eq_none (by omega)] at hq
        cases hq
  have e6 : R06_New 100 = some ((100, 0, [], ()), 0, ()) := rfl
  have e7 : L29_made_J4 r1 a bs = loop L29_made_L3 (wst a r1.1 bs (-1) 0 100 0 [] []) := by
    unfold L29_made_J4
    rw [e6]
    refine bind_t ?_
    unfold wst
    rfl
  rw [e7]
  refine loop_q (fun x : WT_ => x.2.2.2.2.2.1) (a.2.2.2.1.length : Int) (fun x => ∃ ch bs last i lim id tm wa, x = wst a ch bs last i lim id tm wa ∧ 0 ≤ i ∧ i ≤ (a.2.2.2.1.length : Int) ∧ Mid ch bs last tm wa i.toNat) _ ⟨_, _, _, 0, _, _, _, _, rfl, Int.le_refl 0, by omega, start⟩ (by unfold wst; dsimp only; omega) ?_
  rintro k _ ⟨ch, bs, last, i, lim, id, tm, wa, rfl, h0, h1, hm⟩ hk
  have cl := hm.cl; have bl := hm.bl; have tl := hm.tl; have wl := hm.wl
  unfold L29_made_L3
  by_cases hi : i < (a.2.2.2.1.length : Int)
  · refine (show ∀ {x y : Option MR}, QM x → QM (cond (decide (i < (a.2.2.2.1.length : Int))) x y) from fun h => by rw [bif_pos hi]; exact h) ?_
    rw [cutv_eq]
    have next : ∀ ch' bs' last' lim' id' tm' wa', Mid ch' bs' last' tm' wa' (i.toNat + 1) → QM (L29_made_R2 k (wst a ch' bs' last' i lim' id' tm' wa')) := by
      intro ch' bs' last' lim' id' tm' wa' hm'
      unfold L29_made_R2 wst
      dsimp only
      rw [w64 (by omega) (by omega)]
      refine hk hi (wst a ch' bs' last' (i + 1) lim' id' tm' wa') ⟨ch', bs', last', i + 1, lim', id', tm', wa', rfl, by omega, by omega, ?_⟩ rfl
      rw [show (i + 1).toNat = i.toNat + 1 by omega]
      exact hm'
    unfold L29_made_C2
    refine (show ∀ {x : Option MR}, QM x → QM (chk (0 ≤ i ∧ i < (a.2.2.2.1.length : Int)) x) from fun h => by rw [chk_at h0 hi]; exact h) ?_
    show QM (cond (decide ((a.2.2.2.1.getD i.toNat (0, [], ())).1 ≤ last)) _ _)
    have ew : (wst a ch bs last i lim id tm wa).2.2.2.1.getD (wst a ch bs last i lim id tm wa).2.2.2.2.2.1.toNat (0, [], ()) = a.2.2.2.1.getD i.toNat (0, [], ()) := rfl
    rw [ew]
    generalize a.2.2.2.1.getD i.toNat (0, [], ()) = w at ew ⊢
    by_cases a1 : w.1 ≤ last
    · rw [bif_pos a1]; exact QM.no _
    rw [bif_neg a1]
    by_cases a2 : w.1 > 15
    · rw [bif_pos a2]; exact QM.no _
    rw [bif_neg a2]
    by_cases a3 : ((w.2.1.length : Nat) : Int) > 6
    · rw [bif_pos a3]; exact QM.no _
    rw [bif_neg a3, letv_eq]
    refine Ex.bind (offer_ex ch w.1 w.2.1 _ (6 * i.toNat) cl hm.cs (by omega) (by omega)) fun r7 h7 => ?_
    refine Ex.bind (offerB_ex bs w.1 w.2.1 _ bl hm.lb (by omega)) fun r8 h8 => ?_
    by_cases e7 : r7.2.2.1 = 0
    · rw [bnot_pos e7]
      by_cases e8 : r8.2.2.1 = 0
      · rw [bnot_pos e8, letv_eq]
        refine (show ∀ {x : Option MR}, QM x → QM (chk (wa.length + [(w.1, w.2.1, ())].length ≤ 4294967296) x) from fun h => by rw [chk_pos (by simp only [List.length_cons, List.length_nil]; omega)]; exact h) ?_
        refine adds_ex w.2.1 (by omega) w rfl _ r7 r8 _ (wa ++ [w]) (by simp) lim id tm (6 * i.toNat) (by omega) tl ?_ fun lim' id' tm' q1 q2 => ?_
        · intro t ht
          obtain ⟨x, hx, y⟩ := hm.ti t ht
          exact ⟨x, List.mem_append_left _ hx, y⟩
        · unfold L29_made_J3
          exact next r7.1 r8.1 w.1 lim' id' tm' _ (hm.wait w (by omega) (by omega) (h7 e7) (h8 e8) q1 q2)
      · rw [bnot_neg e8]
        exact next ch bs w.1 lim id tm wa (hm.skip (by omega))
    · rw [bnot_neg e7]
      exact next ch bs w.1 lim id tm wa (hm.skip (by omega))
  · refine (show ∀ {x y : Option MR}, QM y → QM (cond (decide (i < (a.2.2.2.1.length : Int))) x y) from fun h => by rw [bif_neg hi]; exact h) ?_
    exact made_J2 ch bs _ _ _ _ _ _ _ _ _ tm wa hp ⟨cl, fun c hc => (hm.cs c hc).up (by omega), hm.ci⟩ bl (by omega) (by omega) hm.wg hm.bi hm.ti hm.up
theorem made_ex (a : World) (hp : a.2.2.2.2.1.length ≤ 140737488355328) : QM (L29_made a) := by
  unfold L29_made
  rw [chantab.rnew_eq]
  refine Ex.bind (A := fun r => r = chantab.newR a.1) (Ex.of rfl) fun r1 hr1 => ?_
  subst hr1
  refine Ex.bind (newB_ex a.2.1) fun r2 h2 => ?_
  by_cases e1 : (chantab.newR a.1).2.2.1 = 0
  · rw [bnot_pos e1]
    by_cases e2 : r2.2.2.1 = 0
    · rw [bnot_pos e2]
      by_cases a1 : ((a.2.2.1.length : Nat) : Int) > 16
      · rw [bif_pos a1]; exact QM.no _
      rw [bif_neg a1]
      by_cases a2 : ((a.2.2.2.1.length : Nat) : Int) > 12
      · rw [bif_pos a2]; exact QM.no _
      rw [bif_neg a2]
      have hc : (chantab.newR a.1).1.length ≤ 8 ∧ ∀ c ∈ (chantab.newR a.1).1, Sz 0 c ∧ inW c = [] ∧ outW c = [] := by
        unfold chantab.newR
        split
        · exact ⟨Nat.zero_le _, fun c h => by cases h⟩
        · have := chantab.newT_len a.1 0 []
          refine ⟨by simp only [List.length_nil] at this; omega, chantab.newT_all (fun c => Sz 0 c ∧ inW c = [] ∧ outW c = []) (fun f => ?_) a.1 0 [] fun c h => by cases h⟩
          unfold channel.new
          split
          · exact ⟨⟨Nat.le_refl _, Nat.le_refl _, Nat.le_refl _, Nat.le_refl _⟩, rfl, rfl⟩
          · exact ⟨⟨Nat.le_refl _, Nat.le_refl _, Nat.le_refl _, Nat.le_refl _⟩, rfl, rfl⟩
      have hnb := h2 e2
      refine loop_q (fun x : (List Bar) × Int × Int => x.2.2) (a.2.2.1.length : Int) (fun x => 0 ≤ x.2.2 ∧ x.2.1 = (a.2.2.1.length : Int) ∧ Nob x.1) _ ⟨Int.le_refl 0, rfl, hnb⟩ (by dsimp only; omega) ?_
      rintro k ⟨bs, n, p⟩ ⟨h0, h1, hn⟩ hk
      dsimp only at h0 h1 hn hk
      subst h1
      unfold L29_made_L5
      dsimp only
      by_cases hj : p < (a.2.2.1.length : Int)
      · rw [bif_pos hj, chk_at h0 hj]
        have hk := fun b hb => hk hj (b, (a.2.2.1.length : Int), p + 1) ⟨by dsimp only; omega, rfl, hb⟩ rfl
        have hbl := hn.1
        refine loop_q (fun x : (List Bar) × Int => x.2) (bs.length : Int) (fun x => 0 ≤ x.2 ∧ Nob x.1 ∧ x.1.length = bs.length) _ ⟨Int.le_refl 0, hn, rfl⟩ (by dsimp only; omega) ?_
        rintro k2 ⟨b2, j⟩ ⟨g0, g1, g2⟩ hk2
        dsimp only at g0 g1 g2 hk2
        unfold L29_made_L4
        dsimp only
        by_cases hj2 : j < (bs.length : Int)
        · have hmod : 0 ≤ Int.tmod j 8 := Int.tmod_nonneg 8 g0
          rw [bif_pos hj2, chk_pos (by decide), chk_pos hmod, w64 (by omega) (by omega)]
          have two : ∀ (b : Bool) {x y : Option MR}, QM x → QM y → QM (cond b x y) := fun b => by cases b <;> exact fun h1 h2 => by assumption
          refine two _ (Ex.bind (nob_enrol g1 j p) fun r hr => hk2 hj2 _ ⟨by dsimp only; omega, hr.1, hr.2.trans g2⟩ rfl) (hk2 hj2 _ ⟨by dsimp only; omega, g1, g2⟩ rfl)
        · rw [bif_neg hj2]
          unfold L29_made_J6 L29_made_J5
          dsimp only
          rw [w64 (by omega) (by omega)]
          exact hk _ g1
      · rw [bif_neg hj]
        exact made_J4 a _ bs (by omega) hp hc.1 hc.2 hn
    · rw [bnot_neg e2]; exact QM.no _
  · rw [bnot_neg e1]; exact QM.no _
def ones (o : Int → Gd → Ev × Bool × Unit) (k who : Int) (l : List Gd) : List Ev := l.flatMap fun g => if (o who g).2.1 = true ∧ (o who g).1.1 = k then [(o who g).1] else []
def alls (o : Int → Gd → Ev × Bool × Unit) (k : Int) (ws : List Wait) : List Ev := ws.flatMap fun w => ones o k w.1 w.2.1
theorem ones_len (o : Int → Gd → Ev × Bool × Unit) (k who : Int) : ∀ l : List Gd, (ones o k who l).length ≤ l.length
  | [] => Nat.le_refl _
  | g :: l => by
    have := ones_len o k who l
    have e : ones o k who (g :: l) = (if (o who g).2.1 = true ∧ (o who g).1.1 = k then [(o who g).1] else []) ++ ones o k who l := rfl
    rw [e, List.length_append, List.length_cons]
    split <;> simp <;> omega
theorem alls_len (o : Int → Gd → Ev × Bool × Unit) (k : Int) : ∀ ws : List Wait, (∀ w ∈ ws, w.2.1.length ≤ 8) → (alls o k ws).length ≤ 8 * ws.length
  | [], _ => Nat.le_refl _
  | w :: ws, h => by
    have a := alls_len o k ws fun x hx => h x (List.mem_cons_of_mem _ hx)
    have b := ones_len o k w.1 w.2.1
    have c := h w List.mem_cons_self
    have e : alls o k (w :: ws) = ones o k w.1 w.2.1 ++ alls o k ws := rfl
    rw [e, List.length_append, List.length_cons]
    omega
abbrev X2 := (List Wait) × Int × Int × Int × (List Ch) × (List Bar) × (List Wait) × (List Tm) × List Int × (List Ev) × Int × (List Ch) × (List Bar) × (List Wait) × (List Tm) × List Int × (List Ev)
abbrev X3 := (List Wait) × Int × Int × (List Gd) × Int × Int × Int × (List Ch) × (List Bar) × (List Wait) × (List Tm) × List Int × (List Ev) × Int × (List Ch) × (List Bar) × (List Wait) × (List Tm) × List Int × Int × (List Gd) × (List Ev)
def st2 (V : View) (q : List Ev) (i : Int) (acc : List Ev) : X2 := (V.2.2.2.1, (V.2.2.2.1.length : Int), i, V.1, V.2.1, V.2.2.1, V.2.2.2.1, V.2.2.2.2.1, V.2.2.2.2.2.1, q, V.1, V.2.1, V.2.2.1, V.2.2.2.1, V.2.2.2.2.1, V.2.2.2.2.2.1, acc)
def st3 (V : View) (q : List Ev) (i m : Int) (w : Wait) (acc : List Ev) : X3 := (V.2.2.2.1, (V.2.2.2.1.length : Int), i, w.2.1, (w.2.1.length : Int), m, V.1, V.2.1, V.2.2.1, V.2.2.2.1, V.2.2.2.2.1, V.2.2.2.2.2.1, q, V.1, V.2.1, V.2.2.1, V.2.2.2.1, V.2.2.2.2.1, V.2.2.2.2.2.1, w.1, w.2.1, acc)
abbrev X7 := Int × (List Ch) × (List Bar) × (List Wait) × (List Tm) × List Int × (List Ev)
def st7 (V : View) (q : List Ev) : X7 := (V.1, V.2.1, V.2.2.1, V.2.2.2.1, V.2.2.2.2.1, V.2.2.2.2.2.1, q)
theorem inner5 (V : View) (o : Int → Gd → Ev × Bool × Unit) (ho : ∀ who g, ready_View_of V who g = some (o who g)) (q : List Ev) (i : Int) (w : Wait) (acc : List Ev) (hi0 : 0 ≤ i) (hi : i ≤ 100) (hw : w.2.1.length ≤ 8) (ha : acc.length ≤ 1000) (k2 : X2 → Option (List Ev)) : loop (ready_Events_L1 k2) (st3 V q i 0 w acc) = k2 (st2 V q (i + 1) (acc ++ ones o 5 w.1 w.2.1)) := by
  refine loop_to (fun x : X3 => x.2.2.2.2.2.1) (w.2.1.length : Int) (fun x r => ∃ m acc, x = st3 V q i m w acc ∧ 0 ≤ m ∧ (acc.length : Int) ≤ 1000 + m ∧ r = k2 (st2 V q (i + 1) (acc ++ ones o 5 w.1 (w.2.1.drop m.toNat)))) ⟨0, acc, rfl, Int.le_refl 0, by omega, rfl⟩ (by show (w.2.1.length : Int) - 0 < _; omega) ?_
  rintro k _ _ ⟨m, acc, rfl, h0, h1, rfl⟩ hk
  unfold ready_Events_L1
  by_cases hm : m < (w.2.1.length : Int)
  · have hk := fun acc' h => hk hm (st3 V q i (m + 1) w acc') _ ⟨m + 1, acc', rfl, by omega, h, rfl⟩ rfl
    refine (bif_pos (show (st3 V q i m w acc).2.2.2.2.2.1 < (st3 V q i m w acc).2.2.2.2.1 from hm)).trans ?_
    have next : ∀ acc', (acc'.length : Int) ≤ 1000 + (m + 1) → ready_Events_R1 k (st3 V q i m w acc') = k2 (st2 V q (i + 1) (acc' ++ ones o 5 w.1 (w.2.1.drop (m + 1).toNat))) := by
      intro acc' h
      refine Eq.trans ?_ (hk acc' h)
      unfold ready_Events_R1 st3
      dsimp only
      rw [w64 (by omega) (by omega)]
    rw [cutv_eq, drop_at (d := (0, 0, 0, 0, 0, ())) h0 hm]
    have e : ∀ g l, ones o 5 w.1 (g :: l) = (if (o w.1 g).2.1 = true ∧ (o w.1 g).1.1 = 5 then [(o w.1 g).1] else []) ++ ones o 5 w.1 l := fun g l => rfl
    rw [e]
    unfold ready_Events_C1
    refine (chk_pos (show 0 ≤ (st3 V q i m w acc).2.2.2.2.2.1 ∧ (st3 V q i m w acc).2.2.2.2.2.1 < ((st3 V q i m w acc).2.2.2.1.length : Int) from ⟨h0, hm⟩)).trans ?_
    show Option.bind (ready_View_of V w.1 (w.2.1.getD m.toNat (0, 0, 0, 0, 0, ()))) _ = _
    rw [ho]
    refine bind_t ?_
    generalize o w.1 (w.2.1.getD m.toNat (0, 0, 0, 0, 0, ())) = r
    by_cases hr : r.2.1 = true
    · rw [hr]
      refine (cond_t _ _).trans ?_
      by_cases h5 : r.1.1 = 5
      · rw [bif_pos h5, if_pos ⟨rfl, h5⟩]
        refine (chk_pos (show acc.length + [r.1].length ≤ 4294967296 by rw [List.length_singleton]; omega)).trans ?_
        rw [letv_eq, ← List.append_assoc]
        exact next (acc ++ [r.1]) (by rw [List.length_append, List.length_singleton]; omega)
      · rw [bif_neg h5, if_neg (fun h => h5 h.2), List.nil_append]
        exact next acc (by omega)
    · rw [Bool.eq_false_iff.2 hr, if_neg (fun h => by cases h.1), List.nil_append]
      exact (cond_f _ _).trans (next acc (by omega))
  · refine (bif_neg (show ¬ (st3 V q i m w acc).2.2.2.2.2.1 < (st3 V q i m w acc).2.2.2.2.1 from hm)).trans ?_
    rw [drop_end hm]
    have e : ones o 5 w.1 [] = [] := rfl
    rw [e, List.append_nil]
    unfold ready_Events_J3 ready_Events_J2 st3 st2
    dsimp only
    rw [w64 (by omega) (by omega)]
theorem outer5 (V : View) (o : Int → Gd → Ev × Bool × Unit) (ho : ∀ who g, ready_View_of V who g = some (o who g)) (q : List Ev) (hq : q.length ≤ 1000) (hw : V.2.2.2.1.length ≤ 16) (hg : ∀ w ∈ V.2.2.2.1, w.2.1.length ≤ 8) (k1 : X7 → Option (List Ev)) : loop (ready_Events_L2 k1) (st2 V q 0 []) = k1 (st7 V (q ++ alls o 5 V.2.2.2.1)) := by
  refine loop_to (fun x : X2 => x.2.2.1) (V.2.2.2.1.length : Int) (fun x r => ∃ i acc, x = st2 V q i acc ∧ 0 ≤ i ∧ i ≤ 16 ∧ (acc.length : Int) ≤ 8 * i ∧ r = k1 (st7 V (q ++ (acc ++ alls o 5 (V.2.2.2.1.drop i.toNat))))) ⟨0, [], rfl, Int.le_refl 0, by decide, Int.le_refl 0, rfl⟩ (by show (V.2.2.2.1.length : Int) - 0 < _; omega) ?_
  rintro k _ _ ⟨i, acc, rfl, h0, h16, h1, rfl⟩ hk
  unfold ready_Events_L2
  by_cases hi : i < (V.2.2.2.1.length : Int)
  · refine (bif_pos (show (st2 V q i acc).2.2.1 < (st2 V q i acc).2.1 from hi)).trans ?_
    refine (chk_pos (show 0 ≤ (st2 V q i acc).2.2.1 ∧ (st2 V q i acc).2.2.1 < ((st2 V q i acc).1.length : Int) from ⟨h0, hi⟩)).trans ?_
    have hgw := hg _ (getD_mem (d := (0, [], ())) h0 hi)
    rw [drop_at (d := (0, [], ())) h0 hi]
    have e : ∀ w l, alls o 5 (w :: l) = ones o 5 w.1 w.2.1 ++ alls o 5 l := fun w l => rfl
    rw [e]
    show loop (ready_Events_L1 k) (st3 V q i 0 (V.2.2.2.1.getD i.toNat (0, [], ())) acc) = _
    have hk := fun acc' h => hk hi (st2 V q (i + 1) acc') _ ⟨i + 1, acc', rfl, by omega, by omega, h, rfl⟩ rfl
    generalize V.2.2.2.1.getD i.toNat (0, [], ()) = w at hgw ⊢
    have hl := ones_len o 5 w.1 w.2.1
    rw [inner5 V o ho q i w acc h0 (by omega) hgw (by omega), ← List.append_assoc acc]
    exact hk _ (by rw [List.length_append]; omega)
  · refine (bif_neg (show ¬ (st2 V q i acc).2.2.1 < (st2 V q i acc).2.1 from hi)).trans ?_
    rw [drop_end hi]
    have e : alls o 5 [] = [] := rfl
    rw [e, List.append_nil]
    unfold ready_Events_J1 st2
    dsimp only
    rw [chk_pos (by omega)]
    rfl
theorem inner7 (V : View) (o : Int → Gd → Ev × Bool × Unit) (ho : ∀ who g, ready_View_of V who g = some (o who g)) (q : List Ev) (i : Int) (w : Wait) (acc : List Ev) (hi0 : 0 ≤ i) (hi : i ≤ 100) (hw : w.2.1.length ≤ 8) (ha : acc.length ≤ 1000) (k2 : X2 → Option (List Ev)) : loop (ready_Events_L3 k2) (st3 V q i 0 w acc) = k2 (st2 V q (i + 1) (acc ++ ones o 7 w.1 w.2.1)) := by
  refine loop_to (fun x : X3 => x.2.2.2.2.2.1) (w.2.1.length : Int) (fun x r => ∃ m acc, x = st3 V q i m w acc ∧ 0 ≤ m ∧ (acc.length : Int) ≤ 1000 + m ∧ r = k2 (st2 V q (i + 1) (acc ++ ones o 7 w.1 (w.2.1.drop m.toNat)))) ⟨0, acc, rfl, Int.le_refl 0, by omega, rfl⟩ (by show (w.2.1.length : Int) - 0 < _; omega) ?_
  rintro k _ _ ⟨m, acc, rfl, h0, h1, rfl⟩ hk
  unfold ready_Events_L3
  by_cases hm : m < (w.2.1.length : Int)
  · have hk := fun acc' h => hk hm (st3 V q i (m + 1) w acc') _ ⟨m + 1, acc', rfl, by omega, h, rfl⟩ rfl
    refine (bif_pos (show (st3 V q i m w acc).2.2.2.2.2.1 < (st3 V q i m w acc).2.2.2.2.1 from hm)).trans ?_
    have next : ∀ acc', (acc'.length : Int) ≤ 1000 + (m + 1) → ready_Events_R3 k (st3 V q i m w acc') = k2 (st2 V q (i + 1) (acc' ++ ones o 7 w.1 (w.2.1.drop (m + 1).toNat))) := by
      intro acc' h
      refine Eq.trans ?_ (hk acc' h)
      unfold ready_Events_R3 st3
      dsimp only
      rw [w64 (by omega) (by omega)]
    rw [cutv_eq, drop_at (d := (0, 0, 0, 0, 0, ())) h0 hm]
    have e : ∀ g l, ones o 7 w.1 (g :: l) = (if (o w.1 g).2.1 = true ∧ (o w.1 g).1.1 = 7 then [(o w.1 g).1] else []) ++ ones o 7 w.1 l := fun g l => rfl
    rw [e]
    unfold ready_Events_C3
    refine (chk_pos (show 0 ≤ (st3 V q i m w acc).2.2.2.2.2.1 ∧ (st3 V q i m w acc).2.2.2.2.2.1 < ((st3 V q i m w acc).2.2.2.1.length : Int) from ⟨h0, hm⟩)).trans ?_
    show Option.bind (ready_View_of V w.1 (w.2.1.getD m.toNat (0, 0, 0, 0, 0, ()))) _ = _
    rw [ho]
    refine bind_t ?_
    generalize o w.1 (w.2.1.getD m.toNat (0, 0, 0, 0, 0, ())) = r
    by_cases hr : r.2.1 = true
    · rw [hr]
      refine (cond_t _ _).trans ?_
      by_cases h5 : r.1.1 = 7
      · rw [bif_pos h5, if_pos ⟨rfl, h5⟩]
        refine (chk_pos (show acc.length + [r.1].length ≤ 4294967296 by rw [List.length_singleton]; omega)).trans ?_
        rw [letv_eq, ← List.append_assoc]
        exact next (acc ++ [r.1]) (by rw [List.length_append, List.length_singleton]; omega)
      · rw [bif_neg h5, if_neg (fun h => h5 h.2), List.nil_append]
        exact next acc (by omega)
    · rw [Bool.eq_false_iff.2 hr, if_neg (fun h => by cases h.1), List.nil_append]
      exact (cond_f _ _).trans (next acc (by omega))
  · refine (bif_neg (show ¬ (st3 V q i m w acc).2.2.2.2.2.1 < (st3 V q i m w acc).2.2.2.2.1 from hm)).trans ?_
    rw [drop_end hm]
    have e : ones o 7 w.1 [] = [] := rfl
    rw [e, List.append_nil]
    unfold ready_Events_J6 ready_Events_J5 st3 st2
    dsimp only
    rw [w64 (by omega) (by omega)]
theorem outer7 (V : View) (o : Int → Gd → Ev × Bool × Unit) (ho : ∀ who g, ready_View_of V who g = some (o who g)) (q : List Ev) (hq : q.length ≤ 1000) (hw : V.2.2.2.1.length ≤ 16) (hg : ∀ w ∈ V.2.2.2.1, w.2.1.length ≤ 8) (k1 : X7 → Option (List Ev)) : loop (ready_Events_L4 k1) (st2 V q 0 []) = k1 (st7 V (q ++ alls o 7 V.2.2.2.1)) := by
  refine loop_to (fun x : X2 => x.2.2.1) (V.2.2.2.1.length : Int) (fun x r => ∃ i acc, x = st2 V q i acc ∧ 0 ≤ i ∧ i ≤ 16 ∧ (acc.length : Int) ≤ 8 * i ∧ r = k1 (st7 V (q ++ (acc ++ alls o 7 (V.2.2.2.1.drop i.toNat))))) ⟨0, [], rfl, Int.le_refl 0, by decide, Int.le_refl 0, rfl⟩ (by show (V.2.2.2.1.length : Int) - 0 < _; omega) ?_
  rintro k _ _ ⟨i, acc, rfl, h0, h16, h1, rfl⟩ hk
  unfold ready_Events_L4
  by_cases hi : i < (V.2.2.2.1.length : Int)
  · refine (bif_pos (show (st2 V q i acc).2.2.1 < (st2 V q i acc).2.1 from hi)).trans ?_
    refine (chk_pos (show 0 ≤ (st2 V q i acc).2.2.1 ∧ (st2 V q i acc).2.2.1 < ((st2 V q i acc).1.length : Int) from ⟨h0, hi⟩)).trans ?_
    have hgw := hg _ (getD_mem (d := (0, [], ())) h0 hi)
    rw [drop_at (d := (0, [], ())) h0 hi]
    have e : ∀ w l, alls o 7 (w :: l) = ones o 7 w.1 w.2.1 ++ alls o 7 l := fun w l => rfl
    rw [e]
    show loop (ready_Events_L3 k) (st3 V q i 0 (V.2.2.2.1.getD i.toNat (0, [], ())) acc) = _
    have hk := fun acc' h => hk hi (st2 V q (i + 1) acc') _ ⟨i + 1, acc', rfl, by omega, by omega, h, rfl⟩ rfl
    generalize V.2.2.2.1.getD i.toNat (0, [], ()) = w at hgw ⊢
    have hl := ones_len o 7 w.1 w.2.1
    rw [inner7 V o ho q i w acc h0 (by omega) hgw (by omega), ← List.append_assoc acc]
    exact hk _ (by rw [List.length_append]; omega)
  · refine (bif_neg (show ¬ (st2 V q i acc).2.2.1 < (st2 V q i acc).2.1 from hi)).trans ?_
    rw [drop_end hi]
    have e : alls o 7 [] = [] := rfl
    rw [e, List.append_nil]
    unfold ready_Events_J4 st2
    dsimp only
    rw [chk_pos (by omega)]
    rfl
theorem inner8 (V : View) (o : Int → Gd → Ev × Bool × Unit) (ho : ∀ who g, ready_View_of V who g = some (o who g)) (q : List Ev) (i : Int) (w : Wait) (acc : List Ev) (hi0 : 0 ≤ i) (hi : i ≤ 100) (hw : w.2.1.length ≤ 8) (ha : acc.length ≤ 1000) (k2 : X2 → Option (List Ev)) : loop (ready_Events_L5 k2) (st3 V q i 0 w acc) = k2 (st2 V q (i + 1) (acc ++ ones o 8 w.1 w.2.1)) := by
  refine loop_to (fun x : X3 => x.2.2.2.2.2.1) (w.2.1.length : Int) (fun x r => ∃ m acc, x = st3 V q i m w acc ∧ 0 ≤ m ∧ (acc.length : Int) ≤ 1000 + m ∧ r = k2 (st2 V q (i + 1) (acc ++ ones o 8 w.1 (w.2.1.drop m.toNat)))) ⟨0, acc, rfl, Int.le_refl 0, by omega, rfl⟩ (by show (w.2.1.length : Int) - 0 < _; omega) ?_
  rintro k _ _ ⟨m, acc, rfl, h0, h1, rfl⟩ hk
  unfold ready_Events_L5
  by_cases hm : m < (w.2.1.length : Int)
  · have hk := fun acc' h => hk hm (st3 V q i (m + 1) w acc') _ ⟨m + 1, acc', rfl, by omega, h, rfl⟩ rfl
    refine (bif_pos (show (st3 V q i m w acc).2.2.2.2.2.1 < (st3 V q i m w acc).2.2.2.2.1 from hm)).trans ?_
    have next : ∀ acc', (acc'.length : Int) ≤ 1000 + (m + 1) → ready_Events_R5 k (st3 V q i m w acc') = k2 (st2 V q (i + 1) (acc' ++ ones o 8 w.1 (w.2.1.drop (m + 1).toNat))) := by
      intro acc' h
      refine Eq.trans ?_ (hk acc' h)
      unfold ready_Events_R5 st3
      dsimp only
      rw [w64 (by omega) (by omega)]
    rw [cutv_eq, drop_at (d := (0, 0, 0, 0, 0, ())) h0 hm]
    have e : ∀ g l, ones o 8 w.1 (g :: l) = (if (o w.1 g).2.1 = true ∧ (o w.1 g).1.1 = 8 then [(o w.1 g).1] else []) ++ ones o 8 w.1 l := fun g l => rfl
    rw [e]
    unfold ready_Events_C5
    refine (chk_pos (show 0 ≤ (st3 V q i m w acc).2.2.2.2.2.1 ∧ (st3 V q i m w acc).2.2.2.2.2.1 < ((st3 V q i m w acc).2.2.2.1.length : Int) from ⟨h0, hm⟩)).trans ?_
    show Option.bind (ready_View_of V w.1 (w.2.1.getD m.toNat (0, 0, 0, 0, 0, ()))) _ = _
    rw [ho]
    refine bind_t ?_
    generalize o w.1 (w.2.1.getD m.toNat (0, 0, 0, 0, 0, ())) = r
    by_cases hr : r.2.1 = true
    · rw [hr]
      refine (cond_t _ _).trans ?_
      by_cases h5 : r.1.1 = 8
      · rw [bif_pos h5, if_pos ⟨rfl, h5⟩]
        refine (chk_pos (show acc.length + [r.1].length ≤ 4294967296 by rw [List.length_singleton]; omega)).trans ?_
        rw [letv_eq, ← List.append_assoc]
        exact next (acc ++ [r.1]) (by rw [List.length_append, List.length_singleton]; omega)
      · rw [bif_neg h5, if_neg (fun h => h5 h.2), List.nil_append]
        exact next acc (by omega)
    · rw [Bool.eq_false_iff.2 hr, if_neg (fun h => by cases h.1), List.nil_append]
      exact (cond_f _ _).trans (next acc (by omega))
  · refine (bif_neg (show ¬ (st3 V q i m w acc).2.2.2.2.2.1 < (st3 V q i m w acc).2.2.2.2.1 from hm)).trans ?_
    rw [drop_end hm]
    have e : ones o 8 w.1 [] = [] := rfl
    rw [e, List.append_nil]
    unfold ready_Events_J9 ready_Events_J8 st3 st2
    dsimp only
    rw [w64 (by omega) (by omega)]
theorem outer8 (V : View) (o : Int → Gd → Ev × Bool × Unit) (ho : ∀ who g, ready_View_of V who g = some (o who g)) (q : List Ev) (hq : q.length ≤ 1000) (hw : V.2.2.2.1.length ≤ 16) (hg : ∀ w ∈ V.2.2.2.1, w.2.1.length ≤ 8) (k1 : List Ev → Option (List Ev)) : loop (ready_Events_L6 k1) (st2 V q 0 []) = k1 (id (q ++ alls o 8 V.2.2.2.1)) := by
  refine loop_to (fun x : X2 => x.2.2.1) (V.2.2.2.1.length : Int) (fun x r => ∃ i acc, x = st2 V q i acc ∧ 0 ≤ i ∧ i ≤ 16 ∧ (acc.length : Int) ≤ 8 * i ∧ r = k1 (id (q ++ (acc ++ alls o 8 (V.2.2.2.1.drop i.toNat))))) ⟨0, [], rfl, Int.le_refl 0, by decide, Int.le_refl 0, rfl⟩ (by show (V.2.2.2.1.length : Int) - 0 < _; omega) ?_
  rintro k _ _ ⟨i, acc, rfl, h0, h16, h1, rfl⟩ hk
  unfold ready_Events_L6
  by_cases hi : i < (V.2.2.2.1.length : Int)
  · refine (bif_pos (show (st2 V q i acc).2.2.1 < (st2 V q i acc).2.1 from hi)).trans ?_
    refine (chk_pos (show 0 ≤ (st2 V q i acc).2.2.1 ∧ (st2 V q i acc).2.2.1 < ((st2 V q i acc).1.length : Int) from ⟨h0, hi⟩)).trans ?_
    have hgw := hg _ (getD_mem (d := (0, [], ())) h0 hi)
    rw [drop_at (d := (0, [], ())) h0 hi]
    have e : ∀ w l, alls o 8 (w :: l) = ones o 8 w.1 w.2.1 ++ alls o 8 l := fun w l => rfl
    rw [e]
    show loop (ready_Events_L5 k) (st3 V q i 0 (V.2.2.2.1.getD i.toNat (0, [], ())) acc) = _
    have hk := fun acc' h => hk hi (st2 V q (i + 1) acc') _ ⟨i + 1, acc', rfl, by omega, by omega, h, rfl⟩ rfl
    generalize V.2.2.2.1.getD i.toNat (0, [], ()) = w at hgw ⊢
    have hl := ones_len o 8 w.1 w.2.1
    rw [inner8 V o ho q i w acc h0 (by omega) hgw (by omega), ← List.append_assoc acc]
    exact hk _ (by rw [List.length_append]; omega)
  · refine (bif_neg (show ¬ (st2 V q i acc).2.2.1 < (st2 V q i acc).2.1 from hi)).trans ?_
    rw [drop_end hi]
    have e : alls o 8 [] = [] := rfl
    rw [e, List.append_nil]
    unfold ready_Events_J7 st2
    dsimp only
    rw [chk_pos (by omega)]
    rfl
def dueE (n : Int) (t : Tm) : List Ev := if 0 ≤ n ∧ n ≤ 1099511627776 ∧ 0 ≤ t.1 ∧ t.1 ≤ n then [(6, 0, IntKind.i64.wrap (Int.tdiv t.2.2.1 8), Int.tmod t.2.2.1 8, ())] else []
def dues (n : Int) (tm : List Tm) : List Ev := tm.flatMap (dueE n)
theorem dues_len (n : Int) : ∀ tm : List Tm, (dues n tm).length ≤ tm.length
  | [] => Nat.le_refl _
  | t :: tm => by
    have := dues_len n tm
    have e : dues n (t :: tm) = dueE n t ++ dues n tm := rfl
    rw [e, List.length_append, List.length_cons]
    unfold dueE
    split <;> simp <;> omega
def moveE (m : Int × Int × Unit) : Ev := (1 + m.2.1, m.1, 0, 0, ())
def evS (v : View) : List Ev := alls (ofS v) 8 v.2.2.2.1 |> fun a => alls (ofS v) 7 v.2.2.2.1 |> fun b => dues v.1 v.2.2.2.2.1 |> fun c => alls (ofS v) 5 v.2.2.2.1 |> fun d => ((((((BS.rdy 0 (BS.inT v.2.2.1)).map fun b => ((1, b, 0, 0, ()) : Ev)) ++ (chantab.movesF v.2.1 0).map moveE) ++ d) ++ c) ++ b) ++ a
theorem moves_len : ∀ (cs : List Ch) (i : Int), (chantab.movesF cs i).length ≤ 3 * cs.length
  | [], _ => Nat.le_refl _
  | c :: cs, i => by
    have := moves_len cs (i + 1)
    have h := chantab.what_len c
    rw [chantab.movesF, List.length_append, List.length_map, List.length_cons]
    omega
theorem mem_moves {x : Int × Int × Unit} : ∀ {cs : List Ch} {i : Int}, x ∈ chantab.movesF cs i ↔ i ≤ x.1 ∧ x.1 < i + cs.length ∧ x.2.1 ∈ channel.what (cs.getD (x.1 - i).toNat C0)
  | [], i => by simp [chantab.movesF]; omega
  | c :: cs, i => by
    rw [chantab.movesF, List.mem_append, mem_moves (cs := cs) (i := i + 1), List.length_cons]
    constructor
    · rintro (h | ⟨h1, h2, h3⟩)
      · obtain ⟨m, hm, rfl⟩ := List.mem_map.1 h
        refine ⟨Int.le_refl _, by dsimp only; omega, ?_⟩
        dsimp only
        rw [show (i - i).toNat = 0 by omega]
        exact hm
      · refine ⟨by omega, by omega, ?_⟩
        rw [show (x.1 - i).toNat = (x.1 - (i + 1)).toNat + 1 by omega]
        exact h3
    · rintro ⟨h1, h2, h3⟩
      by_cases e : x.1 = i
      · refine .inl (List.mem_map.2 ⟨x.2.1, ?_, ?_⟩)
        · rw [show (x.1 - i).toNat = 0 by omega] at h3
          exact h3
        · rw [← e]
      · refine .inr ⟨by omega, by omega, ?_⟩
        rw [show (x.1 - i).toNat = (x.1 - (i + 1)).toNat + 1 by omega] at h3
        exact h3
theorem events_eq {v : View} (h : Good v) : ready_Events (A_of v) = some (evS v) := by
  have hof : ∀ who g, ready_View_of (A_of v) who g = some (ofS v who g) := of_A h
  have hw := h.w
  have ht := h.t
  have hb := h.bars
  have htl := h.tab.len
  have hwt := BS.inT_wt h.wf
  have hil : (BS.inT v.2.2.1).length = v.2.2.1.length := BS.inT_len _
  have hrl : (BS.rdy 0 (BS.inT v.2.2.1)).length ≤ 10 := by have := BS.rdy_len (l := BS.inT v.2.2.1) (j := 0); omega
  have hml : (chantab.movesF v.2.1 0).length ≤ 30 := by have := moves_len v.2.1 0; omega
  have l5 := alls_len (ofS v) 5 v.2.2.2.1 h.g
  have l7 := alls_len (ofS v) 7 v.2.2.2.1 h.g
  have ldu := dues_len v.1 v.2.2.2.2.1
  have R4 : ∀ q : List Ev, q.length ≤ 1000 → ready_Events_R4 (st7 (A_of v) q) = some (q ++ alls (ofS v) 8 v.2.2.2.1) := by
    intro q hq
    unfold ready_Events_R4
    rw [cutv_eq]
    unfold ready_Events_C6
    exact outer8 (A_of v) (ofS v) hof q hq hw h.g ready_Events_R6
  have J10 : ∀ q c : List Ev, q.length ≤ 500 → ready_Events_J10 (st7 (A_of v) c) q = some ((q ++ alls (ofS v) 7 v.2.2.2.1) ++ alls (ofS v) 8 v.2.2.2.1) := by
    intro q c hq
    unfold ready_Events_J10
    rw [cutv_eq]
    unfold ready_Events_C4
    refine (outer7 (A_of v) (ofS v) hof q (by omega) hw h.g ready_Events_R4).trans ?_
    exact R4 _ (by rw [List.length_append]; show _ + (alls (ofS v) 7 v.2.2.2.1).length ≤ _; omega)
  have R2 : ∀ q : List Ev, q.length ≤ 300 → ready_Events_R2 (st7 (A_of v) q) = some (((q ++ dues v.1 v.2.2.2.2.1) ++ alls (ofS v) 7 v.2.2.2.1) ++ alls (ofS v) 8 v.2.2.2.1) := by
    intro q hq
    unfold ready_Events_R2
    refine loop_to (fun x : Int × List Ev => x.1) (v.2.2.2.2.1.length : Int) (fun x r => ∃ j acc, x = (j, acc) ∧ 0 ≤ j ∧ j ≤ (v.2.2.2.2.1.length : Int) ∧ (acc.length : Int) ≤ 300 + j ∧ r = some (((acc ++ dues v.1 (v.2.2.2.2.1.drop j.toNat)) ++ alls (ofS v) 7 v.2.2.2.1) ++ alls (ofS v) 8 v.2.2.2.1)) ⟨0, q, rfl, Int.le_refl 0, by omega, by omega, rfl⟩ (by show (v.2.2.2.2.1.length : Int) - 0 < _; omega) ?_
    rintro k _ _ ⟨j, acc, rfl, h0, h1, h2, rfl⟩ hk
    unfold ready_Events_L7
    dsimp only
    by_cases hj : j < (v.2.2.2.2.1.length : Int)
    · have hk := fun acc' h => hk hj (j + 1, acc') _ ⟨j + 1, acc', rfl, by omega, by omega, h, rfl⟩ rfl
      refine (bif_pos (show j < (v.2.2.2.2.1.length : Int) from hj)).trans ((chk_pos (show 0 ≤ j ∧ j < (v.2.2.2.2.1.length : Int) from ⟨h0, hj⟩)).trans ?_)
      rw [drop_at (d := (0, 0, 0, ())) h0 hj]
      have e : ∀ x l, dues v.1 (x :: l) = dueE v.1 x ++ dues v.1 l := fun x l => rfl
      rw [e]
      show Option.bind (clock_Due v.1 (v.2.2.2.2.1.getD j.toNat (0, 0, 0, ())).1) _ = _
      rw [(due_eq _ _).1]
      refine bind_t ?_
      rw [w64 (x := j + 1) (by omega) (by omega)]
      show cond _ (chk _ (chk _ (letv [(6, 0, IntKind.i64.wrap (Int.tdiv (v.2.2.2.2.1.getD j.toNat (0, 0, 0, ())).2.2.1 8), Int.tmod (v.2.2.2.2.1.getD j.toNat (0, 0, 0, ())).2.2.1 8, ())] _))) _ = _
      generalize v.2.2.2.2.1.getD j.toNat (0, 0, 0, ()) = x
      unfold dueE
      by_cases hd : 0 ≤ v.1 ∧ v.1 ≤ 1099511627776 ∧ 0 ≤ x.1 ∧ x.1 ≤ v.1
      · rw [bif_pos hd, if_pos hd, chk_pos (by decide), chk_pos (by decide), letv_eq, chk_pos (by simp only [List.length_cons, List.length_nil]; omega), ← List.append_assoc]
        exact hk _ (by simp only [List.length_append, List.length_cons, List.length_nil]; omega)
      · rw [bif_neg hd, if_neg hd, List.nil_append]
        exact hk _ (by omega)
    · refine (bif_neg (show ¬ j < (v.2.2.2.2.1.length : Int) from hj)).trans ?_
      rw [drop_end hj]
      have e : dues v.1 [] = [] := rfl
      rw [e, List.append_nil]
      exact J10 acc q (by omega)
  have J11 : ∀ q : List Ev, q.length ≤ 100 → ready_Events_J11 (A_of v) q = some ((((q ++ alls (ofS v) 5 v.2.2.2.1) ++ dues v.1 v.2.2.2.2.1) ++ alls (ofS v) 7 v.2.2.2.1) ++ alls (ofS v) 8 v.2.2.2.1) := by
    intro q hq
    unfold ready_Events_J11
    rw [cutv_eq]
    unfold ready_Events_C2
    refine (outer5 (A_of v) (ofS v) hof q (by omega) hw h.g ready_Events_R2).trans ?_
    exact R2 _ (by rw [List.length_append]; show _ + (alls (ofS v) 5 v.2.2.2.1).length ≤ _; omega)
  have J12 : ∀ q : List Ev, q.length ≤ 10 → ready_Events_J12 (A_of v) q = some (((((q ++ (chantab.movesF v.2.1 0).map moveE) ++ alls (ofS v) 5 v.2.2.2.1) ++ dues v.1 v.2.2.2.2.1) ++ alls (ofS v) 7 v.2.2.2.1) ++ alls (ofS v) 8 v.2.2.2.1) := by
    intro q hq
    unfold ready_Events_J12
    have em : chantab_Moves (A_of v).2.1 = some (chantab.movesF v.2.1 0) := chantab.moves_eq _ h.tab
    have rng : ∀ x ∈ chantab.movesF v.2.1 0, 1 ≤ x.2.1 ∧ x.2.1 ≤ 3 := fun x hx => (what_rng (mem_moves.1 hx).2.2).1
    rw [em]
    refine bind_t ?_
    generalize chantab.movesF v.2.1 0 = ms at hml rng
    refine loop_to (fun x : Int × List Ev => x.1) (ms.length : Int) (fun x r => ∃ j acc, x = (j, acc) ∧ 0 ≤ j ∧ j ≤ (ms.length : Int) ∧ (acc.length : Int) ≤ 10 + j ∧ r = some (((((acc ++ (ms.drop j.toNat).map moveE) ++ alls (ofS v) 5 v.2.2.2.1) ++ dues v.1 v.2.2.2.2.1) ++ alls (ofS v) 7 v.2.2.2.1) ++ alls (ofS v) 8 v.2.2.2.1)) ⟨0, q, rfl, Int.le_refl 0, by omega, by omega, rfl⟩ (by show (ms.length : Int) - 0 < _; omega) ?_
    rintro k _ _ ⟨j, acc, rfl, h0, h1, h2, rfl⟩ hk
    unfold ready_Events_L8
    dsimp only
    by_cases hj : j < (ms.length : Int)
    · have hk := fun acc' h => hk hj (j + 1, acc') _ ⟨j + 1, acc', rfl, by omega, by omega, h, rfl⟩ rfl
      have hr := rng _ (getD_mem (d := (0, 0, ())) h0 hj)
      rw [bif_pos hj, chk_at h0 hj, drop_at (d := (0, 0, ())) h0 hj, List.map_cons, w64 (x := j + 1) (by omega) (by omega)]
      generalize ms.getD j.toNat (0, 0, ()) = x at hr ⊢
      unfold ready_moves
      rw [letv_eq, w64 (x := 2 + _) (by omega) (by omega), w64 (by omega) (by omega), show 2 + x.2.1 - 1 = 1 + x.2.1 by omega]
      refine bind_t ?_
      rw [letv_eq, chk_pos (by simp only [List.length_cons, List.length_nil]; omega)]
      have e : acc ++ moveE x :: (ms.drop (j + 1).toNat).map moveE = (acc ++ [moveE x]) ++ (ms.drop (j + 1).toNat).map moveE := by simp
      rw [e]
      exact hk _ (by simp only [List.length_append, List.length_cons, List.length_nil]; omega)
    · rw [bif_neg hj, drop_end hj, List.map_nil, List.append_nil]
      exact J11 acc (by omega)
  unfold ready_Events
  have er : bartab_Ready (A_of v).2.2.1 = some (BS.rdy 0 (BS.inT v.2.2.1)) := BS.Ready_tab hwt (show (BS.inT v.2.2.1).length ≤ 100 by omega)
  rw [er]
  refine bind_t ?_
  have ee : evS v = ((((((BS.rdy 0 (BS.inT v.2.2.1)).map fun b => ((1, b, 0, 0, ()) : Ev)) ++ (chantab.movesF v.2.1 0).map moveE) ++ alls (ofS v) 5 v.2.2.2.1) ++ dues v.1 v.2.2.2.2.1) ++ alls (ofS v) 7 v.2.2.2.1) ++ alls (ofS v) 8 v.2.2.2.1 := rfl
  rw [ee]
  generalize BS.rdy 0 (BS.inT v.2.2.1) = rs at hrl
  refine loop_to (fun x : Int × List Ev => x.1) (rs.length : Int) (fun x r => ∃ j acc, x = (j, acc) ∧ 0 ≤ j ∧ j ≤ (rs.length : Int) ∧ (acc.length : Int) ≤ j ∧ r = some ((((((acc ++ (rs.drop j.toNat).map fun b => ((1, b, 0, 0, ()) : Ev)) ++ (chantab.movesF v.2.1 0).map moveE) ++ alls (ofS v) 5 v.2.2.2.1) ++ dues v.1 v.2.2.2.2.1) ++ alls (ofS v) 7 v.2.2.2.1) ++ alls (ofS v) 8 v.2.2.2.1)) ⟨0, [], rfl, Int.le_refl 0, by omega, Int.le_refl 0, rfl⟩ (by show (rs.length : Int) - 0 < _; omega) ?_
  rintro k _ _ ⟨j, acc, rfl, h0, h1, h2, rfl⟩ hk
  unfold ready_Events_L9
  dsimp only
  by_cases hj : j < (rs.length : Int)
  · have hk := fun acc' h => hk hj (j + 1, acc') _ ⟨j + 1, acc', rfl, by omega, by omega, h, rfl⟩ rfl
    rw [bif_pos hj, chk_at h0 hj, drop_at (d := 0) h0 hj, List.map_cons, w64 (x := j + 1) (by omega) (by omega), chk_pos (by simp only [List.length_cons, List.length_nil]; omega), letv_eq]
    have e : ∀ b : Int, acc ++ ((1, b, 0, 0, ()) : Ev) :: (rs.drop (j + 1).toNat).map (fun b => ((1, b, 0, 0, ()) : Ev)) = (acc ++ [(1, b, 0, 0, ())]) ++ (rs.drop (j + 1).toNat).map (fun b => ((1, b, 0, 0, ()) : Ev)) := by intro b; simp
    rw [e]
    exact hk _ (by simp only [List.length_append, List.length_cons, List.length_nil]; omega)
  · rw [bif_neg hj, drop_end hj, List.map_nil, List.append_nil]
    exact J12 acc (by omega)
theorem excl {c : Ch} (hf : channel.fine c = true) (h : channel.mayB c 1 = true) : channel.mayB c 2 = false ∧ channel.mayB c 3 = false := by
  have h0 : c.1.2.1 = 0 := by
    unfold channel.mayB at h
    rw [bif_pos rfl, Bool.and_eq_true] at h
    exact of_decide_eq_true h.1
  have hl : ¬ ((c.2.2.1.length : Nat) : Int) > c.1.2.1 := by
    unfold channel.fine at hf
    simp only [Bool.and_eq_true] at hf
    have := hf.2.2.1
    intro hc
    rw [decide_eq_true hc] at this
    cases this
  unfold channel.mayB
  constructor
  · rw [bif_neg (by decide), bif_pos rfl, decide_eq_false (by omega)]; rfl
  · rw [bif_neg (by decide), bif_neg (by decide), bif_pos rfl, decide_eq_false (by omega)]; rfl
theorem sees {c : Ch} {m : Int} (h : m ∈ channel.what c) : (m ≠ 2 → fmv 2 (channel.what c) = m ∧ channel.hit c.2.1 c.1.2.2.1 = false) ∧ (m ≠ 3 → fmv 3 (channel.what c) = m ∧ channel.hit c.2.1 c.1.2.2.2.1 = false) := by
  obtain ⟨hr, hf, _, _⟩ := what_rng h
  have hb := (channel.mem_what hf m).1 h
  have ew : channel.what c = channel.one_ c 1 ++ (channel.one_ c 2 ++ channel.one_ c 3) := by unfold channel.what; rw [if_neg (by rw [hf]; simp)]
  rw [ew]
  have hm : m = 1 ∨ m = 2 ∨ m = 3 := by omega
  unfold channel.one_
  rcases hm with rfl | rfl | rfl
  · obtain ⟨e2, e3⟩ := excl hf hb
    rw [hb, e2, e3]
    unfold channel.mayB at hb
    rw [bif_pos rfl] at hb
    simp only [Bool.and_eq_true] at hb
    exact ⟨fun _ => ⟨rfl, by simpa using hb.2.2.2⟩, fun _ => ⟨rfl, by simpa using hb.2.1.2⟩⟩
  · have e1 : channel.mayB c 1 = false := by
      cases e : channel.mayB c 1 with
      | false => rfl
      | true => rw [(excl hf e).1] at hb; cases hb
    rw [e1, hb]
    refine ⟨fun h => absurd rfl h, fun _ => ⟨rfl, ?_⟩⟩
    unfold channel.mayB at hb
    rw [bif_neg (by decide), bif_pos rfl] at hb
    simp only [Bool.and_eq_true] at hb
    simpa using hb.2.2
  · have e1 : channel.mayB c 1 = false := by
      cases e : channel.mayB c 1 with
      | false => rfl
      | true => rw [(excl hf e).2] at hb; cases hb
    have hb2 := hb
    rw [e1, hb]
    refine ⟨fun _ => ⟨?_, ?_⟩, fun h => absurd rfl h⟩
    · cases channel.mayB c 2 <;> rfl
    · unfold channel.mayB at hb2
      rw [bif_neg (by decide), bif_neg (by decide), bif_pos rfl] at hb2
      simp only [Bool.and_eq_true] at hb2
      simpa using hb2.2.2
theorem at_iff {a : Bar} (h1 : a.2.1.1.length ≤ 140737488355328) (h2 : a.2.1.2.1.length ≤ 140737488355328) (q : Int) : q ∈ BS.ids (BS.mem (BS.inB a).2.1.2.1) → q ∈ atW a := by
  obtain ⟨hw, e, _⟩ := BS.inB_eq a h1 h2
  unfold L22_Plain L21_Plain at e
  rw [BS.rOf_eq _ h1, BS.rOf_eq _ h2] at e
  have e : some (a.1, ((BS.ids fun i => decide ((i : Int) ∈ a.2.1.1)), (BS.ids fun i => decide ((i : Int) ∈ a.2.1.2.1)), ()), a.2.2.1, ()) = some (BS.PB (BS.inB a)) := e
  have e := congrArg (fun b : Bar => b.2.1.2.1) (Option.some.inj e)
  have e : (BS.ids fun i => decide ((i : Int) ∈ a.2.1.2.1)) = BS.ids (BS.mem (BS.inB a).2.1.2.1) := e
  rw [← e]
  intro hq
  obtain ⟨b1, b2, b3⟩ := BS.ids_mem.1 hq
  have b3 := of_decide_eq_true b3
  rw [show ((q.toNat : Nat) : Int) = q by omega] at b3
  exact b3
theorem ready_some {b : Bar} (hw : BS.WB b) (h : BS.bready b = true) : ∃ q, q ∈ BS.ids (BS.mem b.2.1.2.1) := by
  unfold BS.bready BS.full at h
  simp only [Bool.and_eq_true] at h
  have hn := h.2.1.2.2
  cases hl : BS.ids (BS.mem b.2.1.2.1) with
  | nil =>
    have := (BS.ids_nil hw.2).1 hl
    rw [decide_eq_true this] at hn
    cases hn
  | cons q l => exact ⟨q, List.mem_cons_self⟩
theorem has_ids {s : List Int} (h : BS.Wf s) {q : Int} (hq : q ∈ BS.ids (BS.mem s)) : (bitset_Has s q).getD false = true := by
  obtain ⟨r, e1, e2⟩ := BS.has_sim h q
  have := BS.ids_len (BS.mem s)
  rw [BS.rHas_eq _ _ (by omega), decide_eq_true hq] at e2
  rw [e1, ← Option.some.inj e2]; rfl
theorem inT_at {t : List Bar} {i : Int} (h0 : 0 ≤ i) (hi : i < (t.length : Int)) : (BS.inT t).getD i.toNat BS.B0 = BS.inB (t.getD i.toNat D0) := by
  unfold BS.inT
  rw [List.getD_eq_getElem?_getD, List.getD_eq_getElem?_getD, List.getElem?_map, List.getElem?_eq_getElem (show i.toNat < t.length by omega)]
  rfl
theorem Made.who {v : View} (m : Made v) {w : Wait} (hw : w ∈ v.2.2.2.1) : (0 ≤ w.1 ∧ w.1 ≤ 15) ∧ ∀ g ∈ w.2.1, 0 ≤ g.2.2.2.2.1 ∧ g.2.2.2.2.1 ≤ 5 := by
  have h := List.all_eq_true.1 (small_ok m.sm).2.2.2.2.2 w hw
  unfold wtB at h
  simp only [Bool.and_eq_true] at h
  obtain ⟨_, h2, h3, h4⟩ := h
  refine ⟨⟨by simp at h2; omega, by simp at h3; omega⟩, fun g hg => ?_⟩
  have hgd := List.all_eq_true.1 h4 g hg
  unfold gdB at hgd
  simp only [Bool.and_eq_true] at hgd
  obtain ⟨a, b⟩ := hgd
  exact ⟨by simp at a; omega, by simp at b; omega⟩
theorem mem_ones {o : Int → Gd → Ev × Bool × Unit} {k who : Int} {l : List Gd} {e : Ev} : e ∈ ones o k who l ↔ ∃ g ∈ l, (o who g).2.1 = true ∧ (o who g).1.1 = k ∧ (o who g).1 = e := by
  unfold ones
  rw [List.mem_flatMap]
  constructor
  · rintro ⟨g, hg, h⟩
    by_cases hc : (o who g).2.1 = true ∧ (o who g).1.1 = k
    · rw [if_pos hc] at h; exact ⟨g, hg, hc.1, hc.2, (List.mem_singleton.1 h).symm⟩
    · rw [if_neg hc] at h; cases h
  · rintro ⟨g, hg, h1, h2, h3⟩
    exact ⟨g, hg, by rw [if_pos ⟨h1, h2⟩, h3]; exact List.mem_singleton.2 rfl⟩
theorem mem_alls {o : Int → Gd → Ev × Bool × Unit} {k : Int} {ws : List Wait} {e : Ev} : e ∈ alls o k ws ↔ ∃ w ∈ ws, ∃ g ∈ w.2.1, (o w.1 g).2.1 = true ∧ (o w.1 g).1.1 = k ∧ (o w.1 g).1 = e := by
  unfold alls
  rw [List.mem_flatMap]
  constructor
  · rintro ⟨w, hw, h⟩; exact ⟨w, hw, mem_ones.1 h⟩
  · rintro ⟨w, hw, h⟩; exact ⟨w, hw, mem_ones.2 h⟩
theorem mem_evS {v : View} {e : Ev} : e ∈ evS v ↔ (∃ b ∈ BS.rdy 0 (BS.inT v.2.2.1), (1, b, 0, 0, ()) = e) ∨ (∃ m ∈ chantab.movesF v.2.1 0, moveE m = e) ∨ e ∈ alls (ofS v) 5 v.2.2.2.1 ∨ (∃ t ∈ v.2.2.2.2.1, e ∈ dueE v.1 t) ∨ e ∈ alls (ofS v) 7 v.2.2.2.1 ∨ e ∈ alls (ofS v) 8 v.2.2.2.1 := by
  unfold evS
  dsimp only
  simp only [List.mem_append, List.mem_map, dues, List.mem_flatMap]
  simp only [or_assoc]
theorem of_end {v : View} {who : Int} {g : Gd} (h : g.1 = 1 ∨ g.1 = 2) : ofS v who g = endS v who g := by unfold ofS; rw [if_pos h]
theorem of_bar {v : View} {who : Int} {g : Gd} (h : g.1 = 3) : ofS v who g = if atS v who g.2.1 = true then ((1, g.2.1, 0, 0, ()), true, ()) else none2 := by unfold ofS; rw [if_neg (by omega), if_pos h]
theorem of_due {v : View} {who : Int} {g : Gd} (h : g.1 = 4) : ofS v who g = if dueS v who g = true then ev 6 who g else none2 := by unfold ofS; rw [if_neg (by omega), if_neg (by omega), if_pos h]
theorem num {who no t : Int} (h1 : 0 ≤ who) (h2 : who ≤ 15) (h3 : 0 ≤ no) (h4 : no ≤ 5) (ht : t = IntKind.i64.wrap (IntKind.i64.wrap (8 * who) + no)) : IntKind.i64.wrap (Int.tdiv t 8) = who ∧ Int.tmod t 8 = no := by
  rw [w64 (x := 8 * who) (by omega) (by omega), w64 (by omega) (by omega)] at ht
  have e1 : Int.tdiv t 8 = who := by rw [Int.tdiv_eq_ediv_of_nonneg (by omega)]; omega
  have e2 : Int.tmod t 8 = no := by rw [Int.tmod_eq_emod_of_nonneg (by omega)]; omega
  rw [e1, e2, w64 (by omega) (by omega)]
  exact ⟨rfl, rfl⟩
theorem ev_of {v : View} (m : Made v) {e : Ev} (h : e ∈ evS v) : ∃ w ∈ v.2.2.2.1, ∃ g ∈ w.2.1, (ofS v w.1 g).2.1 = true ∧ (ofS v w.1 g).1 = e := by
  have good := good_of m.sm
  have rest : ∀ k, e ∈ alls (ofS v) k v.2.2.2.1 → ∃ w ∈ v.2.2.2.1, ∃ g ∈ w.2.1, (ofS v w.1 g).2.1 = true ∧ (ofS v w.1 g).1 = e := fun k h => by
    obtain ⟨w, hw, g, hg, a, _, b⟩ := mem_alls.1 h
    exact ⟨w, hw, g, hg, a, b⟩
  rcases mem_evS.1 h with ⟨b, hb, he⟩ | ⟨x, hx, he⟩ | h | ⟨t, ht, he⟩ | h | h
  · have hil : (BS.inT v.2.2.1).length = v.2.2.1.length := BS.inT_len _
    rw [rdy_mem, Int.sub_zero] at hb
    obtain ⟨h0, h1, h2⟩ := hb
    have h1 : b < (v.2.2.1.length : Int) := by omega
    have hwb := BS.WT.at (BS.inT_wt good.wf) h0 (show b < ((BS.inT v.2.2.1).length : Int) by omega)
    obtain ⟨q, hq⟩ := ready_some hwb h2
    have hh := has_ids hwb.2 hq
    have hlen := good.wf.2 _ (getD_mem (d := D0) h0 h1)
    have hqa : q ∈ atW (v.2.2.1.getD b.toNat D0) := at_iff hlen.1 hlen.2 q (by rw [← inT_at h0 h1]; exact hq)
    obtain ⟨w, hw, rfl, g, hg, g1, g2⟩ := m.bi _ _ hqa
    have g2 : g.2.1 = b := by omega
    refine ⟨w, hw, g, hg, ?_⟩
    have ha : atS v w.1 g.2.1 = true := by
      unfold atS
      rw [if_pos ⟨by omega, by omega⟩, g2, h2, hh]; rfl
    rw [of_bar g1, if_pos ha, g2]
    exact ⟨rfl, he⟩
  · obtain ⟨h0, h1, h2⟩ := mem_moves.1 hx
    rw [Int.sub_zero] at h2
    have hs := sees h2
    have hr := what_rng h2
    have mm : x.2.1 ≠ 2 ∨ x.2.1 ≠ 3 := by omega
    rcases mm with mm | mm
    · obtain ⟨s1, s2⟩ := hs.1 mm
      have hp := hr.2.2.1 mm
      have hq : (inW (v.2.1.getD x.1.toNat C0)).getD 0 0 ∈ inW (v.2.1.getD x.1.toNat C0) := getD_mem (i := 0) (d := 0) (Int.le_refl 0) (show (0 : Int) < ((inW (v.2.1.getD x.1.toNat C0)).length : Int) by unfold inW; omega)
      obtain ⟨w, hw, hwq, g, hg, g1, g2⟩ := (m.ci _ _).1 hq
      have g2 : g.2.1 = x.1 := by omega
      refine ⟨w, hw, g, hg, ?_⟩
      rw [of_end (.inl g1)]
      unfold endS
      rw [g2, if_pos ⟨h0, by omega⟩]
      dsimp only
      rw [if_neg (by omega), if_neg (by rw [s2]; decide), if_pos ⟨hwq.symm, by rw [s1]; omega⟩, s1]
      exact ⟨rfl, he⟩
    · obtain ⟨s1, s2⟩ := hs.2 mm
      have hp := hr.2.2.2 mm
      have hq : (outW (v.2.1.getD x.1.toNat C0)).getD 0 0 ∈ outW (v.2.1.getD x.1.toNat C0) := getD_mem (i := 0) (d := 0) (Int.le_refl 0) (show (0 : Int) < ((outW (v.2.1.getD x.1.toNat C0)).length : Int) by unfold outW; omega)
      obtain ⟨w, hw, hwq, g, hg, g1, g2⟩ := (m.ci _ _).2 hq
      have g2 : g.2.1 = x.1 := by omega
      refine ⟨w, hw, g, hg, ?_⟩
      rw [of_end (.inr g1)]
      unfold endS
      rw [g2, if_pos ⟨h0, by omega⟩]
      dsimp only
      rw [if_pos g1, if_neg (by rw [s2]; decide), if_pos ⟨hwq.symm, by rw [s1]; omega⟩, s1]
      exact ⟨rfl, he⟩
  · exact rest 5 h
  · unfold dueE at he
    by_cases hd : 0 ≤ v.1 ∧ v.1 ≤ 1099511627776 ∧ 0 ≤ t.1 ∧ t.1 ≤ v.1
    · rw [if_pos hd] at he
      have he := List.mem_singleton.1 he
      obtain ⟨w, hw, g, hg, g1, g2⟩ := m.ti t ht
      obtain ⟨⟨a1, a2⟩, a3⟩ := m.who hw
      have a3 := a3 g hg
      obtain ⟨n1, n2⟩ := num a1 a2 a3.1 a3.2 g2
      refine ⟨w, hw, g, hg, ?_⟩
      have hdu : dueS v w.1 g = true := by
        unfold dueS
        rw [List.any_eq_true]
        refine ⟨t, ht, ?_⟩
        unfold dueB
        rw [decide_eq_true g2, decide_eq_true hd]; rfl
      rw [of_due g1, if_pos hdu, he, n1, n2]
      exact ⟨rfl, rfl⟩
    · rw [if_neg hd] at he; cases he
  · exact rest 7 h
  · exact rest 8 h
theorem open_kind {v : View} {who : Int} {g : Gd} : ((ofS v who g).2.1 = true → 1 ≤ (ofS v who g).1.1) ∧ ((ofS v who g).2.1 = false → (ofS v who g).1 = (0, 0, 0, 0, ())) := by
  have no : ((none2 : Ev × Bool × Unit).2.1 = true → 1 ≤ (none2 : Ev × Bool × Unit).1.1) ∧ ((none2 : Ev × Bool × Unit).2.1 = false → (none2 : Ev × Bool × Unit).1 = (0, 0, 0, 0, ())) := ⟨(fun h => by cases h), fun _ => rfl⟩
  have yes : ∀ e : Ev, 1 ≤ e.1 → (((e, true, ()) : Ev × Bool × Unit).2.1 = true → 1 ≤ ((e, true, ()) : Ev × Bool × Unit).1.1) ∧ (((e, true, ()) : Ev × Bool × Unit).2.1 = false → ((e, true, ()) : Ev × Bool × Unit).1 = (0, 0, 0, 0, ())) := fun e h => ⟨fun _ => h, (fun h => by cases h)⟩
  have mv : ∀ (c : Ch) (o : Int), fmv o (channel.what c) ≠ 0 → 1 ≤ 1 + fmv o (channel.what c) := fun c o h => by
    have := (what_rng ((fmv_mem (o := o) (l := channel.what c)).resolve_left h).1).1
    omega
  unfold ofS
  split
  · unfold endS
    split
    · dsimp only
      split
      · split
        · exact yes _ (by dsimp only; decide)
        · split
          · rename_i h; exact yes _ (mv _ _ h.2)
          · exact no
      · split
        · exact yes _ (by dsimp only; decide)
        · split
          · rename_i h; exact yes _ (mv _ _ h.2)
          · exact no
    · exact no
  · split
    · split
      · exact yes _ (by dsimp only; decide)
      · exact no
    · split
      · split
        · exact yes _ (by dsimp only; decide)
        · exact no
      · split
        · exact yes _ (by dsimp only; decide)
        · split
          · split
            · exact no
            · exact yes _ (by dsimp only; decide)
          · exact no
theorem of_ev {v : View} (m : Made v) {w : Wait} (hw : w ∈ v.2.2.2.1) {g : Gd} (hg : g ∈ w.2.1) (h : (ofS v w.1 g).2.1 = true) : (ofS v w.1 g).1 ∈ evS v := by
  have good := good_of m.sm
  have via : ∀ k, k = 5 ∨ k = 7 ∨ k = 8 → (ofS v w.1 g).1.1 = k → (ofS v w.1 g).1 ∈ evS v := by
    intro k hk e
    have : (ofS v w.1 g).1 ∈ alls (ofS v) k v.2.2.2.1 := mem_alls.2 ⟨w, hw, g, hg, h, e, rfl⟩
    rcases hk with rfl | rfl | rfl
    · exact mem_evS.2 (.inr (.inr (.inl this)))
    · exact mem_evS.2 (.inr (.inr (.inr (.inr (.inl this)))))
    · exact mem_evS.2 (.inr (.inr (.inr (.inr (.inr this)))))
  by_cases hk : g.1 = 1 ∨ g.1 = 2
  · rw [of_end hk] at h via ⊢
    unfold endS at h via ⊢
    by_cases hr : 0 ≤ g.2.1 ∧ g.2.1 < (v.2.1.length : Int)
    · rw [if_pos hr] at h via ⊢
      dsimp only at h via ⊢
      have mvs : ∀ o, fmv o (channel.what (v.2.1.getD g.2.1.toNat C0)) ≠ 0 → ((1 + fmv o (channel.what (v.2.1.getD g.2.1.toNat C0)), g.2.1, 0, 0, ()) : Ev) ∈ evS v := by
        intro o ho
        have hm := ((fmv_mem (o := o) (l := channel.what (v.2.1.getD g.2.1.toNat C0))).resolve_left ho).1
        refine mem_evS.2 (.inr (.inl ⟨(g.2.1, fmv o (channel.what (v.2.1.getD g.2.1.toNat C0)), ()), mem_moves.2 ⟨hr.1, by dsimp only; omega, ?_⟩, rfl⟩))
        dsimp only
        rw [Int.sub_zero]; exact hm
      by_cases h2 : g.1 = 2
      · rw [if_pos h2] at h via ⊢
        by_cases hh : channel.hit (v.2.1.getD g.2.1.toNat C0).2.1 (v.2.1.getD g.2.1.toNat C0).1.2.2.2.1 = true
        · rw [if_pos hh] at h via ⊢; exact via 5 (.inl rfl) rfl
        · rw [if_neg hh] at h via ⊢
          by_cases hc : (v.2.1.getD g.2.1.toNat C0).2.2.2.1.2.1.getD 0 0 = w.1 ∧ fmv 3 (channel.what (v.2.1.getD g.2.1.toNat C0)) ≠ 0
          · rw [if_pos hc]; exact mvs 3 hc.2
          · rw [if_neg hc] at h; cases h
      · rw [if_neg h2] at h via ⊢
        by_cases hh : channel.hit (v.2.1.getD g.2.1.toNat C0).2.1 (v.2.1.getD g.2.1.toNat C0).1.2.2.1 = true
        · rw [if_pos hh] at h via ⊢; exact via 5 (.inl rfl) rfl
        · rw [if_neg hh] at h via ⊢
          by_cases hc : (v.2.1.getD g.2.1.toNat C0).2.2.2.2.2.1.2.1.getD 0 0 = w.1 ∧ fmv 2 (channel.what (v.2.1.getD g.2.1.toNat C0)) ≠ 0
          · rw [if_pos hc]; exact mvs 2 hc.2
          · rw [if_neg hc] at h; cases h
    · rw [if_neg hr] at h; cases h
  by_cases h3 : g.1 = 3
  · rw [of_bar h3] at h ⊢
    by_cases ha : atS v w.1 g.2.1 = true
    · rw [if_pos ha]
      unfold atS at ha
      by_cases hr : 0 ≤ g.2.1 ∧ g.2.1 < (v.2.2.1.length : Int)
      · rw [if_pos hr, Bool.and_eq_true] at ha
        have hil : (BS.inT v.2.2.1).length = v.2.2.1.length := BS.inT_len _
        refine mem_evS.2 (.inl ⟨g.2.1, ?_, rfl⟩)
        rw [rdy_mem, Int.sub_zero]
        exact ⟨hr.1, by omega, ha.1⟩
      · rw [if_neg hr] at ha; cases ha
    · rw [if_neg ha] at h; cases h
  by_cases h4 : g.1 = 4
  · rw [of_due h4] at h ⊢
    by_cases hd : dueS v w.1 g = true
    · rw [if_pos hd]
      unfold dueS at hd
      obtain ⟨t, ht, hb⟩ := List.any_eq_true.1 hd
      unfold dueB at hb
      rw [Bool.and_eq_true] at hb
      have b1 := of_decide_eq_true hb.1
      have b2 := of_decide_eq_true hb.2
      obtain ⟨⟨a1, a2⟩, a3⟩ := m.who hw
      have a3 := a3 g hg
      obtain ⟨n1, n2⟩ := num a1 a2 a3.1 a3.2 b1
      refine mem_evS.2 (.inr (.inr (.inr (.inl ⟨t, ht, ?_⟩))))
      unfold dueE
      rw [if_pos b2, n1, n2]
      exact List.mem_singleton.2 rfl
    · rw [if_neg hd] at h; cases h
  unfold ofS at h via ⊢
  rw [if_neg hk, if_neg h3, if_neg h4] at h via ⊢
  by_cases h5 : g.1 = 5
  · rw [if_pos h5] at h via ⊢; exact via 8 (.inr (.inr rfl)) rfl
  rw [if_neg h5] at h via ⊢
  by_cases h6 : g.1 = 6
  · rw [if_pos h6] at h via ⊢
    by_cases hm : g.2.2.1 ∈ v.2.2.2.2.2.1
    · rw [if_pos hm] at h; cases h
    · rw [if_neg hm] at h via ⊢; exact via 7 (.inr (.inl rfl)) rfl
  · rw [if_neg h6] at h; cases h
theorem gds_own : ∀ {ws : List Wait} {w : Wait}, lastS ws → w ∈ ws → gds w.1 ws = w.2.1
  | [], _, _, h => by cases h
  | x :: ws, w, hp, h => by
    obtain ⟨h1, h2⟩ := List.pairwise_cons.1 hp
    rw [gds]
    rcases List.mem_cons.1 h with e | e
    · subst e; rw [if_pos rfl]
    · rw [if_neg (by have := h1 w e; omega)]
      exact gds_own h2 e
theorem whS_own {v : View} {who : Int} : ∀ {l : List Gd} {g : Gd}, l.Pairwise (fun a b => a.2.2.2.2.1 < b.2.2.2.2.1) → g ∈ l → whS v who g.2.2.2.2.1 l = ofS v who g
  | [], _, _, h => by cases h
  | x :: l, g, hp, h => by
    obtain ⟨h1, h2⟩ := List.pairwise_cons.1 hp
    rw [whS]
    rcases List.mem_cons.1 h with e | e
    · subst e; rw [if_pos rfl]
    · rw [if_neg (by have := h1 g e; omega)]
      exact whS_own h2 e
theorem nosS_mem {v : View} {who n : Int} : ∀ {l : List Gd}, n ∈ nosS v who l ↔ ∃ g ∈ l, g.2.2.2.2.1 = n ∧ (ofS v who g).2.1 = true
  | [] => by simp [nosS]
  | x :: l => by
    rw [nosS]
    by_cases h : (ofS v who x).2.1 = true
    · rw [if_pos h, List.mem_cons, nosS_mem (l := l)]
      constructor
      · rintro (e | ⟨g, hg, y⟩)
        · exact ⟨x, List.mem_cons_self, e.symm, h⟩
        · exact ⟨g, List.mem_cons_of_mem _ hg, y⟩
      · rintro ⟨g, hg, y⟩
        rcases List.mem_cons.1 hg with e | e
        · subst e; exact .inl y.1.symm
        · exact .inr ⟨g, e, y⟩
    · rw [if_neg h, nosS_mem (l := l)]
      constructor
      · rintro ⟨g, hg, y⟩; exact ⟨g, List.mem_cons_of_mem _ hg, y⟩
      · rintro ⟨g, hg, y⟩
        rcases List.mem_cons.1 hg with e | e
        · subst e; exact absurd y.2 h
        · exact ⟨g, e, y⟩
theorem nos_own {v : View} {who : Int} {l : List Gd} {g : Gd} (hp : l.Pairwise (fun a b => a.2.2.2.2.1 < b.2.2.2.2.1)) (hg : g ∈ l) : g.2.2.2.2.1 ∈ nosS v who l ↔ (ofS v who g).2.1 = true := by
  rw [nosS_mem]
  constructor
  · rintro ⟨g', hg', e, h⟩
    have a := whS_own (v := v) (who := who) hp hg
    have b := whS_own (v := v) (who := who) hp hg'
    rw [e] at b
    rw [← a, b]; exact h
  · intro h; exact ⟨g, hg, rfl, h⟩
theorem anyloop {α R : Type} (l : List α) (d : α) (p : α → Bool) (J : Bool → Option R) (F : ((Bool × Int) → Option R) → Bool × Int → Option R) (hl : l.length ≤ 1000) (hF : ∀ k b j, F k (b, j) = cond (decide (j < (l.length : Int))) (chk (0 ≤ j ∧ j < (l.length : Int)) (cond b (k (true, IntKind.i64.wrap (j + 1))) (k (p (l.getD j.toNat d), IntKind.i64.wrap (j + 1))))) (J b)) : loop F (false, 0) = J (l.any p) := by
  refine (loop_up (fun x : Bool × Int => x.2) (l.length : Int) (fun x => 0 ≤ x.2) (fun x => J (x.1 || (l.drop x.2.toNat).any p)) (Int.le_refl 0) (by dsimp only; omega) ?_).trans (by simp)
  rintro k ⟨b, j⟩ h0 hk
  dsimp only at h0 hk ⊢
  rw [hF]
  by_cases hj : j < (l.length : Int)
  · rw [bif_pos hj, chk_at h0 hj, w64 (by omega) (by omega), drop_at (d := d) h0 hj, List.any_cons]
    cases b with
    | true => exact (hk hj (true, j + 1) (by dsimp only; omega) rfl).trans (by simp)
    | false => exact (hk hj (p (l.getD j.toNat d), j + 1) (by dsimp only; omega) rfl).trans (by simp)
  · rw [bif_neg hj, drop_end hj]; simp
def eqE (b a : Ev) : Bool := (decide (a.1 = b.1)) && ((decide (a.2.1 = b.2.1)) && ((decide (a.2.2.1 = b.2.2.1)) && ((decide (a.2.2.2.1 = b.2.2.2.1)) && true)))
theorem eqE_iff {a b : Ev} : eqE b a = true ↔ a = b := by
  unfold eqE
  obtain ⟨a1, a2, a3, a4, a5⟩ := a
  obtain ⟨b1, b2, b3, b4, b5⟩ := b
  simp only [Bool.and_eq_true, decide_eq_true_eq, Prod.mk.injEq]
  try exact ⟨fun h => ⟨h.1, h.2.1, h.2.2.1, h.2.2.2.1, rfl⟩, fun h => ⟨h.1, h.2.1, h.2.2.1, h.2.2.2.1, rfl⟩⟩
theorem any_eqE {l : List Ev} {e : Ev} : l.any (eqE e) = true ↔ e ∈ l := by
  rw [List.any_eq_true]
  constructor
  · rintro ⟨x, hx, h⟩; rw [← eqE_iff.1 h]; exact hx
  · intro h; exact ⟨e, h, eqE_iff.2 rfl⟩
theorem beq_of {a b : Bool} (h : a = true ↔ b = true) : (!(a == b)) = false := by cases a <;> cases b <;> simp_all
theorem evS_len {v : View} (h : Good v) : (evS v).length ≤ 1000 := by
  have hil : (BS.inT v.2.2.1).length = v.2.2.1.length := BS.inT_len _
  have := BS.rdy_len (l := BS.inT v.2.2.1) (j := 0)
  have := moves_len v.2.1 0
  have := alls_len (ofS v) 5 v.2.2.2.1 h.g
  have := alls_len (ofS v) 7 v.2.2.2.1 h.g
  have := alls_len (ofS v) 8 v.2.2.2.1 h.g
  have := dues_len v.1 v.2.2.2.2.1
  have := h.w; have := h.t; have := h.bars; have := h.tab.len
  unfold evS
  dsimp only
  simp only [List.length_append, List.length_map]
  omega
theorem J4_eq (E known : List Ev) (hE : E.length ≤ 1000) (hn : known.length ≤ 1000) (h : ∀ e ∈ E, e ∈ known) : L29_ReadyBoth_J4 E known = some true := by
  unfold L29_ReadyBoth_J4
  refine loop_q (fun x : Int × Int => x.2) (E.length : Int) (fun x => 0 ≤ x.2 ∧ x.1 = (E.length : Int)) (fun o => o = some true) ⟨Int.le_refl 0, rfl⟩ (by dsimp only; omega) ?_
  rintro k ⟨n, j⟩ ⟨h0, h1⟩ hk
  dsimp only at h0 h1 hk
  subst h1
  unfold L29_ReadyBoth_L2
  dsimp only
  by_cases hj : j < (E.length : Int)
  · have he := h _ (getD_mem (d := (0, 0, 0, 0, ())) h0 hj)
    rw [bif_pos hj, chk_at h0 hj]
    generalize E.getD j.toNat (0, 0, 0, 0, ()) = e at he ⊢
    refine (anyloop known (0, 0, 0, 0, ()) (eqE e) (L29_ReadyBoth_J3 k ((E.length : Int), j)) _ hn ?_).trans ?_
    · intro k2 b i
      unfold L29_ReadyBoth_L1
      dsimp only
      rw [letv_eq]; rfl
    · rw [any_eqE.2 he]
      unfold L29_ReadyBoth_J3 L29_ReadyBoth_J2
      dsimp only
      rw [w64 (by omega) (by omega)]
      exact hk hj _ ⟨by dsimp only; omega, rfl⟩ rfl
  · rw [bif_neg hj]
    unfold L29_ReadyBoth_J1
    rw [alive29]; rfl
abbrev Y4 := (List Gd) × Int × Int × Int × (List Gd) × (List Ev)
theorem guards_ok {v : View} (m : Made v) {w : Wait} (hw : w ∈ v.2.2.2.1) (k3 : (Int × Int × (List Ev)) → Option Bool) (n i : Int) (hi0 : 0 ≤ i) (hi : i ≤ 100) (known : List Ev) (hn : known.length ≤ 500)
    (hk3 : ∀ known' : List Ev, known'.length ≤ known.length + 8 → (∀ e ∈ known, e ∈ known') → (∀ g ∈ w.2.1, (ofS v w.1 g).2.1 = true → (ofS v w.1 g).1 ∈ known') → k3 (n, i + 1, known') = some true) :
    loop (L29_ReadyBoth_L5 (A_of v) (evS v) (nosS v w.1 w.2.1) k3 (n, i, known)) (w.2.1, (w.2.1.length : Int), 0, w.1, w.2.1, known) = some true := by
  have good := good_of m.sm
  have hgl := good.g w hw
  have hel := evS_len good
  have hnl := nosS_len v w.1 w.2.1
  have hno := m.nos w hw
  refine loop_q (fun x : Y4 => x.2.2.1) (w.2.1.length : Int) (fun x => ∃ j kn, x = (w.2.1, (w.2.1.length : Int), j, w.1, w.2.1, kn) ∧ 0 ≤ j ∧ j ≤ (w.2.1.length : Int) ∧ (kn.length : Int) ≤ known.length + j ∧ (∀ e ∈ known, e ∈ kn) ∧ ∀ g ∈ w.2.1.take j.toNat, (ofS v w.1 g).2.1 = true → (ofS v w.1 g).1 ∈ kn) (fun o => o = some true) ⟨0, known, rfl, Int.le_refl 0, by omega, by omega, fun e h => h, fun g h => by simp at h⟩ (by dsimp only; omega) ?_
  rintro k _ ⟨j, kn, rfl, h0, h1, h2, h3, h4⟩ hk
  unfold L29_ReadyBoth_L5
  dsimp only
  by_cases hj : j < (w.2.1.length : Int)
  · have hg := getD_mem (d := (0, 0, 0, 0, 0, ())) h0 hj
    have ht := take_at (d := (0, 0, 0, 0, 0, ())) h0 hj
    rw [bif_pos hj, chk_at h0 hj]
    generalize w.2.1.getD j.toNat (0, 0, 0, 0, 0, ()) = g at hg ht ⊢
    rw [which_A good, gds_own m.up hw, whS_own hno hg]
    refine bind_t ?_
    have f1 : (ofS v w.1 g).2.1 = true ↔ (evS v).any (eqE (ofS v w.1 g).1) = true := by
      rw [any_eqE]
      refine ⟨of_ev m hw hg, fun h => ?_⟩
      cases ho : (ofS v w.1 g).2.1 with
      | true => rfl
      | false =>
        rw [open_kind.2 ho] at h
        obtain ⟨w', _, g', _, a, b⟩ := ev_of m h
        have := open_kind.1 a
        rw [b] at this
        exact absurd this (by decide)
    have f2 : (ofS v w.1 g).2.1 = true ↔ (nosS v w.1 w.2.1).any (fun x => decide (x = g.2.2.2.2.1)) = true := by
      rw [← nos_own hno hg, List.any_eq_true]
      constructor
      · intro h; exact ⟨_, h, decide_eq_true rfl⟩
      · rintro ⟨x, hx, h⟩; rw [← of_decide_eq_true h]; exact hx
    have f3 : (ofS v w.1 g).2.1 = true ↔ (!((decide ((ofS v w.1 g).1.1 = 0)) && ((decide ((ofS v w.1 g).1.2.1 = 0)) && ((decide ((ofS v w.1 g).1.2.2.1 = 0)) && ((decide ((ofS v w.1 g).1.2.2.2.1 = 0)) && true))))) = true := by
      constructor
      · intro h
        have := open_kind.1 h
        rw [decide_eq_false (by omega)]; rfl
      · intro h
        cases ho : (ofS v w.1 g).2.1 with
        | true => rfl
        | false => rw [open_kind.2 ho] at h; exact absurd h (by decide)
    refine (anyloop (evS v) (0, 0, 0, 0, ()) (eqE (ofS v w.1 g).1) (fun b => L29_ReadyBoth_J10 (nosS v w.1 w.2.1) (ofS v w.1 g) (w.2.1, (w.2.1.length : Int), j, w.1, w.2.1, kn) k b g.1 g.2.1 g.2.2.1 g.2.2.2.1 g.2.2.2.2.1) _ hel ?_).trans ?_
    · intro k2 b i'
      unfold L29_ReadyBoth_L4
      dsimp only
      rw [letv_eq]; rfl
    unfold L29_ReadyBoth_J10
    refine (anyloop (nosS v w.1 w.2.1) 0 (fun x => decide (x = g.2.2.2.2.1)) (L29_ReadyBoth_J9 (ofS v w.1 g) ((evS v).any (eqE (ofS v w.1 g).1)) (w.2.1, (w.2.1.length : Int), j, w.1, w.2.1, kn) k) _ (by omega) ?_).trans ?_
    · intro k2 b i'
      unfold L29_ReadyBoth_L3
      rfl
    unfold L29_ReadyBoth_J9
    rw [beq_of f1, beq_of f2, beq_of f3]
    refine (cond_f _ _).trans ((cond_f _ _).trans ((cond_f _ _).trans ?_))
    by_cases ho : (ofS v w.1 g).2.1 = true
    · rw [ho]
      refine (cond_t _ _).trans ?_
      unfold L29_ReadyBoth_J7
      dsimp only
      rw [chk_pos (by simp only [List.length_cons, List.length_nil]; omega), w64 (by omega) (by omega)]
      refine hk hj _ ⟨j + 1, _, rfl, by omega, by omega, by simp only [List.length_append, List.length_cons, List.length_nil]; omega, fun e he => List.mem_append_left _ (h3 e he), fun g' hg' hop => ?_⟩ rfl
      rw [ht] at hg'
      rcases List.mem_append.1 hg' with a | a
      · exact List.mem_append_left _ (h4 g' a hop)
      · rw [List.mem_singleton.1 a]; simp
    · rw [Bool.eq_false_iff.2 ho]
      refine (cond_f _ _).trans ?_
      unfold L29_ReadyBoth_J8
      dsimp only
      rw [w64 (by omega) (by omega)]
      refine hk hj _ ⟨j + 1, _, rfl, by omega, by omega, by omega, h3, fun g' hg' hop => ?_⟩ rfl
      rw [ht] at hg'
      rcases List.mem_append.1 hg' with a | a
      · exact h4 g' a hop
      · rw [List.mem_singleton.1 a] at hop; exact absurd hop ho
  · rw [bif_neg hj]
    unfold L29_ReadyBoth_J6 L29_ReadyBoth_J5
    dsimp only
    rw [w64 (by omega) (by omega)]
    rw [take_end hj] at h4
    exact hk3 kn (by omega) h3 h4
theorem both_main (a : World) (hp : a.2.2.2.2.1.length ≤ 140737488355328) : L29_ReadyBoth a = some true := by
  obtain ⟨r, er, hr⟩ := made_ex a hp
  unfold L29_ReadyBoth
  rw [er]
  refine bind_t ?_
  cases hb : r.2.1 with
  | false =>
    refine (cond_ff _ _).trans ?_
    rw [alive29]; rfl
  | true =>
    have m := hr hb
    have good := good_of m.sm
    have hel := evS_len good
    have hw := good.w
    refine (cond_tt _ _).trans ?_
    generalize r.1 = v at m good hel hw
    rw [To_eq good]
    refine bind_t ?_
    rw [events_eq good]
    refine bind_t ?_
    show loop (L29_ReadyBoth_L6 (A_of v) (evS v)) ((v.2.2.2.1.length : Int), 0, []) = some true
    refine loop_q (fun x : Int × Int × List Ev => x.2.1) (v.2.2.2.1.length : Int) (fun x => ∃ i kn, x = ((v.2.2.2.1.length : Int), i, kn) ∧ 0 ≤ i ∧ i ≤ 16 ∧ (kn.length : Int) ≤ 8 * i ∧ ∀ w ∈ v.2.2.2.1.take i.toNat, ∀ g ∈ w.2.1, (ofS v w.1 g).2.1 = true → (ofS v w.1 g).1 ∈ kn) (fun o => o = some true) ⟨0, [], rfl, Int.le_refl 0, by decide, Int.le_refl 0, fun w h => by simp at h⟩ (by dsimp only; omega) ?_
    rintro k _ ⟨i, kn, rfl, h0, h16, h1, h2⟩ hk
    unfold L29_ReadyBoth_L6
    by_cases hi : i < (v.2.2.2.1.length : Int)
    · have hwm := getD_mem (d := (0, [], ())) h0 hi
      have ht := take_at (d := (0, [], ())) h0 hi
      refine (bif_pos (show i < (v.2.2.2.1.length : Int) from hi)).trans ((chk_pos (show 0 ≤ i ∧ i < ((A_of v).2.2.2.1.length : Int) from ⟨h0, hi⟩)).trans ?_)
      have hk := fun kn' h => hk hi ((v.2.2.2.1.length : Int), i + 1, kn') ⟨i + 1, kn', rfl, by omega, by omega, h⟩ rfl
      show Option.bind (ready_Guards (A_of v) (v.2.2.2.1.getD i.toNat (0, [], ())).1) (fun r6 => loop (L29_ReadyBoth_L5 (A_of v) (evS v) r6 k ((v.2.2.2.1.length : Int), i, kn)) ((v.2.2.2.1.getD i.toNat (0, [], ())).2.1, ((v.2.2.2.1.getD i.toNat (0, [], ())).2.1.length : Int), 0, (v.2.2.2.1.getD i.toNat (0, [], ())).1, (v.2.2.2.1.getD i.toNat (0, [], ())).2.1, kn)) = some true
      generalize v.2.2.2.1.getD i.toNat (0, [], ()) = w at hwm ht ⊢
      rw [nos_A good, gds_own m.up hwm]
      refine bind_t ?_
      refine guards_ok m hwm k _ i h0 (by omega) kn (by omega) fun kn' a b c => hk kn' ⟨by omega, fun w' hw' g hg ho => ?_⟩
      rw [ht] at hw'
      rcases List.mem_append.1 hw' with d | d
      · exact b _ (h2 w' d g hg ho)
      · rw [List.mem_singleton.1 d] at hg ho ⊢; exact c g hg ho
    · refine (bif_neg (show ¬ i < (v.2.2.2.1.length : Int) from hi)).trans ?_
      refine J4_eq (evS v) kn hel (by omega) fun e he => ?_
      obtain ⟨w, hwm, g, hg, a, rfl⟩ := ev_of m he
      rw [take_end hi] at h2
      exact h2 w hwm g hg a
end Rd
theorem law_L29_ReadyBoth : ∀ x : ((.pair (.pair (.sl (.pair (.int .i64) (.pair (.int .i64) (.pair (.int .i64) (.pair (.int .i64) .unit))))) (.pair (.sl (.pair .bool (.pair (.int .i64) .unit))) (.pair (.sl (.int .u8)) (.pair (.sl (.pair (.int .i64) (.pair (.sl (.pair (.int .i64) (.pair (.int .i64) (.pair (.int .i64) (.pair (.int .i64) (.pair (.int .i64) .unit)))))) .unit))) (.pair (.sl (.int .u8)) (.pair (.int .i64) .unit)))))) .unit) : Ty).den, wfD (.pair (.pair (.sl (.pair (.int .i64) (.pair (.int .i64) (.pair (.int .i64) (.pair (.int .i64) .unit))))) (.pair (.sl (.pair .bool (.pair (.int .i64) .unit))) (.pair (.sl (.int .u8)) (.pair (.sl (.pair (.int .i64) (.pair (.sl (.pair (.int .i64) (.pair (.int .i64) (.pair (.int .i64) (.pair (.int .i64) (.pair (.int .i64) .unit)))))) .unit))) (.pair (.sl (.int .u8)) (.pair (.int .i64) .unit)))))) .unit) x → L29_ReadyBoth x.1 = some true := fun x hw => Rd.both_main x.1 (wfl hw.1.2.2.2.2.1).1
end Go.Proofs.YtbkccpddkpclaaaGreatDoorV
