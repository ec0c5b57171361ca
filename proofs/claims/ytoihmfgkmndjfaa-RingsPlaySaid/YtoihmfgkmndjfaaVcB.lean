/- What the VC evaluator's states say of a frame and a world, and that it stays so while other memory changes. -/
import Derived.Test.YtoihmfgkmndjfaaVcA
import Derived.Below
import Derived.Deep.MidRow
import Derived.WalkKit
import Derived.Lib.UnsafeStr
import Derived.WalkSpells
import Derived.WalkLawsBesides
/- What the VC evaluator's states say of a frame and a world, and that it stays so while other memory changes. -/
set_option linter.unusedVariables false
namespace Go.Proofs.YtoihmfgkmndjfaaV
open Go.RowKit

theorem lk_cons (k : Nat) (v : AV) (t : List (Nat × AV)) (d : Nat) : lk ((k, v) :: t) d = if k = d then v else lk t d := by
  show cond (Nat.beq k d) v (lk t d) = _
  by_cases h : k = d
  · subst h; rw [if_pos rfl, Nat.beq_refl]; rfl
  · rw [if_neg h]
    have : Nat.beq k d = false := by
      cases e : Nat.beq k d with
      | false => rfl
      | true => exact absurd (Nat.eq_of_beq_eq_true e) h
    rw [this]; rfl
theorem lkb_cons (k : Nat) (v : Blk) (t : List (Nat × Blk)) (d : Nat) : lkb ((k, v) :: t) d = if k = d then v else lkb t d := by
  show cond (Nat.beq k d) v (lkb t d) = _
  by_cases h : k = d
  · subst h; rw [if_pos rfl, Nat.beq_refl]; rfl
  · rw [if_neg h]
    have : Nat.beq k d = false := by
      cases e : Nat.beq k d with
      | false => rfl
      | true => exact absurd (Nat.eq_of_beq_eq_true e) h
    rw [this]; rfl

/-! ### Typed data in cells -/
def EncL {α : Type} (E : α → List Value → Prop) : List α → List Value → Prop
  | [], vs => vs = []
  | x :: xs, vs => ∃ u v, vs = u ++ v ∧ E x u ∧ EncL E xs v

/-- A row of data in memory, as a slice reads it. -/
def Sl {α : Type} (ok : Nat → Prop) (w : World) (size : Nat) (E : α → List Value → Prop) (xs : List α) (A : Option Addr) (c : Nat) : Prop :=
  xs.length ≤ c ∧ c ≤ maxLen ∧ xs.length ≤ 140737488355328 ∧ (xs = [] → A = none → c = 0) ∧
  (xs ≠ [] → ∃ b o, A = some ⟨b, o, none⟩ ∧ ok b ∧ ∀ i (h : i < xs.length), ∃ cs : List Value, cs.length = size ∧ (∀ j, j < size → w.cell? ⟨b, o + i * size + j, none⟩ = cs[j]?) ∧ E xs[i] cs)

def Enc (ok : Nat → Prop) (w : World) : (e : Ty) → e.den → List Value → Prop
  | .int k, n, vs => vs = [.int k n] ∧ (Lit.int k n).wf = true
  | .bool, b, vs => vs = [.bool b]
  | .str, s, vs => vs = [.string s] ∧ s.size ≤ maxLen
  | .unit, _, vs => vs = []
  | .pair a b, x, vs => ∃ u v, vs = u ++ v ∧ Enc ok w a x.1 u ∧ Enc ok w b x.2 v
  | .sl e, xs, vs => ∃ A c, vs = [.slice A xs.length c] ∧ Sl ok w e.size (Enc ok w e) xs A c
  | .arr n e, xs, vs => xs.length = n ∧ EncL (Enc ok w e) xs vs
  | .opq _, _, _ => False

theorem EncL_length {α : Type} {E : α → List Value → Prop} {m : Nat} (h : ∀ x vs, E x vs → vs.length = m) : ∀ (xs : List α) (vs : List Value), EncL E xs vs → vs.length = xs.length * m
  | [], vs, e => by simp only [EncL] at e; subst e; simp
  | x :: xs, vs, e => by
    obtain ⟨u, v, rfl, hu, hv⟩ := e
    rw [List.length_append, h _ _ hu, EncL_length h xs v hv, List.length_cons, Nat.add_mul]; omega

theorem Enc_length {ok : Nat → Prop} {w : World} : ∀ (e : Ty) (x : e.den) (vs : List Value), Enc ok w e x vs → vs.length = e.size
  | .int k, n, vs, h => by obtain ⟨rfl, _⟩ := h; rfl
  | .bool, b, vs, h => by have h : vs = _ := h; subst h; rfl
  | .str, s, vs, h => by obtain ⟨rfl, _⟩ := h; rfl
  | .unit, _, vs, h => by have h : vs = [] := h; subst h; rfl
  | .pair a b, x, vs, h => by
    obtain ⟨u, v, rfl, hu, hv⟩ := h
    rw [List.length_append, Enc_length a _ _ hu, Enc_length b _ _ hv]; rfl
  | .sl e, xs, vs, h => by obtain ⟨A, c, rfl, _⟩ := h; rfl
  | .arr n e, xs, vs, h => by
    obtain ⟨hn, hv⟩ := h
    have hE := EncL_length (E := Enc ok w e) (m := e.size) (fun x vs h => Enc_length e x vs h) xs vs hv
    rw [hE, hn]; rfl
  | .opq _, _, _, h => h.elim

theorem EncL_mono {α : Type} {E E' : α → List Value → Prop} (h : ∀ x vs, E x vs → E' x vs) : ∀ (xs : List α) (vs : List Value), EncL E xs vs → EncL E' xs vs
  | [], vs, e => e
  | x :: xs, vs, e => by
    obtain ⟨u, v, rfl, hu, hv⟩ := e
    exact ⟨u, v, rfl, h _ _ hu, EncL_mono h xs v hv⟩

theorem cell_same {w w' : World} {b : Nat} (h : w'.heap[b]? = w.heap[b]?) (o : Nat) (s : Option Nat) : w'.cell? ⟨b, o, s⟩ = w.cell? ⟨b, o, s⟩ := by
  simp only [World.cell?]; rw [h]

/-- The block's cells read alike. -/
def SameC (w w' : World) (b : Nat) : Prop := (∀ cs T z, w.heap[b]? = some (.cells cs T z) → w'.heap[b]? = some (.cells cs T z)) ∧ ∀ o s, w'.cell? ⟨b, o, s⟩ = w.cell? ⟨b, o, s⟩
theorem SameC.of {w w' : World} {b : Nat} (h : w'.heap[b]? = w.heap[b]?) : SameC w w' b := ⟨fun cs T z e => by rw [h]; exact e, fun o s => cell_same h o s⟩
theorem SameC.refl (w : World) (b : Nat) : SameC w w b := ⟨fun _ _ _ h => h, fun _ _ => rfl⟩
theorem SameC.trans {w w' w'' : World} {b : Nat} (h : SameC w w' b) (h' : SameC w' w'' b) : SameC w w'' b := ⟨fun cs T z e => h'.1 cs T z (h.1 cs T z e), fun o s => (h'.2 o s).trans (h.2 o s)⟩
theorem Sl_mono {α : Type} {ok ok' : Nat → Prop} {w w' : World} {size : Nat} {E E' : α → List Value → Prop} {xs : List α} {A : Option Addr} {c : Nat}
    (hok : ∀ b, ok b → ok' b ∧ SameC w w' b) (hE : ∀ x vs, E x vs → E' x vs) (h : Sl ok w size E xs A c) : Sl ok' w' size E' xs A c := by
  obtain ⟨h1, h2, h3, h4, h5⟩ := h
  refine ⟨h1, h2, h3, h4, fun hne => ?_⟩
  obtain ⟨b, o, hA, hb, hc⟩ := h5 hne
  refine ⟨b, o, hA, (hok b hb).1, fun i hi => ?_⟩
  obtain ⟨cs, hl, hr, he⟩ := hc i hi
  exact ⟨cs, hl, fun j hj => by rw [(hok b hb).2.2]; exact hr j hj, hE _ _ he⟩

theorem Enc_mono {ok ok' : Nat → Prop} {w w' : World} (hok : ∀ b, ok b → ok' b ∧ SameC w w' b) : ∀ (e : Ty) (x : e.den) (vs : List Value), Enc ok w e x vs → Enc ok' w' e x vs
  | .int k, n, vs, h => h
  | .bool, b, vs, h => h
  | .str, s, vs, h => h
  | .unit, _, vs, h => h
  | .pair a b, x, vs, h => by
    obtain ⟨u, v, rfl, hu, hv⟩ := h
    exact ⟨u, v, rfl, Enc_mono hok a _ _ hu, Enc_mono hok b _ _ hv⟩
  | .sl e, xs, vs, h => by
    obtain ⟨A, c, rfl, hs⟩ := h
    exact ⟨A, c, rfl, Sl_mono hok (fun x vs h => Enc_mono hok e x vs h) hs⟩
  | .arr n e, xs, vs, h => ⟨h.1, EncL_mono (fun x vs h => Enc_mono hok e x vs h) xs vs h.2⟩
  | .opq _, _, _, h => h

/-- The package-level variables lie there, and hold what's told. -/
def GlOk (ok : Nat → Prop) (w : World) : Prop := ∀ g e x, lkG GL g = some ⟨e, x⟩ → ok g ∧ ∃ cs : List Value, cs.length = e.size ∧ (∀ j, j < e.size → w.cell? ⟨g, 0 + j, none⟩ = cs[j]?) ∧ Enc ok w e x cs
theorem GlOk.mono {ok ok' : Nat → Prop} {w w' : World} (h : GlOk ok w) (hok : ∀ b, ok b → ok' b ∧ SameC w w' b) : GlOk ok' w' := by
  intro g e x hg
  obtain ⟨h1, cs, h2, h3, h4⟩ := h g e x hg
  exact ⟨(hok g h1).1, cs, h2, fun j hj => by rw [(hok g h1).2.2]; exact h3 j hj, Enc_mono hok e x cs h4⟩

/-- A struct's type is a chain of fields with an end. -/
def chain : Ty → Prop
  | .unit | .pair _ _ => True
  | _ => False
def WfT : Ty → Prop
  | .pair a b => WfT a ∧ chain b ∧ WfT b
  | .sl e => WfT e
  | .arr _ e => WfT e
  | _ => True

/-! ### Paths in types -/
def fldT : Ty → Nat → Option (Nat × Ty)
  | .pair a b, 0 => some (0, a)
  | .pair a b, i + 1 => match fldT b i with
    | some (o, t) => some (a.size + o, t)
    | none => none
  | _, _ => none
def pathT : Ty → List Step → Option (Nat × Ty)
  | t, [] => some (0, t)
  | t, .fld i :: p => match fldT t i with
    | some (o, u) => match pathT u p with
      | some (o', v) => some (o + o', v)
      | none => none
    | none => none
  | .arr n e, .at i :: p => if 0 ≤ i ∧ i < (n : Int) then match pathT e p with
      | some (o', v) => some (i.toNat * e.size + o', v)
      | none => none
    else none
  | _, .at _ :: _ => none
def pathB : Blk → List Step → Option (Nat × Ty)
  | .var e _ _, p => pathT e p
  | .row _ e xs _, .at i :: p => if 0 ≤ i ∧ i < (xs.length : Int) then match pathT e p with
      | some (o', v) => some (i.toNat * e.size + o', v)
      | none => none
    else none
  | _, _ => none

/-! ### Values -/
structure Cx where
  ρ : Nat → Nat
  ok : Nat → Prop
  w : World
  hp : List (Nat × Blk)

def aggAV : AV → Bool
  | .agg _ | .arr _ _ _ => true
  | _ => false
def vAgg : Value → Bool
  | .agg _ => true
  | _ => false

/-- How big a block's row of cells is. -/
def cellsN (w : World) (b : Nat) : Nat :=
  match w.heap[b]? with
  | some (.cells cs _ _) => cs.size
  | _ => 0

def simpleV : Value → Prop
  | .slice none 0 0 | .pointer none | .nilFunc | .nilIface => True
  | _ => False

def OwnV (c : Cx) (id : Nat) (vs : List Value) : Prop :=
  match lkb c.hp id with
  | .row _ e xs _ => ∃ A n, vs = [.slice A xs.length n] ∧ n ≤ maxLen ∧ xs.length ≤ 140737488355328 ∧ (xs = [] → n = 0) ∧ (xs ≠ [] → A = some ⟨c.ρ id, 0, none⟩ ∧ xs.length ≤ n ∧ cellsN c.w (c.ρ id) = n * e.size)
  | _ => False

def VwV (c : Cx) (id : Nat) (l h : Int) (vs : List Value) : Prop :=
  match lkb c.hp id with
  | .row _ e xs _ => (0 ≤ l ∧ l ≤ h ∧ h ≤ (xs.length : Int)) ∧ ∃ A n, vs = [.slice A (h - l).toNat n] ∧ (h - l).toNat ≤ n ∧ n ≤ maxLen ∧ (h - l).toNat ≤ 140737488355328 ∧ ((h - l).toNat = 0 → A = none → n = 0) ∧ (0 < (h - l).toNat → A = some ⟨c.ρ id, l.toNat * e.size, none⟩)
  | _ => False
mutual
def CR (c : Cx) : AV → List Value → Prop
  | .int k n, vs => vs = [.int k n] ∧ (Lit.int k n).wf = true
  | .bool b, vs => vs = [.bool b]
  | .str s, vs => vs = [.string s] ∧ s.size ≤ maxLen
  | .ro e xs, vs => Enc c.ok c.w (.sl e) xs vs
  | .arr n e xs, vs => Enc c.ok c.w (.arr n e) xs vs
  | .agg l, vs => CRs c l vs
  | .own id, vs => OwnV c id vs
  | .ptr id p, vs => ∃ off t, pathB (lkb c.hp id) p = some (off, t) ∧ vs = [.pointer (some ⟨c.ρ id, off, none⟩)]
  | .vsl id n, vs => (∃ v f, lkb c.hp id = .var (opqs n) v f) ∧ n ≤ 65536 ∧ vs = [.slice (some ⟨c.ρ id, 0, none⟩) n n]
  | .vw id l h, vs => VwV c id l h vs
  | .rop e x, vs => ∃ b o, vs = [.pointer (some ⟨b, o, none⟩)] ∧ c.ok b ∧ ∃ cs : List Value, cs.length = e.size ∧ (∀ j, j < e.size → c.w.cell? ⟨b, o + j, none⟩ = cs[j]?) ∧ Enc c.ok c.w e x cs
  | .raw b w1, vs => vs = [.pointer (some ⟨b, 0, none⟩)] ∧ c.ok b ∧ SameC w1 c.w b
  | .con v, vs => vs = [v] ∧ simpleV v
  | .fn f a d, vs => ∃ a' d', vs = [.func f a' d'] ∧ CVs c a a'.toList ∧ CVs c d d'.toList
  | .tup _, _ => False
  | .und, _ => False
  | .dead, vs => ∃ x, vs = [x]
def CRs (c : Cx) : List AV → List Value → Prop
  | [], vs => vs = []
  | v :: l, vs => ∃ a b, vs = a ++ b ∧ CR c v a ∧ CRs c l b
def CVs (c : Cx) : List AV → List Value → Prop
  | [], xs => xs = []
  | v :: l, xs => ∃ x ys, xs = x :: ys ∧ CR c v x.cells.toList ∧ aggAV v = vAgg x ∧ CVs c l ys
end

def VR (c : Cx) (v : AV) (x : Value) : Prop :=
  match v with
  | .dead => True
  | .und => x = undef
  | .tup l => ∃ xs, x = .tuple xs ∧ CVs c l xs.toList
  | v => CR c v x.cells.toList ∧ aggAV v = vAgg x

/-! ### What a change of memory leaves -/
/-- c' after c; refs to the blocks in K are gone. -/
structure Ext (K : Nat → Prop) (c c' : Cx) : Prop where
  ok : ∀ b, c.ok b → c'.ok b ∧ SameC c.w c'.w b
  var : ∀ id e v f, ¬ K id → lkb c.hp id = .var e v f → c'.ρ id = c.ρ id ∧ ∃ v' f', lkb c'.hp id = .var e v' f'
  row : ∀ id te e xs f, ¬ K id → lkb c.hp id = .row te e xs f → ∃ ys : List e.den, ∃ f', lkb c'.hp id = .row te e ys f' ∧ ys.length = xs.length ∧ (xs ≠ [] → c'.ρ id = c.ρ id ∧ cellsN c'.w (c.ρ id) = cellsN c.w (c.ρ id))

theorem Ext.path {K : Nat → Prop} {c c' : Cx} (h : Ext K c c') {id : Nat} (hk : ¬ K id) {p : List Step} {r : Nat × Ty} (hp : pathB (lkb c.hp id) p = some r) :
    c'.ρ id = c.ρ id ∧ pathB (lkb c'.hp id) p = some r := by
  cases hb : lkb c.hp id with
  | none => rw [hb] at hp; simp [pathB] at hp
  | var e v f =>
    obtain ⟨h1, v', f', h2⟩ := h.var id e v f hk hb
    rw [hb] at hp; rw [h2]; exact ⟨h1, hp⟩
  | row te e xs f =>
    obtain ⟨ys, f', h2, h3, h4⟩ := h.row id te e xs f hk hb
    rw [hb] at hp; rw [h2]
    cases p with
    | nil => simp [pathB] at hp
    | cons s p =>
      cases s with
      | fld i => simp [pathB] at hp
      | «at» i =>
        simp only [pathB] at hp ⊢
        rw [h3]
        refine ⟨?_, hp⟩
        by_cases hr : 0 ≤ i ∧ i < (xs.length : Int)
        · exact (h4 (fun e => by subst e; simp at hr; omega)).1
        · rw [if_neg hr] at hp; simp at hp

/-! Free of references to the blocks in K. -/
mutual
def Free (K : Nat → Prop) : AV → Prop
  | .own id => ¬ K id
  | .ptr id _ => ¬ K id
  | .vsl id _ => ¬ K id
  | .vw id _ _ => ¬ K id
  | .agg l => Frees K l
  | .tup l => Frees K l
  | .fn _ a d => Frees K a ∧ Frees K d
  | _ => True
def Frees (K : Nat → Prop) : List AV → Prop
  | [] => True
  | v :: l => Free K v ∧ Frees K l
end

mutual
theorem CR_ext {K : Nat → Prop} {c c' : Cx} (h : Ext K c c') : ∀ (v : AV) (vs : List Value), Free K v → CR c v vs → CR c' v vs
  | .int k n, vs, _, e => e
  | .bool b, vs, _, e => e
  | .str s, vs, _, e => e
  | .ro t xs, vs, _, e => Enc_mono h.ok (.sl t) xs vs e
  | .arr n t xs, vs, _, e => Enc_mono h.ok (.arr n t) xs vs e
  | .agg l, vs, hf, e => CRs_ext h l vs hf e
  | .own id, vs, hf, e => by
    have hk : ¬ K id := hf
    have e : OwnV c id vs := e
    show OwnV c' id vs
    unfold OwnV at e ⊢
    cases hb : lkb c.hp id with
    | none => rw [hb] at e; exact e.elim
    | var t v f => rw [hb] at e; exact e.elim
    | row te t xs f =>
      rw [hb] at e
      obtain ⟨A, n, e1, e2, e2', e3, e4⟩ := e
      obtain ⟨ys, f', h2, h3, h4⟩ := h.row id te t xs f hk hb
      rw [h2]
      refine ⟨A, n, by rw [h3]; exact e1, e2, by rw [h3]; exact e2', fun hy => e3 (List.eq_nil_of_length_eq_zero (by rw [← h3, hy]; rfl)), fun hy => ?_⟩
      have hx : xs ≠ [] := fun hx => hy (List.eq_nil_of_length_eq_zero (by rw [h3, hx]; rfl))
      obtain ⟨g1, g2, g3⟩ := e4 hx
      obtain ⟨g4, g5⟩ := h4 hx
      exact ⟨by rw [g4]; exact g1, by rw [h3]; exact g2, by rw [g4, g5]; exact g3⟩
  | .ptr id p, vs, hf, e => by
    obtain ⟨off, t, e1, e2⟩ := e
    obtain ⟨g1, g2⟩ := h.path hf e1
    exact ⟨off, t, g2, by rw [g1]; exact e2⟩
  | .vsl id n, vs, hf, e => by
    obtain ⟨⟨v, f, e1⟩, e3, e2⟩ := e
    obtain ⟨g1, v', f', g2⟩ := h.var id _ v f hf e1
    exact ⟨⟨v', f', g2⟩, e3, by rw [g1]; exact e2⟩
  | .vw id l hi, vs, hf, e => by
    have hk : ¬ K id := hf
    have e : VwV c id l hi vs := e
    show VwV c' id l hi vs
    unfold VwV at e ⊢
    cases hb : lkb c.hp id with
    | none => rw [hb] at e; exact e.elim
    | var t v f => rw [hb] at e; exact e.elim
    | row te t xs f =>
      rw [hb] at e
      obtain ⟨e0, A, n, e1, e2, e3, e4, e5, e6⟩ := e
      obtain ⟨ys, f', h2, h3, h4⟩ := h.row id te t xs f hk hb
      rw [h2]
      refine ⟨by rw [h3]; exact e0, A, n, e1, e2, e3, e4, e5, fun hp => ?_⟩
      have hx : xs ≠ [] := fun hx => by subst hx; simp at e0; omega
      rw [(h4 hx).1]; exact e6 hp
  | .rop t x, vs, _, e => by
    obtain ⟨b, o, e1, e2, cs, e3, e4, e5⟩ := e
    exact ⟨b, o, e1, (h.ok b e2).1, cs, e3, fun j hj => by rw [(h.ok b e2).2.2]; exact e4 j hj, Enc_mono h.ok t x cs e5⟩
  | .raw b w1, vs, _, e => ⟨e.1, (h.ok b e.2.1).1, e.2.2.trans (h.ok b e.2.1).2⟩
  | .con v, vs, _, e => e
  | .fn f a d, vs, hf, e => by
    obtain ⟨a', d', e1, e2, e3⟩ := e
    exact ⟨a', d', e1, CVs_ext h a _ hf.1 e2, CVs_ext h d _ hf.2 e3⟩
  | .tup _, _, _, e => e
  | .und, _, _, e => e
  | .dead, vs, _, e => e
theorem CRs_ext {K : Nat → Prop} {c c' : Cx} (h : Ext K c c') : ∀ (l : List AV) (vs : List Value), Frees K l → CRs c l vs → CRs c' l vs
  | [], vs, _, e => e
  | v :: l, vs, hf, e => by
    obtain ⟨a, b, e1, e2, e3⟩ := e
    exact ⟨a, b, e1, CR_ext h v a hf.1 e2, CRs_ext h l b hf.2 e3⟩
theorem CVs_ext {K : Nat → Prop} {c c' : Cx} (h : Ext K c c') : ∀ (l : List AV) (xs : List Value), Frees K l → CVs c l xs → CVs c' l xs
  | [], xs, _, e => e
  | v :: l, xs, hf, e => by
    obtain ⟨x, ys, e1, e2, e3, e4⟩ := e
    exact ⟨x, ys, e1, CR_ext h v _ hf.1 e2, e3, CVs_ext h l ys hf.2 e4⟩
end

theorem VR_ext {K : Nat → Prop} {c c' : Cx} (h : Ext K c c') (v : AV) (x : Value) (hf : Free K v) (e : VR c v x) : VR c' v x := by
  cases v <;> first
    | exact e
    | exact ⟨CR_ext h _ _ hf e.1, e.2⟩
    | (obtain ⟨xs, e1, e2⟩ := e; exact ⟨xs, e1, CVs_ext h _ _ hf e2⟩)

mutual
theorem kill_free (id : Nat) : ∀ v : AV, Free (· = id) (kill id v)
  | .own i => by
    show Free _ (cond (Nat.beq i id) .dead (.own i))
    cases e : Nat.beq i id with
    | true => exact trivial
    | false => exact fun h => by have h : i = id := h; subst h; rw [Nat.beq_refl] at e; cases e
  | .ptr i p => by
    show Free _ (cond (Nat.beq i id) .dead (.ptr i p))
    cases e : Nat.beq i id with
    | true => exact trivial
    | false => exact fun h => by have h : i = id := h; subst h; rw [Nat.beq_refl] at e; cases e
  | .vsl i n => by
    show Free _ (cond (Nat.beq i id) .dead (.vsl i n))
    cases e : Nat.beq i id with
    | true => exact trivial
    | false => exact fun h => by have h : i = id := h; subst h; rw [Nat.beq_refl] at e; cases e
  | .vw i l h => by
    show Free _ (cond (Nat.beq i id) .dead (.vw i l h))
    cases e : Nat.beq i id with
    | true => exact trivial
    | false => exact fun h => by have h : i = id := h; subst h; rw [Nat.beq_refl] at e; cases e
  | .agg l => kills_free id l
  | .tup l => kills_free id l
  | .fn f a d => ⟨kills_free id a, kills_free id d⟩
  | .int _ _ | .bool _ | .str _ | .ro _ _ | .arr _ _ _ | .rop _ _ | .raw _ _ | .con _ | .und | .dead => trivial
theorem kills_free (id : Nat) : ∀ l : List AV, Frees (· = id) (kills id l)
  | [] => trivial
  | v :: l => ⟨kill_free id v, kills_free id l⟩
end

theorem aggAV_kill (id : Nat) (v : AV) : aggAV (kill id v) = aggAV v := by
  cases v <;> simp only [kill] <;> first | rfl | (cases Nat.beq _ id <;> rfl)

mutual
theorem CR_kill (c : Cx) (id : Nat) : ∀ (v : AV) (vs : List Value), CR c v vs → CR c (kill id v) vs
  | .own i, vs, e => by
    show CR c (cond (Nat.beq i id) .dead (.own i)) vs
    cases Nat.beq i id with
    | false => exact e
    | true =>
      have e : OwnV c i vs := e
      unfold OwnV at e
      split at e
      · obtain ⟨A, n, rfl, _⟩ := e; exact ⟨_, rfl⟩
      · exact e.elim
  | .ptr i p, vs, e => by
    show CR c (cond (Nat.beq i id) .dead (.ptr i p)) vs
    cases Nat.beq i id with
    | false => exact e
    | true => obtain ⟨off, t, _, rfl⟩ := e; exact ⟨_, rfl⟩
  | .vsl i n, vs, e => by
    show CR c (cond (Nat.beq i id) .dead (.vsl i n)) vs
    cases Nat.beq i id with
    | false => exact e
    | true => obtain ⟨_, _, rfl⟩ := e; exact ⟨_, rfl⟩
  | .vw i l h, vs, e => by
    show CR c (cond (Nat.beq i id) .dead (.vw i l h)) vs
    cases Nat.beq i id with
    | false => exact e
    | true =>
      have e : VwV c i l h vs := e
      unfold VwV at e
      split at e
      · obtain ⟨_, A, n, rfl, _⟩ := e; exact ⟨_, rfl⟩
      · exact e.elim
  | .agg l, vs, e => CRs_kill c id l vs e
  | .fn f a d, vs, e => by
    obtain ⟨a', d', e1, e2, e3⟩ := e
    exact ⟨a', d', e1, CVs_kill c id a _ e2, CVs_kill c id d _ e3⟩
  | .int _ _, _, e => e
  | .bool _, _, e => e
  | .str _, _, e => e
  | .ro _ _, _, e => e
  | .arr _ _ _, _, e => e
  | .rop _ _, _, e => e
  | .raw _ _, _, e => e
  | .con _, _, e => e
  | .und, _, e => e
  | .dead, _, e => e
  | .tup _, _, e => e
theorem CRs_kill (c : Cx) (id : Nat) : ∀ (l : List AV) (vs : List Value), CRs c l vs → CRs c (kills id l) vs
  | [], _, e => e
  | v :: l, vs, e => by
    obtain ⟨a, b, e1, e2, e3⟩ := e
    exact ⟨a, b, e1, CR_kill c id v a e2, CRs_kill c id l b e3⟩
theorem CVs_kill (c : Cx) (id : Nat) : ∀ (l : List AV) (xs : List Value), CVs c l xs → CVs c (kills id l) xs
  | [], _, e => e
  | v :: l, xs, e => by
    obtain ⟨x, ys, e1, e2, e3, e4⟩ := e
    exact ⟨x, ys, e1, CR_kill c id v _ e2, by rw [aggAV_kill]; exact e3, CVs_kill c id l ys e4⟩
end

theorem VR_kill (c : Cx) (id : Nat) (v : AV) (x : Value) (e : VR c v x) : VR c (kill id v) x := by
  cases v with
  | dead => exact e
  | und => exact e
  | tup l => obtain ⟨xs, e1, e2⟩ := e; exact ⟨xs, e1, CVs_kill c id l _ e2⟩
  | own i =>
    have h := CR_kill c id _ _ e.1
    simp only [kill] at h ⊢
    cases hb : Nat.beq i id with
    | true => exact trivial
    | false => exact e
  | ptr i p =>
    simp only [kill]
    cases hb : Nat.beq i id with
    | true => exact trivial
    | false => exact e
  | vsl i n =>
    simp only [kill]
    cases hb : Nat.beq i id with
    | true => exact trivial
    | false => exact e
  | vw i l h =>
    simp only [kill]
    cases hb : Nat.beq i id with
    | true => exact trivial
    | false => exact e
  | agg l => exact ⟨CR_kill c id _ _ e.1, e.2⟩
  | fn f a d => exact ⟨CR_kill c id (.fn f a d) _ e.1, e.2⟩
  | int _ _ => exact e
  | bool _ => exact e
  | str _ => exact e
  | ro _ _ => exact e
  | arr _ _ _ => exact e
  | rop _ _ => exact e
  | raw _ _ => exact e
  | con _ => exact e
end Go.Proofs.YtoihmfgkmndjfaaV
/- The relation between a state of the VC evaluator and a frame in a world; types' tables; puts, operands. -/
set_option linter.unusedVariables false
namespace Go.Proofs.YtoihmfgkmndjfaaV
open Go.RowKit

/-- What is no cells lies as it lay. -/
def Keeps (w w' : World) : Prop := ∀ (k : Nat) (o : Obj), w.heap[k]? = some o → (∀ cs T z, o ≠ .cells cs T z) → w'.heap[k]? = some o
theorem Keeps.refl (w : World) : Keeps w w := fun _ _ h _ => h
theorem Keeps.trans {w w' w'' : World} (h : Keeps w w') (h' : Keeps w' w'') : Keeps w w'' := fun k o hk ho => h' k o (h k o hk ho) ho
theorem Keeps.of_below {w w' : World} (h : Below w.heap.size w w') : Keeps w w' := fun k o hk _ => by
  have hlt : k < w.heap.size := (Array.getElem?_eq_some_iff.1 hk).1
  exact (h.block k hlt).trans hk
/-- The same, of the blocks below a bound. -/
def KeepsB (n : Nat) (w w' : World) : Prop := ∀ (k : Nat) (o : Obj), k < n → w.heap[k]? = some o → (∀ cs T z, o ≠ .cells cs T z) → w'.heap[k]? = some o
theorem Keeps.b {w w' : World} (h : Keeps w w') (n : Nat) : KeepsB n w w' := fun k o _ => h k o
theorem KeepsB.mono {n m : Nat} {w w' : World} (h : KeepsB n w w') (hm : m ≤ n) : KeepsB m w w' := fun k o hk => h k o (Nat.lt_of_lt_of_le hk hm)
/-- sp: what is known besides (of an iterator: of its loop's record), by the jump of the round that came last. nm: it ranges over no function. -/
structure Fix where
  P : Program
  nt : Nat
  ok0 : Nat → Prop
  w0 : World
  stk : Nat → AV
  stv : Nat → Value
  sp : Nat → World → Prop
  lim : Nat
  spk : ∀ p w w', KeepsB lim w w' → w.heap.size ≤ w'.heap.size → sp p w → sp p w'
  gl : GlOk ok0 w0
  nm : Bool
def Fix.base (X : Fix) : Nat := X.w0.heap.size

def liveW : Blk → Prop
  | .var _ _ false => True
  | .row _ _ xs false => xs ≠ []
  | _ => False
def live : Blk → Prop
  | .var _ _ _ => True
  | .row _ _ xs _ => xs ≠ []
  | .none => False
theorem liveW_live {b : Blk} (h : liveW b) : live b := by
  cases b with
  | none => exact h
  | var e v f => trivial
  | row te e xs f => cases f with
    | false => exact h
    | true => exact h.elim

def okC (X : Fix) (ρ : Nat → Nat) (hp : List (Nat × Blk)) (w : World) (b : Nat) : Prop :=
  (X.ok0 b ∨ X.base ≤ b) ∧ b < w.heap.size ∧ ∀ id, liveW (lkb hp id) → ρ id ≠ b
def cx (X : Fix) (ρ : Nat → Nat) (hp : List (Nat × Blk)) (w : World) : Cx := ⟨ρ, okC X ρ hp w, w, hp⟩

mutual
def Shp : Ty → AV → Prop
  | .int k, .int k' _ => k' = k
  | .bool, .bool _ => True
  | .str, .str _ => True
  | .sl e, .ro e' _ => e' = e
  | .sl _, .con _ => True
  | .sl _, .own _ => True
  | .sl _, .vsl _ _ => True
  | .sl _, .vw _ _ _ => True
  | .sl _, .dead => True
  | .unit, .agg [] => True
  | .pair a b, .agg (v :: l) => Shp a v ∧ Shps b l
  | .arr n e, .arr n' e' _ => n' = n ∧ e' = e
  | .opq _, .ptr _ _ => True
  | .opq _, .fn _ _ _ => True
  | .opq _, .con _ => True
  | .opq _, .dead => True
  | _, _ => False
def Shps : Ty → List AV → Prop
  | .pair a b, v :: l => Shp a v ∧ Shps b l
  | .unit, [] => True
  | _, _ => False
end

def HB (X : Fix) (c : Cx) (id : Nat) : Blk → Prop
  | .none => True
  | .var e v f => X.base ≤ c.ρ id ∧ ∃ cs T, c.w.heap[c.ρ id]? = some (.cells cs T (0, 0)) ∧ CR c v cs.toList ∧ Shp e v ∧ WfT e ∧ TagOk e T
  | .row te e xs f => WfT e ∧ (xs ≠ [] → X.base ≤ c.ρ id ∧ ∃ cs, c.w.heap[c.ρ id]? = some (.cells cs te (0, 0)) ∧
      xs.length * e.size ≤ cs.size ∧ EncL (Enc c.ok c.w e) xs (cs.toList.take (xs.length * e.size)))

/-- The marks of the loops over functions that the activation has come through. -/
def mark (D : Nat) : Deferred := { target := .collected D, args := #[] }
def Marks (base : Nat) (ds : List Deferred) (w : World) : Prop := ∃ l : List Nat, ds = l.map mark ∧ l.Nodup ∧ ∀ D ∈ l, base ≤ D ∧ w.heap[D]? = some (.deferred (some []))
theorem Marks.keep {base : Nat} {ds : List Deferred} {w w' : World} (h : Marks base ds w) (hk : Keeps w w') : Marks base ds w' := by
  obtain ⟨l, h1, h2, h3⟩ := h
  exact ⟨l, h1, h2, fun D hD => ⟨(h3 D hD).1, hk D _ (h3 D hD).2 (fun _ _ _ h => by cases h)⟩⟩
def DefOk (nm : Bool) (base : Nat) (ds : List Deferred) (w : World) : Prop := Marks base ds w ∧ (nm = true → ds = [])
theorem DefOk.keep {nm : Bool} {base : Nat} {ds : List Deferred} {w w' : World} (h : DefOk nm base ds w) (hk : Keeps w w') : DefOk nm base ds w' := ⟨h.1.keep hk, h.2⟩
theorem mark_inj : ∀ {l l' : List Nat}, l.map mark = l'.map mark → l = l'
  | [], [], _ => rfl
  | [], _ :: _, h => by cases h
  | _ :: _, [], h => by cases h
  | x :: l, y :: l', h => by
    simp only [List.map_cons, List.cons.injEq] at h
    obtain ⟨h1, h2⟩ := h
    have h1 : x = y := by simpa [mark] using h1
    rw [h1, mark_inj h2]
theorem Marks.keepB {base base0 : Nat} {ds : List Deferred} {w0 w w' : World} (h0 : Marks base0 ds w0) (h : Marks base ds w) (hk : KeepsB w0.heap.size w w') : Marks base ds w' := by
  obtain ⟨l0, e0, _, k0⟩ := h0
  obtain ⟨l, h1, h2, h3⟩ := h
  obtain rfl : l0 = l := mark_inj (e0.symm.trans h1)
  exact ⟨l0, h1, h2, fun D hD => ⟨(h3 D hD).1, hk D _ (Array.getElem?_eq_some_iff.1 (k0 D hD).2).1 (h3 D hD).2 (fun _ _ _ h => by cases h)⟩⟩
theorem DefOk.keepB {nm : Bool} {base base0 : Nat} {ds : List Deferred} {w0 w w' : World} (h0 : Marks base0 ds w0) (h : DefOk nm base ds w) (hk : KeepsB w0.heap.size w w') : DefOk nm base ds w' := ⟨h0.keepB h.1 hk, h.2⟩
theorem Marks.nil (base : Nat) (w : World) : Marks base [] w := ⟨[], rfl, List.nodup_nil, fun _ h => by cases h⟩

structure RR (X : Fix) (ρ : Nat → Nat) (s : St) (a : Act) (w : World) : Prop where
  size : a.tmps.size = X.nt
  defers : DefOk X.nm (max X.base X.lim) a.defers w
  ok0 : ∀ b, X.ok0 b → b < X.base
  below : Below X.base X.w0 w
  heap : ∀ id, HB X (cx X ρ s.hp w) id (lkb s.hp id)
  inj : ∀ id id', live (lkb s.hp id) → live (lkb s.hp id') → ρ id = ρ id' → id = id'
  fr : ∀ d, VR (cx X ρ s.hp w) (lk s.fr d) (a.tmps.getD d undef)
  stk : ∀ ks, s.ks = some ks → ∀ i, VR (cx X ρ s.hp w) (killAll ks.1 (X.stk i)) (X.stv i)
  sp : ∀ ks, s.ks = some ks → X.sp ks.2 w
  lim : X.lim ≤ w.heap.size

/-- The package-level variables, still. -/
theorem RR.gl {X : Fix} {ρ : Nat → Nat} {s : St} {a : Act} {w : World} (R : RR X ρ s a w) : GlOk (okC X ρ s.hp w) w := by
  refine X.gl.mono fun b hb => ?_
  have hlt := R.ok0 b hb
  have hsz : X.w0.heap.size ≤ w.heap.size := R.below.size
  have hlt' : b < X.w0.heap.size := hlt
  refine ⟨⟨.inl hb, by omega, fun id hl he => ?_⟩, .of (R.below.block b hlt)⟩
  have hh := R.heap id
  cases hk : lkb s.hp id with
  | none => rw [hk] at hl; exact hl
  | var e v f =>
    rw [hk] at hh
    have : X.base ≤ ρ id := hh.1
    omega
  | row te e xs f =>
    rw [hk] at hh hl
    have : X.base ≤ ρ id := (hh.2 (liveW_live hl)).1
    omega

theorem RR.put {X : Fix} {ρ : Nat → Nat} {s : St} {a : Act} {w : World} (R : RR X ρ s a w) {dst : Option Nat} (hd : ∀ d, dst = some d → d < X.nt) {v : AV} {x : Value}
    (hv : VR (cx X ρ s.hp w) v x) : RR X ρ (s.put dst v) (a.put dst x) w := by
  cases dst with
  | none => exact R
  | some d =>
    have hlt := hd d rfl
    refine ⟨by simp [Act.put, R.size], R.defers, R.ok0, R.below, R.heap, R.inj, fun i => ?_, R.stk, R.sp, R.lim⟩
    show VR _ (lk ((d, v) :: s.fr) i) ((a.tmps.setIfInBounds d x).getD i undef)
    rw [lk_cons]
    have hs : d < a.tmps.size := by rw [R.size]; exact hlt
    by_cases h : d = i
    · subst h
      rw [if_pos rfl]
      have : (a.tmps.setIfInBounds d x).getD d undef = x := by
        simp [Array.getD, hs]
      rw [this]; exact hv
    · rw [if_neg h]
      have : (a.tmps.setIfInBounds d x).getD i undef = a.tmps.getD i undef := by
        simp only [Array.getD_eq_getD_getElem?, Array.getElem?_setIfInBounds]
        rw [if_neg h]
      rw [this]; exact R.fr i

/-! ### Values looked into -/
theorem cells_one {x y : Value} (h : x.cells.toList = [y]) (ha : vAgg x = false) : x = y := by
  cases x <;> first | (simp [Value.cells] at h; exact h) | cases ha

theorem VR_int {c : Cx} {k : IntKind} {n : Int} {x : Value} (h : VR c (.int k n) x) : x = .int k n ∧ (Lit.int k n).wf = true :=
  ⟨cells_one h.1.1 h.2.symm, h.1.2⟩
theorem VR_bool {c : Cx} {b : Bool} {x : Value} (h : VR c (.bool b) x) : x = .bool b := cells_one h.1 h.2.symm
theorem VR_str {c : Cx} {s : ByteArray} {x : Value} (h : VR c (.str s) x) : x = .string s ∧ s.size ≤ maxLen := ⟨cells_one h.1.1 h.2.symm, h.1.2⟩
theorem VR_con {c : Cx} {v x : Value} (h : VR c (.con v) x) : x = v ∧ simpleV v := ⟨cells_one h.1.1 h.2.symm, h.1.2⟩
theorem VR_ptr {c : Cx} {id : Nat} {p : List Step} {x : Value} (h : VR c (.ptr id p) x) : ∃ off t, pathB (lkb c.hp id) p = some (off, t) ∧ x = .pointer (some ⟨c.ρ id, off, none⟩) := by
  obtain ⟨⟨off, t, h1, h2⟩, h3⟩ := h
  exact ⟨off, t, h1, cells_one h2 h3.symm⟩
theorem VR_vsl {c : Cx} {id n : Nat} {x : Value} (h : VR c (.vsl id n) x) : (∃ v f, lkb c.hp id = .var (opqs n) v f) ∧ n ≤ 65536 ∧ x = .slice (some ⟨c.ρ id, 0, none⟩) n n := by
  obtain ⟨⟨h1, h4, h2⟩, h3⟩ := h
  exact ⟨h1, h4, cells_one h2 h3.symm⟩
theorem VR_ro {c : Cx} {e : Ty} {xs : List e.den} {x : Value} (h : VR c (.ro e xs) x) : ∃ A n, x = .slice A xs.length n ∧ Sl c.ok c.w e.size (Enc c.ok c.w e) xs A n := by
  obtain ⟨⟨A, n, h1, h2⟩, h3⟩ := h
  exact ⟨A, n, cells_one h1 h3.symm, h2⟩
theorem VR_fn {c : Cx} {f : Fn} {as ds : List AV} {x : Value} (h : VR c (.fn f as ds) x) : ∃ a' d', x = .func f a' d' ∧ CVs c as a'.toList ∧ CVs c ds d'.toList := by
  obtain ⟨⟨a', d', h1, h2, h3⟩, h4⟩ := h
  exact ⟨a', d', cells_one h1 h4.symm, h2, h3⟩
theorem VR_agg {c : Cx} {l : List AV} {x : Value} (h : VR c (.agg l) x) : ∃ cs, x = .agg cs ∧ CRs c l cs.toList := by
  obtain ⟨h1, h2⟩ := h
  cases x <;> first | (exact ⟨_, rfl, h1⟩) | cases h2
theorem VR_arr {c : Cx} {n : Nat} {e : Ty} {xs : List e.den} {x : Value} (h : VR c (.arr n e xs) x) : ∃ cs, x = .agg cs ∧ xs.length = n ∧ EncL (Enc c.ok c.w e) xs cs.toList := by
  obtain ⟨h1, h2⟩ := h
  cases x <;> first | (exact ⟨_, rfl, h1.1, h1.2⟩) | cases h2
theorem VR_own {c : Cx} {id : Nat} {x : Value} (h : VR c (.own id) x) : OwnV c id [x] := by
  obtain ⟨h1, h2⟩ := h
  have h1 : OwnV c id x.cells.toList := h1
  unfold OwnV at h1
  split at h1
  · rename_i te e xs f hb
    obtain ⟨A, n, h3, h4⟩ := h1
    have := cells_one h3 h2.symm
    subst this
    unfold OwnV
    rw [hb]; exact ⟨A, n, rfl, h4⟩
  · exact h1.elim
theorem VR_rop {c : Cx} {e : Ty} {y : e.den} {x : Value} (h : VR c (.rop e y) x) :
    ∃ b o, x = .pointer (some ⟨b, o, none⟩) ∧ c.ok b ∧ ∃ cs : List Value, cs.length = e.size ∧ (∀ j, j < e.size → c.w.cell? ⟨b, o + j, none⟩ = cs[j]?) ∧ Enc c.ok c.w e y cs := by
  obtain ⟨⟨b, o, h1, h2⟩, h3⟩ := h
  exact ⟨b, o, cells_one h1 h3.symm, h2⟩

theorem VR_vw {c : Cx} {id : Nat} {l h : Int} {x : Value} (e : VR c (.vw id l h) x) : VwV c id l h [x] := by
  obtain ⟨h1, h2⟩ := e
  have h1 : VwV c id l h x.cells.toList := h1
  unfold VwV at h1
  split at h1
  · rename_i te e xs f hb
    obtain ⟨h0, A, n, h3, h4⟩ := h1
    have := cells_one h3 h2.symm
    subst this
    unfold VwV
    rw [hb]; exact ⟨h0, A, n, rfl, h4⟩
  · exact h1.elim

theorem mkVR_int {c : Cx} {k : IntKind} {n : Int} (h : (Lit.int k n).wf = true) : VR c (.int k n) (.int k n) := ⟨⟨rfl, h⟩, rfl⟩
theorem mkVR_bool {c : Cx} (b : Bool) : VR c (.bool b) (.bool b) := ⟨rfl, rfl⟩

theorem VR_ofVal (c : Cx) (v : Value) : VR c (ofVal v) v := by
  unfold ofVal
  split
  · exact ⟨rfl, rfl⟩
  · rename_i k n
    cases h : (Lit.int k n).wf with
    | true => exact ⟨⟨rfl, h⟩, rfl⟩
    | false => exact trivial
  · rename_i s
    cases h : Nat.ble s.size 9223372036854775807 with
    | true => exact ⟨⟨rfl, Nat.le_of_ble_eq_true h⟩, rfl⟩
    | false => exact trivial
  all_goals first | exact ⟨⟨rfl, trivial⟩, rfl⟩ | exact trivial

theorem VR_opn {X : Fix} {ρ : Nat → Nat} {s : St} {a : Act} {w : World} (R : RR X ρ s a w) (o : Operand) : VR (cx X ρ s.hp w) (opn s.fr o) (a.eval o) := by
  cases o with
  | tmp t => exact R.fr t
  | const v => exact VR_ofVal _ v
  | global g =>
    show VR _ (match lkG GL g with | some ⟨e, x⟩ => .rop e x | none => .dead) (.pointer (some ⟨g, 0, none⟩))
    cases hg : lkG GL g with
    | none => trivial
    | some y =>
      obtain ⟨e, x⟩ := y
      obtain ⟨h1, cs, h2, h3, h4⟩ := R.gl g e x hg
      exact ⟨⟨g, 0, rfl, h1, cs, h2, h3, h4⟩, rfl⟩
  | func f => exact ⟨⟨#[], #[], rfl, rfl, rfl⟩, rfl⟩
end Go.Proofs.YtoihmfgkmndjfaaV
/- The operations of the VC evaluator that write nothing: what the machine does at them. -/
set_option linter.unusedVariables false
set_option linter.unusedSimpArgs false
namespace Go.Proofs.YtoihmfgkmndjfaaV
open Go.RowKit

/-! ### Types -/
def zcs : Ty → List Value
  | .int k => [.int k 0]
  | .bool => [.bool false]
  | .str => [.string ⟨#[]⟩]
  | .sl _ => [.slice none 0 0]
  | .unit => []
  | .pair a b => zcs a ++ zcs b
  | .arr n e => (List.replicate n (zcs e)).flatten
  | .opq 0 => [.pointer none]
  | .opq 1 => [.nilFunc]
  | .opq 3 => [.pointer none]
  | .opq 4 => [.pointer none]
  | .opq _ => [.nilIface]
def aggTy : Ty → Bool
  | .unit | .pair _ _ | .arr _ _ => true
  | _ => false
def zval (e : Ty) : Value := if aggTy e then .agg (zcs e).toArray else (zcs e).headD undef

/-- The block that an operation reads. -/
def loadB (a : Act) : Op → Option Nat
  | .load _ x => match a.eval x with
    | .pointer (some A) => some A.block
    | _ => none
  | _ => none
/-- It yields this in this world, and in each in which the block that it reads holds the same. -/
def Up (P : Program) (a : Act) (o : Oper) (z : Value) (w : World) : Prop := ∀ w', (∀ b, loadB a o.op = some b → b < w.heap.size → w'.heap[b]? = w.heap[b]?) → (execOp a.eval o).run P w' = .ok (.value z) w'
theorem Up.now {P : Program} {a : Act} {o : Oper} {z : Value} {w : World} (h : Up P a o z w) : (execOp a.eval o).run P w = .ok (.value z) w := h w (fun _ _ _ => rfl)
def TyBase0 (P : Program) (e : Ty) (t : TypeId) : Prop := ∃ i, P.info? t = some i ∧ i.size = e.size ∧ i.zero = some (zval e) ∧ i.bytes ≤ 32768 ∧ i.bytes ≤ e.ub ∧ e.lb ≤ i.bytes

def TyBase (P : Program) (e : Ty) (t : TypeId) : Prop := TyBase0 P e t ∧ (aggTy e = true → P.eqGuardType P.depth t = false)

mutual
def TyOk (P : Program) : Ty → TypeId → Prop
  | .int k, t => TyBase P (.int k) t ∧ P.underlying t = some (.int k)
  | .bool, t => TyBase P .bool t ∧ P.underlying t = some .bool
  | .str, t => TyBase P .str t ∧ P.underlying t = some .string
  | .sl e, t => TyBase P (.sl e) t ∧ ∃ te, P.underlying t = some (.slice te) ∧ TyOk P e te
  | .arr n e, t => TyBase P (.arr n e) t ∧ ∃ te, P.underlying t = some (.array n te) ∧ TyOk P e te
  | .unit, t => TyBase P .unit t ∧ ∃ fs, P.underlying t = some (.struct fs) ∧ fs.toList = [] ∧ P.stoodInHeld t = false
  | .pair a b, t => TyBase P (.pair a b) t ∧ ∃ fs, P.underlying t = some (.struct fs) ∧ P.stoodInHeld t = false ∧
      ∃ f r, fs.toList = f :: r ∧ f.offset = 0 ∧ f.name ≠ "_" ∧ TyOk P a f.type ∧ FsOk P b r a.size
  | .opq z, t => TyBase P (.opq z) t ∧ ∃ d, P.underlying t = some d ∧ d.isRow = false ∧ (z = 0 → ∃ u, d = .pointer u) ∧ (z = 1 → ∃ a b c, d = .func a b c) ∧ (z = 4 → d = .pointer UB ∧ P.cellsOf UB = 1)
def FsOk (P : Program) : Ty → List Field → Nat → Prop
  | .pair a b, fs, off => ∃ f r, fs = f :: r ∧ f.offset = off ∧ f.name ≠ "_" ∧ TyOk P a f.type ∧ FsOk P b r (off + a.size)
  | .unit, fs, _ => fs = []
  | _, _, _ => False
end
theorem TyOk.base {P : Program} : ∀ {e : Ty} {t : TypeId}, TyOk P e t → TyBase0 P e t := by
  intro e t h; cases e <;> exact h.1.1
theorem TyOk.guard {P : Program} : ∀ {e : Ty} {t : TypeId}, TyOk P e t → aggTy e = true → P.eqGuardType P.depth t = false := by
  intro e t h; cases e <;> exact h.1.2
theorem TyOk.row {P : Program} : ∀ {e : Ty} {t : TypeId}, TyOk P e t → ∃ d, P.underlying t = some d ∧ d.isRow = aggTy e := by
  intro e t h
  cases e with
  | int k => exact ⟨_, h.2, rfl⟩
  | bool => exact ⟨_, h.2, rfl⟩
  | str => exact ⟨_, h.2, rfl⟩
  | sl e => obtain ⟨_, te, h2, _⟩ := h; exact ⟨_, h2, rfl⟩
  | arr n e => obtain ⟨_, te, h2, _⟩ := h; exact ⟨_, h2, rfl⟩
  | unit => obtain ⟨_, fs, h2, _⟩ := h; exact ⟨_, h2, rfl⟩
  | pair a b => obtain ⟨_, fs, h2, _⟩ := h; exact ⟨_, h2, rfl⟩
  | opq z => obtain ⟨_, d, h2, h3, _⟩ := h; exact ⟨_, h2, h3⟩

/-! ### Whole numbers -/
theorem wf_wrap (k : IntKind) (n : Int) : (Lit.int k (k.wrap n)).wf = true := by
  cases k <;> simp only [Lit.wf, IntKind.wrap, IntKind.min, IntKind.max, IntKind.bits, IntKind.signed] <;> simp <;> omega

theorem run_eqGuard_no {P : Program} (w : World) (op : BinOp) (t : TypeId) (x y : Operand) (a b : Value)
    (h : ∀ p q, ¬ (a = .agg p ∧ b = .agg q)) (h' : ¬ (a = .nilIface ∧ b = .nilIface)) : (eqGuard op t x y a b).run P w = .ok () w := by
  unfold eqGuard
  cases op <;> (try rfl) <;>
  · cases a <;> cases b <;> first | rfl | exact absurd ⟨rfl, rfl⟩ h' | exact absurd ⟨rfl, rfl⟩ (h _ _)

theorem tmod_wf (k : IntKind) (a b : Int) (ha : (Lit.int k a).wf = true) (hb : (Lit.int k b).wf = true) (h : b ≠ 0) : (Lit.int k (a.tmod b)).wf = true := by
  have h1 : (a.tmod b).natAbs ≤ a.natAbs := by rw [Int.natAbs_tmod]; exact Nat.mod_le _ _
  have h2 : 0 ≤ a → 0 ≤ a.tmod b := fun h => Int.tmod_nonneg b h
  have h3 : a ≤ 0 → a.tmod b ≤ 0 := fun h => by
    have := Int.tmod_nonneg b (show 0 ≤ -a by omega)
    rw [Int.neg_tmod] at this; omega
  cases k <;> simp [Lit.wf, IntKind.min, IntKind.max, IntKind.bits, IntKind.signed] at ha ⊢ <;> omega

theorem fdiv_wf (k : IntKind) (a : Int) (n : Nat) (ha : (Lit.int k a).wf = true) : (Lit.int k (a.fdiv (2 ^ n))).wf = true := by
  have hp : (0 : Int) < 2 ^ n := Int.pow_pos (by decide)
  have he : a.fdiv (2 ^ n) = a / 2 ^ n := Int.fdiv_eq_ediv_of_nonneg _ (Int.le_of_lt hp)
  rw [he]
  have h1 : 0 ≤ a → 0 ≤ a / 2 ^ n ∧ a / 2 ^ n ≤ a := fun h => ⟨Int.ediv_nonneg h (Int.le_of_lt hp), Int.ediv_le_self _ h⟩
  have h2 : a < 0 → a ≤ a / 2 ^ n ∧ a / 2 ^ n < 0 := fun h => by
    refine ⟨?_, Int.ediv_neg_of_neg_of_pos h hp⟩
    rw [Int.le_ediv_iff_mul_le hp]
    have : a * 2 ^ n ≤ a * 1 := Int.mul_le_mul_of_nonpos_left (by omega) (by omega)
    omega
  cases k <;> simp [Lit.wf, IntKind.min, IntKind.max, IntKind.bits, IntKind.signed] at ha ⊢ <;> omega

theorem run_intOp {P : Program} (w : World) (k : IntKind) (a b : Int) (op : BinOp) (t : TypeId) (C : AV → Prop) (c : Cx) (ha : (Lit.int k a).wf = true) (hb : (Lit.int k b).wf = true) (h : intOp k a b op C) :
    ∃ v x, C v ∧ (∀ w : World, (binOp op t (.int k a) (.int k b)).run P w = .ok x w) ∧ VR c v x := by
  cases op <;> simp only [intOp] at h
  case add => exact ⟨_, .int k (k.wrap (a + b)), h, fun w => by simp [binOp, Op.intArith], mkVR_int (wf_wrap _ _)⟩
  case sub => exact ⟨_, .int k (k.wrap (a - b)), h, fun w => by simp [binOp, Op.intArith], mkVR_int (wf_wrap _ _)⟩
  case mul => exact ⟨_, .int k (k.wrap (a * b)), h, fun w => by simp [binOp, Op.intArith], mkVR_int (wf_wrap _ _)⟩
  case quo => exact ⟨_, .int k (k.wrap (a.tdiv b)), h.2, fun w => by simp [binOp, Op.intDiv, h.1], mkVR_int (wf_wrap _ _)⟩
  case rem => exact ⟨_, .int k (a.tmod b), h.2, fun w => by simp [binOp, Op.intDiv, h.1], mkVR_int (tmod_wf k a b ha hb h.1)⟩
  case and => exact ⟨_, _, h, fun w => by simp [binOp, Op.intBits, bitsOp], mkVR_int (wf_wrap _ _)⟩
  case or => exact ⟨_, _, h, fun w => by simp [binOp, Op.intBits, bitsOp], mkVR_int (wf_wrap _ _)⟩
  case xor => exact ⟨_, _, h, fun w => by simp [binOp, Op.intBits, bitsOp], mkVR_int (wf_wrap _ _)⟩
  case andNot => exact ⟨_, _, h, fun w => by simp [binOp, Op.intBits, bitsOp], mkVR_int (wf_wrap _ _)⟩
  case eql => exact ⟨_, .bool (a == b), h, fun w => by simp [binOp, Op.intCmp], by rw [show (a == b) = decide (a = b) from rfl]; exact mkVR_bool _⟩
  case neq => exact ⟨_, .bool (a != b), h, fun w => by simp [binOp, Op.intCmp], by rw [show (a != b) = !decide (a = b) from rfl]; exact mkVR_bool _⟩
  case lss => exact ⟨_, .bool (decide (a < b)), h, fun w => by simp [binOp, Op.intCmp], mkVR_bool _⟩
  case leq => exact ⟨_, .bool (decide (a ≤ b)), h, fun w => by simp [binOp, Op.intCmp], mkVR_bool _⟩
  case gtr => exact ⟨_, .bool (decide (a > b)), h, fun w => by simp [binOp, Op.intCmp], mkVR_bool _⟩
  case geq => exact ⟨_, .bool (decide (a ≥ b)), h, fun w => by simp [binOp, Op.intCmp], mkVR_bool _⟩
  all_goals exact h.elim

theorem run_shiftOp {P : Program} (w : World) (k yk : IntKind) (a b : Int) (op : BinOp) (t : TypeId) (C : AV → Prop) (c : Cx) (ha : (Lit.int k a).wf = true) (h : shiftOp k a b op C) :
    ∃ v x, C v ∧ (∀ w : World, (binOp op t (.int k a) (.int yk b)).run P w = .ok x w) ∧ VR c v x := by
  cases op <;> simp only [shiftOp] at h
  case shl => exact ⟨_, _, h.2, fun w => by simp [binOp, Op.shift, show ¬ b < 0 by omega], mkVR_int (wf_wrap _ _)⟩
  case shr => exact ⟨_, _, h.2, fun w => by simp [binOp, Op.shift, show ¬ b < 0 by omega], mkVR_int (fdiv_wf _ _ _ ha)⟩
  all_goals exact h.elim

/-! ### The operations, one by one; R: the state tells the frame -/
section
variable {E : Env} {X : Fix} {ρ : Nat → Nat} {s : St} {a : Act} {w : World} {C : AV → Prop} {o : Oper}

theorem ex_move {x : Operand} (R : RR X ρ s a w) (ho : o.op = .move x ∨ o.op = .assign x) (h : C (opn s.fr x)) :
    ∃ v y, C v ∧ Up X.P a o y w ∧ VR (cx X ρ s.hp w) v y := by
  refine ⟨_, a.eval x, h, ?_, VR_opn R x⟩
  intro w' _
  rcases ho with ho | ho <;> simp [execOp, ho]

theorem ex_pick {c x y : Operand} (R : RR X ρ s a w) (ho : o.op = .pick c x y) (h : pv E s.hp (opn s.fr) (.pick c x y) C) :
    ∃ v z, C v ∧ Up X.P a o z w ∧ VR (cx X ρ s.hp w) v z := by
  simp only [pv] at h
  cases hc : opn s.fr c <;> rw [hc] at h <;> try exact h.elim
  rename_i t
  have ec : a.eval c = .bool t := VR_bool (by have := VR_opn R c; rw [hc] at this; exact this)
  refine ⟨_, if t then a.eval x else a.eval y, h, fun w' _ => by simp [execOp, ho, ec, asBool], ?_⟩
  have hx := VR_opn R x
  have hy := VR_opn R y
  unfold pickAV
  split
  · rename_i p q e1 e2
    rw [e1] at hx; rw [e2] at hy
    have := VR_bool hx; have h2 := VR_bool hy
    rw [this, h2]; cases t <;> exact mkVR_bool _
  · cases t
    · exact hy
    · exact hx

theorem ex_nilCheck {x : Operand} (R : RR X ρ s a w) (ho : o.op = .nilCheck x) (h : pv E s.hp (opn s.fr) (.nilCheck x) C) :
    ∃ v z, C v ∧ Up X.P a o z w ∧ VR (cx X ρ s.hp w) v z := by
  simp only [pv] at h
  have hx := VR_opn R x
  cases hc : opn s.fr x <;> rw [hc] at h hx <;> try exact h.elim
  · obtain ⟨off, t, _, e⟩ := VR_ptr hx
    exact ⟨_, a.eval x, h, fun w' _ => by simp [execOp, ho, e], hx⟩
  · obtain ⟨b, off, e, _⟩ := VR_rop hx
    exact ⟨_, a.eval x, h, fun w' _ => by simp [execOp, ho, e], hx⟩
  · rename_i f as ds
    cases f <;> try exact h.elim
    obtain ⟨a', d', e, _⟩ := VR_fn hx
    exact ⟨_, a.eval x, h, fun w' _ => by simp [execOp, ho, e], hx⟩

theorem ex_unOp {op : UnOp} {t : TypeId} {x : Operand} (R : RR X ρ s a w) (ho : o.op = .unOp op t x) (h : pv E s.hp (opn s.fr) (.unOp op t x) C) :
    ∃ v z, C v ∧ Up X.P a o z w ∧ VR (cx X ρ s.hp w) v z := by
  simp only [pv] at h
  have hx := VR_opn R x
  cases hc : opn s.fr x <;> rw [hc] at h hx <;> cases op <;> try exact h.elim
  · have e := (VR_int hx).1
    exact ⟨_, _, h, fun w' _ => by simp [execOp, ho, e, Op.unary, Op.intArith], mkVR_int (wf_wrap _ _)⟩
  · have e := (VR_int hx).1
    exact ⟨_, _, h, fun w' _ => by simp [execOp, ho, e, Op.unary, Op.intBits, bitsOp], mkVR_int (wf_wrap _ _)⟩
  · have e := VR_bool hx
    exact ⟨_, _, h, fun w' _ => by simp [execOp, ho, e, Op.unary], mkVR_bool _⟩

theorem ex_extract {x : Operand} {i : Nat} (R : RR X ρ s a w) (ho : o.op = .extract x i) (h : pv E s.hp (opn s.fr) (.extract x i) C) :
    ∃ v z, C v ∧ Up X.P a o z w ∧ VR (cx X ρ s.hp w) v z := by
  simp only [pv] at h
  have hx := VR_opn R x
  cases hc : opn s.fr x <;> rw [hc] at h hx <;> try exact h.elim
  rename_i l
  obtain ⟨xs, e1, e2⟩ := hx
  have key : ∀ (l : List AV) (ys : List Value) (i : Nat) (v : AV), CVs (cx X ρ s.hp w) l ys → l[i]? = some v → ∃ y, ys[i]? = some y ∧ VR (cx X ρ s.hp w) v y := by
    intro l
    induction l with
    | nil => intro ys i v _ h; simp at h
    | cons u l ih =>
      intro ys i v hv h
      obtain ⟨x, ys, rfl, h1, h2, h3⟩ := hv
      cases i with
      | zero =>
        simp at h; subst h
        refine ⟨x, rfl, ?_⟩
        cases u <;> first | exact ⟨h1, h2⟩ | exact trivial | exact h1.elim
      | succ i => exact ih ys i v h3 (by simpa using h)
  have h : (match l[i]? with | some v => C v | none => False) := h
  cases hl : l[i]? with
  | none => rw [hl] at h; exact h.elim
  | some v =>
    rw [hl] at h
    obtain ⟨y, h1, h2⟩ := key l _ i v e2 hl
    refine ⟨v, y, h, ?_, h2⟩
    have h1' : xs[i]? = some y := by simpa using h1
    intro w' _
    simp [execOp, ho, e1, Instr.extract, h1']

theorem ex_makeFunc {f : Fn} {fs cs : Array Operand} (R : RR X ρ s a w) (ho : o.op = .makeFunc f fs cs) (h : pv E s.hp (opn s.fr) (.makeFunc f fs cs) C) :
    ∃ v z, C v ∧ Up X.P a o z w ∧ VR (cx X ρ s.hp w) v z := by
  simp only [pv] at h
  have key : ∀ l : List Operand, okVs (l.map (opn s.fr)) = true → CVs (cx X ρ s.hp w) (l.map (opn s.fr)) (l.map a.eval) := by
    intro l
    induction l with
    | nil => intro _; rfl
    | cons x l ih =>
      intro hl
      simp only [List.map_cons, okVs, Bool.and_eq_true] at hl
      refine ⟨_, _, rfl, ?_, ?_, ih hl.2⟩ <;>
      · have h1 := hl.1
        have hx := VR_opn R x
        generalize opn s.fr x = v at hx h1
        cases v <;> first | exact hx.1 | exact hx.2 | cases h1
  cases hk : (okVs (fs.toList.map (opn s.fr)) && okVs (cs.toList.map (opn s.fr))) with
  | false => rw [hk] at h; exact h.elim
  | true =>
  rw [hk] at h
  rw [Bool.and_eq_true] at hk
  refine ⟨_, .func f (fs.map a.eval) (cs.map a.eval), h, fun w' _ => by simp [execOp, ho, Instr.makeFunc], ⟨⟨_, _, rfl, ?_, ?_⟩, rfl⟩⟩
  · have := key fs.toList hk.1; simpa using this
  · have := key cs.toList hk.2; simpa using this
end
end Go.Proofs.YtoihmfgkmndjfaaV
/- The operations of the VC evaluator that write nothing, more: tests, conversions, fields, elements, loads, cuts. -/
set_option linter.unusedVariables false
set_option linter.unusedSimpArgs false
namespace Go.Proofs.YtoihmfgkmndjfaaV
open Go.RowKit

structure EnvT (E : Env) (P : Program) : Prop where
  tt : ∀ t e, lkT E.tt t = some e → TyOk P e t
  et : ∀ t te, lkE E.et t = some te → P.underlying t = some (.slice te)
  tag : ∀ t e, lkT E.tt t = some e → TagOk e t

section
variable {E : Env} {X : Fix} {ρ : Nat → Nat} {s : St} {a : Act} {w : World} {C : AV → Prop} {o : Oper}

/-- '==' of structs and arrays, as the model tells it: proved apart. -/
def EqLaw (X : Fix) (c : Cx) : Prop := ∀ (e : Ty) (t : TypeId) (u v : AV) (x y : Value) (r : Bool) (w : World),
  TyOk X.P e t → fits e u = true → fits e v = true → aggTy e = true → depthT e ≤ 100 → VR c u x → VR c v y → eqAV u v = some r →
  (Op.equal t x y).run X.P w = .ok r w ∧ ∀ op (p q : Operand), (eqGuard op t p q x y).run X.P w = .ok () w

theorem run_equalIn_bool {P : Program} {w : World} {t : TypeId} (d : Nat) (p q : Bool) (h : P.underlying t = some .bool) : (Op.equalIn (d + 1) t (.bool p) (.bool q)).run P w = .ok (p == q) w := by
  simp [Op.equalIn, Sem.run_bind, run_underlying h]
theorem run_equalIn_ptr_nil {P : Program} {w : World} {t u : TypeId} (d : Nat) (a : Addr) (h : P.underlying t = some (.pointer u)) : (Op.equalIn (d + 1) t (.pointer (some a)) (.pointer none)).run P w = .ok false w := by
  simp [Op.equalIn, Sem.run_bind, run_underlying h]
theorem run_equalIn_nil_nil {P : Program} {w : World} {t u : TypeId} (d : Nat) (h : P.underlying t = some (.pointer u)) : (Op.equalIn (d + 1) t (.pointer none) (.pointer none)).run P w = .ok true w := by
  simp [Op.equalIn, Sem.run_bind, run_underlying h]
theorem run_equalIn_slice_nil {P : Program} {w : World} {t e : TypeId} (d : Nat) (A : Option Addr) (n c : Nat) (h : P.underlying t = some (.slice e)) : (Op.equalIn (d + 1) t (.slice A n c) (.slice none 0 0)).run P w = .ok A.isNone w := by
  cases A <;> simp [Op.equalIn, Sem.run_bind, run_underlying h]
theorem run_equal_bool {P : Program} {w : World} {t : TypeId} (p q : Bool) (h : P.underlying t = some .bool) : (Op.equal t (.bool p) (.bool q)).run P w = .ok (p == q) w := run_equalIn_bool 9999 p q h
theorem run_equal_ptr_nil {P : Program} {w : World} {t u : TypeId} (a : Addr) (h : P.underlying t = some (.pointer u)) : (Op.equal t (.pointer (some a)) (.pointer none)).run P w = .ok false w := run_equalIn_ptr_nil 9999 a h
theorem run_equal_nil_nil {P : Program} {w : World} {t u : TypeId} (h : P.underlying t = some (.pointer u)) : (Op.equal t (.pointer none) (.pointer none)).run P w = .ok true w := run_equalIn_nil_nil 9999 h
theorem run_equal_slice_nil {P : Program} {w : World} {t e : TypeId} (A : Option Addr) (n c : Nat) (h : P.underlying t = some (.slice e)) : (Op.equal t (.slice A n c) (.slice none 0 0)).run P w = .ok A.isNone w := run_equalIn_slice_nil 9999 A n c h

theorem isSl_ty {P : Program} {t : TypeId} {E : Env} (hE : EnvT E P) (h : isSl (lkT E.tt t) = true) : ∃ te, P.underlying t = some (.slice te) := by
  cases hl : lkT E.tt t with
  | none => rw [hl] at h; cases h
  | some e =>
    rw [hl] at h
    cases e <;> try cases h
    obtain ⟨_, te, h2, _⟩ := hE.tt t _ hl
    exact ⟨te, h2⟩
theorem isPt_ty {P : Program} {t : TypeId} {E : Env} (hE : EnvT E P) (h : isPt (lkT E.tt t) = true) : ∃ te, P.underlying t = some (.pointer te) := by
  cases hl : lkT E.tt t with
  | none => rw [hl] at h; cases h
  | some e =>
    rw [hl] at h
    cases e <;> try cases h
    rename_i z
    cases z with
    | succ z => cases h
    | zero =>
      obtain ⟨_, d, h2, _, h3, _⟩ := hE.tt t _ hl
      obtain ⟨u, rfl⟩ := h3 rfl
      exact ⟨u, h2⟩
theorem isFnT_ty {P : Program} {t : TypeId} {E : Env} (hE : EnvT E P) (h : isFnT (lkT E.tt t) = true) : ∃ a b c, P.underlying t = some (.func a b c) := by
  cases hl : lkT E.tt t with
  | none => rw [hl] at h; cases h
  | some e =>
    rw [hl] at h
    cases e <;> try cases h
    rename_i z
    cases z with
    | zero => cases h
    | succ z => cases z with
      | succ z => cases h
      | zero =>
        obtain ⟨_, d, h2, _, _, h3⟩ := hE.tt t _ hl
        obtain ⟨a, b, c, rfl⟩ := h3.1 rfl
        exact ⟨a, b, c, h2⟩
theorem run_equalIn_fn_nil {P : Program} {w : World} {t : TypeId} {p q : Array TypeId} {v : Bool} (n : Nat) (f : Fn) (a c : Array Value) (h : P.underlying t = some (.func p q v)) : (Op.equalIn (n + 1) t (.func f a c) .nilFunc).run P w = .ok false w := by
  simp [Op.equalIn, run_underlying h]
theorem run_equal_fn_nil {P : Program} {w : World} {t : TypeId} {p q : Array TypeId} {v : Bool} (f : Fn) (a c : Array Value) (h : P.underlying t = some (.func p q v)) : (Op.equal t (.func f a c) .nilFunc).run P w = .ok false w := run_equalIn_fn_nil 9999 f a c h

theorem ex_binOp {op : BinOp} {t t' : TypeId} {x y : Operand} (hE : EnvT E X.P) (hq : EqLaw X (cx X ρ s.hp w)) (R : RR X ρ s a w) (ho : o.op = .binOp op t x y t') (h : pv E s.hp (opn s.fr) (.binOp op t x y t') C) :
    ∃ v z, C v ∧ Up X.P a o z w ∧ VR (cx X ρ s.hp w) v z := by
  simp only [pv] at h
  have hx := VR_opn R x
  have hy := VR_opn R y
  -- what is to be shown of the two values
  suffices H : ∃ v z, C v ∧ (∀ w : World, (eqGuard op t x y (a.eval x) (a.eval y)).run X.P w = .ok () w) ∧ (∀ w : World, (binOp op t (a.eval x) (a.eval y)).run X.P w = .ok z w) ∧ VR (cx X ρ s.hp w) v z by
    obtain ⟨v, z, h1, h2, h3, h4⟩ := H
    exact ⟨v, z, h1, fun w' _ => by simp [execOp, ho, Sem.run_bind, h2, h3], h4⟩
  generalize opn s.fr x = u at h hx
  generalize opn s.fr y = v at h hy
  generalize a.eval x = p at *
  generalize a.eval y = q at *
  unfold binAV at h
  split at h
  · -- whole numbers
    rename_i ka m kb n
    obtain ⟨rfl, wx⟩ := VR_int hx
    obtain ⟨rfl, wy⟩ := VR_int hy
    have hg := fun w : World => run_eqGuard_no (P := X.P) w op t x y (.int ka m) (.int kb n) (by simp) (by simp)
    split at h
    · obtain ⟨v, z, h1, h2, h3⟩ := run_shiftOp (P := X.P) w _ _ _ _ _ t C (cx X ρ s.hp w) wx h
      exact ⟨v, z, h1, hg, h2, h3⟩
    · obtain ⟨v, z, h1, h2, h3⟩ := run_shiftOp (P := X.P) w _ _ _ _ _ t C (cx X ρ s.hp w) wx h
      exact ⟨v, z, h1, hg, h2, h3⟩
    · by_cases e : ka = kb
      · subst e
        rw [decide_eq_true (rfl : ka = ka)] at h
        have h : intOp ka m n op C := h
        obtain ⟨v, z, h1, h2, h3⟩ := run_intOp (P := X.P) w _ _ _ _ t C (cx X ρ s.hp w) wx wy h
        exact ⟨v, z, h1, hg, h2, h3⟩
      · rw [decide_eq_false e] at h; exact h.elim
  · obtain rfl := VR_bool hx
    obtain rfl := VR_bool hy
    rename_i p q
    split at h
    · rename_i ht
      have hu := (hE.tt t _ ht).2
      have hg := fun w : World => run_eqGuard_no (P := X.P) w op t x y (.bool p) (.bool q) (by simp) (by simp)
      cases op <;> simp only [boolOp] at h <;> try exact h.elim
      · exact ⟨_, .bool (p == q), h, hg, fun w => by simp [binOp, Sem.run_bind, run_equal_bool p q hu], mkVR_bool _⟩
      · exact ⟨_, .bool (!(p == q)), h, hg, fun w => by simp [binOp, Sem.run_bind, run_equal_bool p q hu], mkVR_bool _⟩
    · exact h.elim
  · obtain ⟨rfl, wx⟩ := VR_str hx
    obtain ⟨rfl, wy⟩ := VR_str hy
    rename_i p q
    have hg := fun w : World => run_eqGuard_no (P := X.P) w op t x y (.string p) (.string q) (by simp) (by simp)
    cases op <;> simp only [strOp] at h <;> try exact h.elim
    · have hm : ¬ (((p.size + q.size : Nat) : Int) > IntKind.i64.max) := by
        simp only [IntKind.max, IntKind.signed, IntKind.bits]; have := h.1; simp; omega
      refine ⟨_, .string (p ++ q), h.2, hg, fun w => by simp only [binOp, Op.stringOp]; rw [if_neg hm]; rfl, ⟨⟨rfl, ?_⟩, rfl⟩⟩
      have := h.1
      simp only [ByteArray.size_append, maxLen]; omega
    · exact ⟨_, .bool (p.toList == q.toList), h, hg, fun w => by simp [binOp, Op.stringOp], mkVR_bool _⟩
    · exact ⟨_, .bool (!(p.toList == q.toList)), h, hg, fun w => by simp [binOp, Op.stringOp], mkVR_bool _⟩
  · rename_i l l'
    have key : ∀ (D : Bool → Prop), eqOp (lkT E.tt t) (.agg l) (.agg l') D → ∃ r, D r ∧ (∀ w : World, (eqGuard op t x y p q).run X.P w = .ok () w) ∧ (∀ w : World, (Op.equal t p q).run X.P w = .ok r w) := by
      intro D hD
      unfold eqOp at hD
      split at hD
      · rename_i e r ht he
        cases hf : (fits e (.agg l) && fits e (.agg l') && Nat.ble (depthT e) 100) with
        | false => rw [hf] at hD; exact hD.elim
        | true =>
          rw [hf] at hD
          rw [Bool.and_eq_true, Bool.and_eq_true] at hf
          have ha : aggTy e = true := by cases e <;> first | rfl | (have := hf.1.1; simp [fits] at this)
          have := fun w : World => hq e t _ _ p q r w (hE.tt t _ ht) hf.1.1 hf.1.2 ha (Nat.le_of_ble_eq_true hf.2) hx hy he
          exact ⟨r, hD, fun w => (this w).2 _ _ _, fun w => (this w).1⟩
      · exact hD.elim
    obtain ⟨xs, rfl, _⟩ := VR_agg hx
    obtain ⟨ys, rfl, _⟩ := VR_agg hy
    split at h
    · obtain ⟨r, h1, h2, h3⟩ := key _ h
      exact ⟨_, .bool r, h1, h2, fun w => by simp [binOp, Sem.run_bind, h3], mkVR_bool _⟩
    · obtain ⟨r, h1, h2, h3⟩ := key _ h
      exact ⟨_, .bool (!r), h1, h2, fun w => by simp [binOp, Sem.run_bind, h3], mkVR_bool _⟩
    · exact h.elim
  · rename_i n e xs n' e' ys
    have key : ∀ (D : Bool → Prop), eqOp (lkT E.tt t) (.arr n e xs) (.arr n' e' ys) D → ∃ r, D r ∧ (∀ w : World, (eqGuard op t x y p q).run X.P w = .ok () w) ∧ (∀ w : World, (Op.equal t p q).run X.P w = .ok r w) := by
      intro D hD
      unfold eqOp at hD
      split at hD
      · rename_i et r ht he
        cases hf : (fits et (.arr n e xs) && fits et (.arr n' e' ys) && Nat.ble (depthT et) 100) with
        | false => rw [hf] at hD; exact hD.elim
        | true =>
          rw [hf] at hD
          rw [Bool.and_eq_true, Bool.and_eq_true] at hf
          have ha : aggTy et = true := by cases et <;> first | rfl | (have := hf.1.1; simp [fits] at this)
          have := fun w : World => hq et t _ _ p q r w (hE.tt t _ ht) hf.1.1 hf.1.2 ha (Nat.le_of_ble_eq_true hf.2) hx hy he
          exact ⟨r, hD, fun w => (this w).2 _ _ _, fun w => (this w).1⟩
      · exact hD.elim
    obtain ⟨xs, rfl, _⟩ := VR_arr hx
    obtain ⟨ys, rfl, _⟩ := VR_arr hy
    split at h
    · obtain ⟨r, h1, h2, h3⟩ := key _ h
      exact ⟨_, .bool r, h1, h2, fun w => by simp [binOp, Sem.run_bind, h3], mkVR_bool _⟩
    · obtain ⟨r, h1, h2, h3⟩ := key _ h
      exact ⟨_, .bool (!r), h1, h2, fun w => by simp [binOp, Sem.run_bind, h3], mkVR_bool _⟩
    · exact h.elim
  · rename_i e0 xs
    cases ht : isSl (lkT E.tt t) with
    | false => rw [ht] at h; exact h.elim
    | true =>
      rw [ht] at h
      obtain ⟨te, hu⟩ := isSl_ty hE ht
      obtain ⟨A, n, rfl, hs⟩ := VR_ro hx
      obtain ⟨rfl, _⟩ := VR_con hy
      have hg := fun w : World => run_eqGuard_no (P := X.P) w op t x y (.slice A xs.length n) (.slice none 0 0) (by simp) (by simp)
      have hA : xs ≠ [] → A.isNone = false := fun hne => by obtain ⟨b, o, rfl, _⟩ := hs.2.2.2.2 hne; rfl
      cases op <;> try exact (show False from h).elim
      · exact ⟨_, .bool A.isNone, h A.isNone hA, hg, fun w => by simp [binOp, Sem.run_bind, run_equal_slice_nil A xs.length n hu], mkVR_bool _⟩
      · exact ⟨_, .bool (!A.isNone), h (!A.isNone) (fun hne => by rw [hA hne]; rfl), hg, fun w => by simp [binOp, Sem.run_bind, run_equal_slice_nil A xs.length n hu], mkVR_bool _⟩
  · cases ht : isSl (lkT E.tt t) with
    | false => rw [ht] at h; exact h.elim
    | true =>
      rw [ht] at h
      obtain ⟨te, hu⟩ := isSl_ty hE ht
      obtain ⟨rfl, _⟩ := VR_con hx
      obtain ⟨rfl, _⟩ := VR_con hy
      have hg := fun w : World => run_eqGuard_no (P := X.P) w op t x y (.slice none 0 0) (.slice none 0 0) (by simp) (by simp)
      cases op <;> try exact (show False from h).elim
      · exact ⟨_, .bool true, h, hg, fun w => by simp [binOp, Sem.run_bind, run_equal_slice_nil none 0 0 hu], mkVR_bool _⟩
      · exact ⟨_, .bool false, h, hg, fun w => by simp [binOp, Sem.run_bind, run_equal_slice_nil none 0 0 hu], mkVR_bool _⟩
  · cases ht : isPt (lkT E.tt t) with
    | false => rw [ht] at h; exact h.elim
    | true =>
      rw [ht] at h
      obtain ⟨te, hu⟩ := isPt_ty hE ht
      obtain ⟨off, _, _, rfl⟩ := VR_ptr hx
      obtain ⟨rfl, _⟩ := VR_con hy
      have hg := fun w : World => run_eqGuard_no (P := X.P) w op t x y (.pointer (some ⟨(cx X ρ s.hp w).ρ ‹_›, off, none⟩)) (.pointer none) (by simp) (by simp)
      cases op <;> try exact (show False from h).elim
      · exact ⟨_, .bool false, h, hg, fun w => by simp [binOp, Sem.run_bind, run_equal_ptr_nil _ hu], mkVR_bool _⟩
      · exact ⟨_, .bool true, h, hg, fun w => by simp [binOp, Sem.run_bind, run_equal_ptr_nil _ hu], mkVR_bool _⟩
  · cases ht : isPt (lkT E.tt t) with
    | false => rw [ht] at h; exact h.elim
    | true =>
      rw [ht] at h
      obtain ⟨te, hu⟩ := isPt_ty hE ht
      obtain ⟨rfl, _⟩ := VR_con hx
      obtain ⟨rfl, _⟩ := VR_con hy
      have hg := fun w : World => run_eqGuard_no (P := X.P) w op t x y (.pointer none) (.pointer none) (by simp) (by simp)
      cases op <;> try exact (show False from h).elim
      · exact ⟨_, .bool true, h, hg, fun w => by simp [binOp, Sem.run_bind, run_equal_nil_nil hu], mkVR_bool _⟩
      · exact ⟨_, .bool false, h, hg, fun w => by simp [binOp, Sem.run_bind, run_equal_nil_nil hu], mkVR_bool _⟩
  · rename_i f0 a0 c0
    cases ht : isFnT (lkT E.tt t) with
    | false => rw [ht] at h; exact h.elim
    | true =>
      rw [ht] at h
      obtain ⟨p, q, r, hu⟩ := isFnT_ty hE ht
      obtain ⟨a', d', rfl, _⟩ := VR_fn hx
      obtain ⟨rfl, _⟩ := VR_con hy
      have hg := fun w : World => run_eqGuard_no (P := X.P) w op t x y (.func f0 a' d') .nilFunc (by simp) (by simp)
      cases op <;> try exact (show False from h).elim
      · exact ⟨_, .bool false, h, hg, fun w => by simp [binOp, Sem.run_bind, run_equal_fn_nil f0 a' d' hu], mkVR_bool _⟩
      · exact ⟨_, .bool true, h, hg, fun w => by simp [binOp, Sem.run_bind, run_equal_fn_nil f0 a' d' hu], mkVR_bool _⟩
  · exact h.elim
end
end Go.Proofs.YtoihmfgkmndjfaaV
/- Typed data and values: what is unpacked reads as the data did; fields, elements and paths lie where the types say. -/
set_option linter.unusedVariables false
set_option linter.unusedSimpArgs false
namespace Go.Proofs.YtoihmfgkmndjfaaV
open Go.RowKit

mutual
theorem TyOk.wf {P : Program} : ∀ (e : Ty) (t : TypeId), TyOk P e t → WfT e
  | .int k, t, _ => trivial
  | .bool, t, _ => trivial
  | .str, t, _ => trivial
  | .unit, t, _ => trivial
  | .opq _, t, _ => trivial
  | .sl e, t, h => by obtain ⟨_, te, _, h⟩ := h; exact TyOk.wf e te h
  | .arr n e, t, h => by obtain ⟨_, te, _, h⟩ := h; exact TyOk.wf e te h
  | .pair a b, t, h => by
    obtain ⟨_, fs, _, _, f, r, _, _, _, h1, h2⟩ := h
    exact ⟨TyOk.wf a _ h1, FsOk.chain b _ _ h2, FsOk.wf b _ _ h2⟩
theorem FsOk.chain {P : Program} : ∀ (e : Ty) (fs : List Field) (o : Nat), FsOk P e fs o → chain e
  | .pair a b, fs, o, _ => trivial
  | .unit, fs, o, _ => trivial
theorem FsOk.wf {P : Program} : ∀ (e : Ty) (fs : List Field) (o : Nat), FsOk P e fs o → WfT e
  | .pair a b, fs, o, h => by
    obtain ⟨f, r, _, _, _, h1, h2⟩ := h
    exact ⟨TyOk.wf a _ h1, FsOk.chain b _ _ h2, FsOk.wf b _ _ h2⟩
  | .unit, fs, o, _ => trivial
end

mutual
theorem CR_unpack (c : Cx) : ∀ (e : Ty) (x : e.den) (vs : List Value), WfT e → Enc c.ok c.w e x vs → CR c (unpack e x) vs
  | .int k, n, vs, _, h => h
  | .bool, b, vs, _, h => h
  | .str, s, vs, _, h => h
  | .unit, _, vs, _, h => h
  | .pair a b, x, vs, hw, h => by
    obtain ⟨u, v, rfl, h1, h2⟩ := h
    exact ⟨u, v, rfl, CR_unpack c a x.1 u hw.1 h1, CRs_fieldsOf c b x.2 v hw.2.1 hw.2.2 h2⟩
  | .sl e, xs, vs, _, h => h
  | .arr n e, xs, vs, _, h => h
  | .opq _, _, vs, _, h => h.elim
theorem CRs_fieldsOf (c : Cx) : ∀ (e : Ty) (x : e.den) (vs : List Value), chain e → WfT e → Enc c.ok c.w e x vs → CRs c (fieldsOf e x) vs
  | .pair a b, x, vs, _, hw, h => by
    obtain ⟨u, v, rfl, h1, h2⟩ := h
    exact ⟨u, v, rfl, CR_unpack c a x.1 u hw.1 h1, CRs_fieldsOf c b x.2 v hw.2.1 hw.2.2 h2⟩
  | .unit, _, vs, _, _, h => h
end

theorem aggAV_unpack : ∀ (e : Ty) (x : e.den), aggAV (unpack e x) = aggTy e := by
  intro e x; cases e <;> rfl

mutual
theorem CR_length {c : Cx} : ∀ (e : Ty) (v : AV) (vs : List Value), Shp e v → CR c v vs → vs.length = e.size
  | .int k, .int k' n, vs, _, h => by obtain ⟨rfl, _⟩ := h; rfl
  | .bool, .bool b, vs, _, h => by have h : vs = _ := h; subst h; rfl
  | .str, .str s, vs, _, h => by obtain ⟨rfl, _⟩ := h; rfl
  | .sl e, .ro e' xs, vs, _, h => Enc_length (.sl e') xs vs h
  | .sl e, .con v, vs, _, h => by obtain ⟨rfl, _⟩ := h; rfl
  | .sl e, .own id, vs, _, h => by
    have h : OwnV c id vs := h
    unfold OwnV at h
    split at h
    · obtain ⟨A, n, rfl, _⟩ := h; rfl
    · exact h.elim
  | .sl e, .vsl id n, vs, _, h => by obtain ⟨_, _, rfl⟩ := h; rfl
  | .sl e, .vw id l hi, vs, _, h => by
    have h : VwV c id l hi vs := h
    unfold VwV at h
    split at h
    · obtain ⟨_, A, n, rfl, _⟩ := h; rfl
    · exact h.elim
  | .sl e, .dead, vs, _, h => by obtain ⟨x, rfl⟩ := h; rfl
  | .unit, .agg [], vs, _, h => by have h : vs = [] := h; subst h; rfl
  | .pair a b, .agg (v :: l), vs, hs, h => by
    obtain ⟨u, z, rfl, h1, h2⟩ := h
    rw [List.length_append, CR_length a v u hs.1 h1, CRs_length b l z hs.2 h2]; rfl
  | .arr n e, .arr n' e' xs, vs, hs, h => by obtain ⟨rfl, rfl⟩ := hs; exact Enc_length (.arr n' e') xs vs h
  | .opq _, .ptr _ _, vs, _, h => by obtain ⟨off, t, _, rfl⟩ := h; rfl
  | .opq _, .fn _ _ _, vs, _, h => by obtain ⟨a, d, rfl, _⟩ := h; rfl
  | .opq _, .con v, vs, _, h => by obtain ⟨rfl, _⟩ := h; rfl
  | .opq _, .dead, vs, _, h => by obtain ⟨x, rfl⟩ := h; rfl
theorem CRs_length {c : Cx} : ∀ (e : Ty) (l : List AV) (vs : List Value), Shps e l → CRs c l vs → vs.length = e.size
  | .pair a b, v :: l, vs, hs, h => by
    obtain ⟨u, z, rfl, h1, h2⟩ := h
    rw [List.length_append, CR_length a v u hs.1 h1, CRs_length b l z hs.2 h2]; rfl
  | .unit, [], vs, _, h => by have h : vs = [] := h; subst h; rfl
end

mutual
theorem Shp_of_fits : ∀ (e : Ty) (v : AV), fits e v = true → Shp e v
  | .int k, .int k' n, h => by have h : (k == k') = true := h; exact (beq_iff_eq.1 h).symm
  | .bool, .bool b, _ => trivial
  | .str, .str s, _ => trivial
  | .sl e, .ro e' xs, h => by have h : decide (e' = e) = true := h; exact (of_decide_eq_true h : e' = e)
  | .sl e, .con _, _ => trivial
  | .sl e, .own _, _ => trivial
  | .sl e, .vsl _ _, _ => trivial
  | .sl e, .vw _ _ _, _ => trivial
  | .unit, .agg [], _ => trivial
  | .pair a b, .agg (v :: l), h => by
    have h : (fits a v && fitss b l) = true := h
    rw [Bool.and_eq_true] at h
    exact ⟨Shp_of_fits a v h.1, Shps_of_fitss b l h.2⟩
  | .arr n e, .arr n' e' xs, h => by
    have h : (n' == n && decide (e' = e)) = true := h
    rw [Bool.and_eq_true] at h
    exact ⟨beq_iff_eq.1 h.1, of_decide_eq_true h.2⟩
  | .opq _, .ptr _ _, _ => trivial
  | .opq _, .fn _ _ _, _ => trivial
  | .opq _, .con _, _ => trivial
theorem Shps_of_fitss : ∀ (e : Ty) (l : List AV), fitss e l = true → Shps e l
  | .pair a b, v :: l, h => by
    have h : (fits a v && fitss b l) = true := h
    rw [Bool.and_eq_true] at h
    exact ⟨Shp_of_fits a v h.1, Shps_of_fitss b l h.2⟩
  | .unit, [], _ => trivial
end

mutual
theorem Shp_unpack : ∀ (e : Ty) (x : e.den), WfT e → Shp e (unpack e x)
  | .int k, n, _ => rfl
  | .bool, b, _ => trivial
  | .str, s, _ => trivial
  | .unit, _, _ => trivial
  | .pair a b, x, hw => ⟨Shp_unpack a x.1 hw.1, Shps_fieldsOf b x.2 hw.2.1 hw.2.2⟩
  | .sl e, xs, _ => rfl
  | .arr n e, xs, _ => ⟨rfl, rfl⟩
  | .opq _, _, _ => trivial
theorem Shps_fieldsOf : ∀ (e : Ty) (x : e.den), chain e → WfT e → Shps e (fieldsOf e x)
  | .pair a b, x, _, hw => ⟨Shp_unpack a x.1 hw.1, Shps_fieldsOf b x.2 hw.2.1 hw.2.2⟩
  | .unit, _, _, _ => trivial
end

/-! ### Paths -/
theorem EncL_at {α : Type} {E : α → List Value → Prop} {m : Nat} (h : ∀ x vs, E x vs → vs.length = m) : ∀ (xs : List α) (vs : List Value), EncL E xs vs → ∀ i (hi : i < xs.length),
    ∃ l, E xs[i] l ∧ l.length = m ∧ ∀ j, j < m → vs[i * m + j]? = l[j]?
  | [], vs, e, i, hi => by simp at hi
  | x :: xs, vs, e, i, hi => by
    obtain ⟨u, v, rfl, hu, hv⟩ := e
    have hl := h _ _ hu
    cases i with
    | zero =>
      refine ⟨u, hu, hl, fun j hj => ?_⟩
      rw [Nat.zero_mul, Nat.zero_add, List.getElem?_append_left (by omega)]
    | succ i =>
      obtain ⟨l, h1, h2, h3⟩ := EncL_at h xs v hv i (by simpa using hi)
      refine ⟨l, h1, h2, fun j hj => ?_⟩
      rw [List.getElem?_append_right (by rw [hl, Nat.add_mul]; omega), hl, show (i + 1) * m + j - m = i * m + j by rw [Nat.add_mul]; omega]
      exact h3 j hj

theorem flds {c : Cx} : ∀ (e : Ty) (l : List AV) (vs : List Value) (i o : Nat) (t : Ty) (v : AV), Shps e l → WfT e → CRs c l vs → fldT e i = some (o, t) → l[i]? = some v →
    Shp t v ∧ WfT t ∧ ∃ m : List Value, CR c v m ∧ m.length = t.size ∧ ∀ j, j < t.size → vs[o + j]? = m[j]?
  | .pair a b, u :: l, vs, 0, o, t, v, hs, hw, hc, hf, hv => by
    have hf : some (0, a) = some (o, t) := hf
    have hv : some u = some v := hv
    cases hf; cases hv
    obtain ⟨p, q, rfl, h1, h2⟩ := hc
    have hl := CR_length _ _ _ hs.1 h1
    exact ⟨hs.1, hw.1, p, h1, hl, fun j hj => by rw [Nat.zero_add, List.getElem?_append_left (by omega)]⟩
  | .pair a b, u :: l, vs, i + 1, o, t, v, hs, hw, hc, hf, hv => by
    obtain ⟨p, q, rfl, h1, h2⟩ := hc
    have hl := CR_length _ _ _ hs.1 h1
    simp only [fldT] at hf
    split at hf
    · rename_i o' t' hf'
      cases hf
      obtain ⟨g1, g2, m, g3, g4, g5⟩ := flds b l q i o' t v hs.2 hw.2.2 h2 hf' (by simpa using hv)
      refine ⟨g1, g2, m, g3, g4, fun j hj => ?_⟩
      rw [List.getElem?_append_right (by omega), hl, show a.size + o' + j - a.size = o' + j by omega]
      exact g5 j hj
    · cases hf
  | .unit, [], vs, i, o, t, v, hs, hw, hc, hf, hv => by cases hv

theorem getA_cells {c : Cx} : ∀ (p : List Step) (e : Ty) (v : AV) (vs : List Value) (off : Nat) (t : Ty) (u : AV), Shp e v → WfT e → CR c v vs → pathT e p = some (off, t) → getA v p = some u →
    Shp t u ∧ WfT t ∧ ∃ m : List Value, CR c u m ∧ m.length = t.size ∧ ∀ j, j < t.size → vs[off + j]? = m[j]?
  | [], e, v, vs, off, t, u, hs, hw, hc, hp, hg => by
    simp only [pathT, Option.some.injEq, Prod.mk.injEq] at hp
    simp only [getA, Option.some.injEq] at hg
    obtain ⟨rfl, rfl⟩ := hp
    subst hg
    exact ⟨hs, hw, vs, hc, CR_length _ _ _ hs hc, fun j hj => by rw [Nat.zero_add]⟩
  | .fld i :: p, e, v, vs, off, t, u, hs, hw, hc, hp, hg => by
    simp only [pathT] at hp
    split at hp
    · rename_i o1 t1 hf
      split at hp
      · rename_i o2 t2 hp2
        simp only [Option.some.injEq, Prod.mk.injEq] at hp
        obtain ⟨rfl, rfl⟩ := hp
        cases v <;> simp only [getA] at hg <;> try cases hg
        rename_i l
        split at hg
        · rename_i v1 hv1
          have hss : Shps e l := by
            cases e <;> cases l <;> first | exact hs | (simp [fldT] at hf; done) | exact hs.elim
          obtain ⟨g1, g2, m, g3, g4, g5⟩ := flds e l vs i o1 t1 v1 hss hw hc hf hv1
          obtain ⟨k1, k2, m', k3, k4, k5⟩ := getA_cells p t1 v1 m o2 _ u g1 g2 g3 hp2 hg
          refine ⟨k1, k2, m', k3, k4, fun j hj => ?_⟩
          rw [← k5 j hj]
          have hj' : o2 + j < t1.size := by
            rcases Nat.lt_or_ge (o2 + j) m.length with h | h
            · omega
            · have h3 := k5 j hj
              rw [List.getElem?_eq_none h, List.getElem?_eq_getElem (by omega)] at h3
              cases h3
          rw [← g5 (o2 + j) hj', Nat.add_assoc]
        · cases hg
      · cases hp
    · cases hp
  | .at i :: p, e, v, vs, off, t, u, hs, hw, hc, hp, hg => by
    cases e <;> simp only [pathT] at hp <;> try cases hp
    rename_i n e
    split at hp
    · rename_i hr
      split at hp
      · rename_i o2 t2 hp2
        simp only [Option.some.injEq, Prod.mk.injEq] at hp
        obtain ⟨rfl, rfl⟩ := hp
        cases v <;> simp only [getA] at hg <;> try cases hg
        rename_i n' e' xs
        obtain ⟨rfl, rfl⟩ := hs
        obtain ⟨hn, hE⟩ := hc
        have hi : i.toNat < xs.length := by omega
        obtain ⟨l, h1, h2, h3⟩ := EncL_at (fun x vs h => Enc_length e' x vs h) xs vs hE i.toNat hi
        have hx : xs.getD i.toNat e'.dfl = xs[i.toNat] := by simp [List.getD_eq_getElem?_getD, List.getElem?_eq_getElem hi]
        rw [hx] at hg
        obtain ⟨k1, k2, m', k3, k4, k5⟩ := getA_cells p e' _ l o2 _ u (Shp_unpack e' _ hw) hw (CR_unpack c e' _ l hw h1) hp2 hg
        refine ⟨k1, k2, m', k3, k4, fun j hj => ?_⟩
        rw [← k5 j hj]
        have hj' : o2 + j < e'.size := by
          rcases Nat.lt_or_ge (o2 + j) l.length with h | h
          · omega
          · have h3 := k5 j hj
            rw [List.getElem?_eq_none h, List.getElem?_eq_getElem (by omega)] at h3
            cases h3
        rw [← h3 (o2 + j) hj', Nat.add_assoc]
      · cases hp
    · cases hp
end Go.Proofs.YtoihmfgkmndjfaaV
/- The operations of the VC evaluator that write nothing, the rest: addresses, loads, cuts, lengths, conversions. -/
set_option linter.unusedVariables false
set_option linter.unusedSimpArgs false
namespace Go.Proofs.YtoihmfgkmndjfaaV
open Go.RowKit

theorem ptyT_of_pathT : ∀ (p : List Step) (e : Ty) (off : Nat) (t : Ty), pathT e p = some (off, t) → ptyT e p = some t
  | [], e, off, t, h => by simp only [pathT, Option.some.injEq, Prod.mk.injEq] at h; simp [ptyT, h.2]
  | .fld i :: p, e, off, t, h => by
    simp only [pathT] at h
    split at h
    · rename_i o u hf
      split at h
      · rename_i o' v hp
        simp only [Option.some.injEq, Prod.mk.injEq] at h
        obtain ⟨_, rfl⟩ := h
        have : ∀ (e : Ty) (i o : Nat) (u : Ty), fldT e i = some (o, u) → ftyT e i = some u := by
          intro e
          induction e with
          | pair a b _ ih =>
            intro i o u h
            cases i with
            | zero => simp only [fldT, Option.some.injEq, Prod.mk.injEq] at h; simp [ftyT, h.2]
            | succ i =>
              simp only [fldT] at h
              split at h
              · rename_i o' t' h'
                simp only [Option.some.injEq, Prod.mk.injEq] at h
                obtain ⟨_, rfl⟩ := h
                exact ih i _ _ h'
              · cases h
          | _ => intro i o u h; simp [fldT] at h
        simp only [ptyT, this _ _ _ _ hf]
        exact ptyT_of_pathT p u _ _ hp
      · cases h
    · cases h
  | .at i :: p, e, off, t, h => by
    cases e <;> simp only [pathT] at h <;> try cases h
    split at h
    · split at h
      · rename_i o' v hp
        simp only [Option.some.injEq, Prod.mk.injEq] at h
        obtain ⟨_, rfl⟩ := h
        simp only [ptyT]
        exact ptyT_of_pathT p _ _ _ hp
      · cases h
    · cases h
theorem ptyB_of_pathB {b : Blk} {p : List Step} {off : Nat} {t : Ty} (h : pathB b p = some (off, t)) : ptyB b p = some t := by
  cases b with
  | none => simp [pathB] at h
  | var e v f => exact ptyT_of_pathT p e off t h
  | row te e xs f =>
    cases p with
    | nil => simp [pathB] at h
    | cons s p =>
      cases s with
      | fld i => simp [pathB] at h
      | «at» i =>
        simp only [pathB] at h
        split at h
        · split at h
          · rename_i o' v hp
            simp only [Option.some.injEq, Prod.mk.injEq] at h
            obtain ⟨_, rfl⟩ := h
            exact ptyT_of_pathT p _ _ _ hp
          · cases h
        · cases h

theorem pathT_snoc (q : Step) : ∀ (p : List Step) (e : Ty) (off : Nat) (t : Ty), pathT e p = some (off, t) → ∀ o u, pathT t [q] = some (o, u) → pathT e (p ++ [q]) = some (off + o, u)
  | [], e, off, t, h, o, u, hq => by
    simp only [pathT, Option.some.injEq, Prod.mk.injEq] at h
    obtain ⟨rfl, rfl⟩ := h
    rw [List.nil_append, hq, Nat.zero_add]
  | .fld i :: p, e, off, t, h, o, u, hq => by
    simp only [pathT] at h
    split at h
    · rename_i o1 t1 hf
      split at h
      · rename_i o' v hp
        simp only [Option.some.injEq, Prod.mk.injEq] at h
        obtain ⟨rfl, rfl⟩ := h
        rw [List.cons_append]
        simp only [pathT, hf, pathT_snoc q p t1 o' _ hp o u hq]
        rw [Nat.add_assoc]
      · cases h
    · cases h
  | .at i :: p, e, off, t, h, o, u, hq => by
    cases e <;> simp only [pathT] at h <;> try cases h
    split at h
    · rename_i hr
      split at h
      · rename_i o' v hp
        simp only [Option.some.injEq, Prod.mk.injEq] at h
        obtain ⟨rfl, rfl⟩ := h
        rw [List.cons_append]
        simp only [pathT, pathT_snoc q p _ o' _ hp o u hq, if_pos hr]
        rw [Nat.add_assoc]
      · cases h
    · cases h
theorem pathB_snoc {b : Blk} {q : Step} {p : List Step} {off : Nat} {t : Ty} (h : pathB b p = some (off, t)) {o : Nat} {u : Ty} (hq : pathT t [q] = some (o, u)) : pathB b (p ++ [q]) = some (off + o, u) := by
  cases b with
  | none => simp [pathB] at h
  | var e v f => exact pathT_snoc q p e off t h o u hq
  | row te e xs f =>
    cases p with
    | nil => simp [pathB] at h
    | cons s p =>
      cases s with
      | fld i => simp [pathB] at h
      | «at» i =>
        simp only [pathB] at h
        split at h
        · rename_i hr
          split at h
          · rename_i o' v hp
            simp only [Option.some.injEq, Prod.mk.injEq] at h
            obtain ⟨rfl, rfl⟩ := h
            rw [List.cons_append]
            simp only [pathB, pathT_snoc q p _ o' _ hp o u hq, if_pos hr]
            rw [Nat.add_assoc]
          · cases h
        · cases h

/-- A struct type's field, by its place. -/
theorem FsOk_at {P : Program} : ∀ (e : Ty) (fs : List Field) (o i : Nat) (off : Nat) (t : Ty), FsOk P e fs o → fldT e i = some (off, t) →
    ∃ f, fs[i]? = some f ∧ f.offset = o + off ∧ TyOk P t f.type
  | .pair a b, fs, o, 0, off, t, h, hf => by
    obtain ⟨f, r, rfl, h1, _, h2, _⟩ := h
    simp only [fldT, Option.some.injEq, Prod.mk.injEq] at hf
    obtain ⟨rfl, rfl⟩ := hf
    exact ⟨f, rfl, h1, h2⟩
  | .pair a b, fs, o, i + 1, off, t, h, hf => by
    obtain ⟨f, r, rfl, h1, _, _, h2⟩ := h
    simp only [fldT] at hf
    split at hf
    · rename_i o' t' hf'
      simp only [Option.some.injEq, Prod.mk.injEq] at hf
      obtain ⟨rfl, rfl⟩ := hf
      obtain ⟨g, g1, g2, g3⟩ := FsOk_at b r (o + a.size) i o' _ h2 hf'
      exact ⟨g, g1, by rw [g2, Nat.add_assoc], g3⟩
    · cases hf
theorem TyOk_at {P : Program} {e : Ty} {t : TypeId} {i off : Nat} {u : Ty} (h : TyOk P e t) (hf : fldT e i = some (off, u)) :
    ∃ fs f, P.underlying t = some (.struct fs) ∧ fs[i]? = some f ∧ f.offset = off ∧ TyOk P u f.type := by
  cases e with
  | pair a b =>
    obtain ⟨_, fs, h1, _, f, r, h3, h4, h5, h6, h7⟩ := h
    have hF : FsOk P (.pair a b) fs.toList 0 := ⟨f, r, h3, h4, h5, h6, by rw [Nat.zero_add]; exact h7⟩
    obtain ⟨g, g1, g2, g3⟩ := FsOk_at _ _ 0 i off u hF hf
    exact ⟨fs, g, h1, by simpa using g1, by omega, g3⟩
  | _ => simp [fldT] at hf

theorem ftyT_fldT : ∀ (e : Ty) (i : Nat) (u : Ty), ftyT e i = some u → ∃ o, fldT e i = some (o, u)
  | .pair a b, 0, u, h => by simp only [ftyT, Option.some.injEq] at h; subst h; exact ⟨0, rfl⟩
  | .pair a b, i + 1, u, h => by
    obtain ⟨o, ho⟩ := ftyT_fldT b i u h
    exact ⟨a.size + o, by simp [fldT, ho]⟩
  | .int _, i, u, h => by cases h
  | .bool, i, u, h => by cases h
  | .str, i, u, h => by cases h
  | .unit, i, u, h => by cases h
  | .sl _, i, u, h => by cases h
  | .arr _ _, i, u, h => by cases h
  | .opq _, i, u, h => by cases h

theorem run_sizeOf_ty {P : Program} {e : Ty} {t : TypeId} (h : TyOk P e t) (w : World) : (sizeOf t).run P w = .ok e.size w := by
  obtain ⟨i, h1, h2, _⟩ := h.base
  simp [sizeOf, typeInfo, Sem.run_bind, h1, h2]
theorem run_isAgg_ty {P : Program} {e : Ty} {t : TypeId} (h : TyOk P e t) (w : World) : (Go.isAgg t).run P w = .ok (aggTy e) w := by
  obtain ⟨d, h1, h2⟩ := h.row
  unfold Go.isAgg
  rw [Sem.run_bind, run_underlying h1 w, ← h2]
  cases d <;> simp
theorem info_size {P : Program} {e : Ty} {t : TypeId} (h : TyOk P e t) : (P.info? t).map (·.size) = some e.size := by
  obtain ⟨i, h1, h2, _⟩ := h.base
  simp [h1, h2]

/-- A variable of this type, whose cells are these, read. -/
theorem run_loadVar_ty {P : Program} {e : Ty} {t : TypeId} (h : TyOk P e t) (w : World) (b o : Nat) (l : List Value) (hl : l.length = e.size) (hr : ∀ j, j < e.size → w.cell? ⟨b, o + j, none⟩ = l[j]?) :
    (loadVar t ⟨b, o, none⟩).run P w = .ok (if aggTy e then .agg l.toArray else l.headD undef) w := by
  cases ha : aggTy e with
  | true =>
    obtain ⟨d, h1, h2⟩ := h.row
    rw [run_loadVar_mid w b o t l d (fun j v hj => ?_) h1 (by rw [h2, ha]) (by rw [info_size h, hl])]
    · rfl
    · have hlt : j < l.length := by
        rcases Nat.lt_or_ge j l.length with h | h
        · exact h
        · rw [List.getElem?_eq_none h] at hj; cases hj
      rw [hr j (by omega)]; exact hj
  | false =>
    have hs : e.size = 1 := by cases e <;> first | rfl | cases ha
    have h0 := hr 0 (by omega)
    cases l with
    | nil => simp at hl; omega
    | cons x r =>
      have h0 : w.cell? ⟨b, o, none⟩ = some x := by simpa using h0
      simp [loadVar, Sem.run_bind, run_isAgg_ty h, ha, load, Sem.run, h0]

theorem simpleV_leaf {v : Value} (h : simpleV v) : vAgg v = false := by
  cases v <;> first | rfl | exact h.elim

theorem VR_of_CR {c : Cx} : ∀ {e : Ty} {v : AV} {l : List Value}, Shp e v → CR c v l → VR c v (if aggTy e then .agg l.toArray else l.headD undef)
  | .int k, .int k' n, l, _, h => by obtain ⟨rfl, hw⟩ := h; exact ⟨⟨rfl, hw⟩, rfl⟩
  | .bool, .bool b, l, _, h => by have h : l = _ := h; subst h; exact ⟨rfl, rfl⟩
  | .str, .str s, l, _, h => by obtain ⟨rfl, hw⟩ := h; exact ⟨⟨rfl, hw⟩, rfl⟩
  | .sl e, .ro e' xs, l, _, h => by obtain ⟨A, n, rfl, hs⟩ := h; exact ⟨⟨A, n, rfl, hs⟩, rfl⟩
  | .sl e, .con v, l, _, h => by
    obtain ⟨rfl, hv⟩ := h
    have hl := simpleV_leaf hv
    refine ⟨⟨?_, hv⟩, hl.symm⟩
    show (v.cells).toList = [v]
    cases v <;> first | rfl | cases hl
  | .sl e, .own id, l, _, h => by
    have h' : OwnV c id l := h
    unfold OwnV at h'
    split at h'
    · obtain ⟨A, n, rfl, _⟩ := h'; exact ⟨h, rfl⟩
    · exact h'.elim
  | .sl e, .vsl id n, l, _, h => by obtain ⟨h1, h2, rfl⟩ := h; exact ⟨⟨h1, h2, rfl⟩, rfl⟩
  | .sl e, .vw id l1 l2, l, _, h => by
    have h' : VwV c id l1 l2 l := h
    unfold VwV at h'
    split at h'
    · obtain ⟨_, A, n, rfl, _⟩ := h'; exact ⟨h, rfl⟩
    · exact h'.elim
  | .sl e, .dead, l, _, h => trivial
  | .unit, .agg [], l, _, h => ⟨by simpa [aggTy, Value.cells] using h, rfl⟩
  | .pair a b, .agg (v :: r), l, _, h => ⟨by simpa [aggTy, Value.cells] using h, rfl⟩
  | .arr n e, .arr n' e' xs, l, _, h => ⟨by simpa [aggTy, Value.cells] using h, rfl⟩
  | .opq _, .ptr _ _, l, _, h => by obtain ⟨off, t, h1, rfl⟩ := h; exact ⟨⟨off, t, h1, rfl⟩, rfl⟩
  | .opq _, .fn _ _ _, l, _, h => by obtain ⟨a, d, rfl, h1⟩ := h; exact ⟨⟨a, d, rfl, h1⟩, rfl⟩
  | .opq _, .con v, l, _, h => by
    obtain ⟨rfl, hv⟩ := h
    have hl := simpleV_leaf hv
    refine ⟨⟨?_, hv⟩, hl.symm⟩
    show (v.cells).toList = [v]
    cases v <;> first | rfl | cases hl
  | .opq _, .dead, l, _, h => trivial
end Go.Proofs.YtoihmfgkmndjfaaV
/- The operations of the VC evaluator that write nothing, at the machine: addresses, loads, cuts, lengths, conversions. -/
set_option linter.unusedVariables false
set_option linter.unusedSimpArgs false
namespace Go.Proofs.YtoihmfgkmndjfaaV
open Go.RowKit

theorem run_fieldAt_ty {P : Program} {e : Ty} {t : TypeId} {i off : Nat} {u : Ty} (h : TyOk P e t) (hf : fldT e i = some (off, u)) (hu : u.size ≠ 0) (w : World) (b o : Nat) :
    (Instr.fieldAt t (.pointer (some ⟨b, o, none⟩)) i).run P w = .ok (.pointer (some ⟨b, o + off, none⟩)) w := by
  obtain ⟨fs, f, h1, h2, h3, h4⟩ := TyOk_at h hf
  simp [Instr.fieldAt, Sem.run_bind, run_underlying h1, h2, Instr.sureAddr, fieldPlace, run_sizeOf_ty h4, hu, Addr.add_mid, h3]

theorem cond_elim {b : Bool} {A : Prop} (h : cond b A False) : b = true ∧ A := by
  cases b with
  | true => exact ⟨rfl, h⟩
  | false => exact h.elim

section
variable {E : Env} {X : Fix} {ρ : Nat → Nat} {s : St} {a : Act} {w : World} {C : AV → Prop} {o : Oper}

theorem prj_cells {ok : Nat → Prop} {W : World} : ∀ (e : Ty) (x : e.den) (vs : List Value) (i : Nat) (r : Sigma Ty.den) (off : Nat) (u : Ty), Enc ok W e x vs → prj e x i = some r → fldT e i = some (off, u) →
    r.1 = u ∧ ∃ m : List Value, Enc ok W r.1 r.2 m ∧ m.length = r.1.size ∧ ∀ j, j < r.1.size → vs[off + j]? = m[j]?
  | .pair a b, x, vs, 0, r, off, u, h, hp, hf => by
    obtain ⟨p, q, rfl, h1, h2⟩ := h
    simp only [prj, Option.some.injEq] at hp
    simp only [fldT, Option.some.injEq, Prod.mk.injEq] at hf
    subst hp
    obtain ⟨rfl, rfl⟩ := hf
    have hl := Enc_length _ _ _ h1
    exact ⟨rfl, p, h1, hl, fun j hj => by rw [Nat.zero_add, List.getElem?_append_left (by rw [hl]; exact hj)]⟩
  | .pair a b, x, vs, i + 1, r, off, u, h, hp, hf => by
    obtain ⟨p, q, rfl, h1, h2⟩ := h
    have hl := Enc_length _ _ _ h1
    simp only [prj] at hp
    simp only [fldT] at hf
    split at hf
    · rename_i o' t' hf'
      simp only [Option.some.injEq, Prod.mk.injEq] at hf
      obtain ⟨rfl, rfl⟩ := hf
      obtain ⟨g1, m, g2, g3, g4⟩ := prj_cells b x.2 q i r o' _ h2 hp hf'
      refine ⟨g1, m, g2, g3, fun j hj => ?_⟩
      rw [List.getElem?_append_right (by omega), hl, show a.size + o' + j - a.size = o' + j by omega]
      exact g4 j hj
    · cases hf
  | .int _, _, _, _, _, _, _, _, hp, _ => by cases hp
  | .bool, _, _, _, _, _, _, _, hp, _ => by cases hp
  | .str, _, _, _, _, _, _, _, hp, _ => by cases hp
  | .unit, _, _, _, _, _, _, _, hp, _ => by cases hp
  | .sl _, _, _, _, _, _, _, _, hp, _ => by cases hp
  | .arr _ _, _, _, _, _, _, _, _, hp, _ => by cases hp
  | .opq _, _, _, _, _, _, _, h, _, _ => h.elim
theorem prj_fty : ∀ (e : Ty) (x : e.den) (i : Nat) (r : Sigma Ty.den), prj e x i = some r → ftyT e i = some r.1
  | .pair a b, x, 0, r, h => by simp only [prj, Option.some.injEq] at h; subst h; rfl
  | .pair a b, x, i + 1, r, h => prj_fty b x.2 i r h
  | .int _, _, _, _, h => by cases h
  | .bool, _, _, _, h => by cases h
  | .str, _, _, _, h => by cases h
  | .unit, _, _, _, h => by cases h
  | .sl _, _, _, _, h => by cases h
  | .arr _ _, _, _, _, h => by cases h
  | .opq _, _, _, _, h => by cases h

theorem ex_fieldAddr {t : TypeId} {x : Operand} {i : Nat} (hE : EnvT E X.P) (R : RR X ρ s a w) (ho : o.op = .fieldAddr t x i) (h : pv E s.hp (opn s.fr) (.fieldAddr t x i) C) :
    ∃ v z, C v ∧ Up X.P a o z w ∧ VR (cx X ρ s.hp w) v z := by
  simp only [pv] at h
  have hx := VR_opn R x
  generalize opn s.fr x = va at h hx
  split at h
  · rename_i id p e ht
    split at h
    · rename_i e' u h1 h2
      obtain ⟨h3, hC⟩ := cond_elim h
      rw [Bool.and_eq_true] at h3
      obtain rfl := of_decide_eq_true h3.1
      have hu : u.size ≠ 0 := by
        intro h0; rw [h0] at h3; simp at h3
      obtain ⟨off, t', k1, k2⟩ := VR_ptr hx
      have k3 : ptyB (lkb s.hp id) p = some t' := ptyB_of_pathB k1
      rw [h1] at k3; cases k3
      obtain ⟨o1, ho1⟩ := ftyT_fldT _ _ _ h2
      refine ⟨_, .pointer (some ⟨ρ id, off + o1, none⟩), hC, ?_, ⟨⟨off + o1, u, pathB_snoc k1 (by simp [pathT, ho1]), rfl⟩, rfl⟩⟩
      intro w' _
      simp only [execOp, ho, k2, Sem.run_bind]
      rw [show (cx X ρ s.hp w).ρ id = ρ id from rfl, run_fieldAt_ty (hE.tt t _ ht) ho1 hu]
      rfl
    · exact h.elim
  · rename_i e' y e ht
    split at h
    · rename_i u z hp
      obtain ⟨h3, hC⟩ := cond_elim h
      rw [Bool.and_eq_true] at h3
      obtain rfl := of_decide_eq_true h3.1
      have hu : u.size ≠ 0 := by
        intro h0; rw [h0] at h3; simp at h3
      obtain ⟨b, off, k2, k4, cs, k5, k6, k7⟩ := VR_rop hx
      obtain ⟨o1, ho1⟩ := ftyT_fldT _ _ _ (prj_fty _ _ _ _ hp)
      obtain ⟨_, m, g2, g3, g4⟩ := prj_cells _ _ _ _ _ _ _ k7 hp ho1
      refine ⟨_, .pointer (some ⟨b, off + o1, none⟩), hC, ?_, ⟨⟨b, off + o1, rfl, k4, m, g3, fun j hj => ?_, g2⟩, rfl⟩⟩
      · intro w' _
        simp only [execOp, ho, k2, Sem.run_bind]
        rw [run_fieldAt_ty (hE.tt t _ ht) ho1 hu]
        rfl
      · rw [← g4 j hj, Nat.add_assoc]
        refine k6 _ ?_
        rcases Nat.lt_or_ge (o1 + j) cs.length with hlt | hge
        · omega
        · have h3 := g4 j hj
          have hj : j < u.size := hj
          rw [List.getElem?_eq_none hge, List.getElem?_eq_getElem (by rw [g3]; exact hj)] at h3
          cases h3
    · exact h.elim
  · exact h.elim

theorem ex_field {t : TypeId} {x : Operand} {i : Nat} (hE : EnvT E X.P) (R : RR X ρ s a w) (ho : o.op = .field t x i) (h : pv E s.hp (opn s.fr) (.field t x i) C) :
    ∃ v z, C v ∧ Up X.P a o z w ∧ VR (cx X ρ s.hp w) v z := by
  simp only [pv] at h
  have hx := VR_opn R x
  generalize opn s.fr x = va at h hx
  split at h
  · rename_i l e ht
    split at h
    · rename_i v hv
      obtain ⟨h3, hC⟩ := cond_elim h
      obtain ⟨cs, k1, k2⟩ := VR_agg hx
      have hT := hE.tt t _ ht
      have hs := Shp_of_fits _ _ h3
      have hss : Shps e l := by
        cases e <;> cases l <;> first | exact hs | exact hs.elim
      have hf : ∃ off u, fldT e i = some (off, u) := by
        have : ∀ (e : Ty) (l : List AV) (i : Nat) (v : AV), Shps e l → l[i]? = some v → ∃ off u, fldT e i = some (off, u) := by
          intro e
          induction e with
          | pair p q _ ih =>
            intro l i v hs hv
            cases l with
            | nil => cases hv
            | cons y l =>
              cases i with
              | zero => exact ⟨0, p, rfl⟩
              | succ i =>
                obtain ⟨off, u, hu⟩ := ih l i v hs.2 (by simpa using hv)
                exact ⟨p.size + off, u, by simp [fldT, hu]⟩
          | unit =>
            intro l i v hs hv
            cases l with
            | nil => cases hv
            | cons y l => exact hs.elim
          | _ => intro l i v hs hv; cases l <;> first | exact hs.elim | cases hv
        exact this e l i v hss hv
      obtain ⟨off, u, hf⟩ := hf
      obtain ⟨g1, g2, m, g3, g4, g5⟩ := flds e l _ i off u v hss (TyOk.wf _ _ hT) k2 hf hv
      obtain ⟨fs, f, q1, q2, q3, q4⟩ := TyOk_at hT hf
      have hpart : ∀ w : World, (part f.type cs off).run X.P w = .ok (if aggTy u then .agg m.toArray else m.headD undef) w := by
        intro w
        cases ha : aggTy u with
        | true =>
          have : cs.extract off (off + u.size) = m.toArray := by
            apply Array.ext'
            rw [Array.toList_extract]
            refine List.ext_getElem? fun j => ?_
            simp only [List.extract_eq_take_drop, List.getElem?_take, List.getElem?_drop]
            by_cases hj : j < u.size
            · rw [if_pos (by omega), g5 j hj]
            · rw [if_neg (by omega), List.getElem?_eq_none (by omega)]
          simp [part, Sem.run_bind, run_isAgg_ty q4, ha, run_sizeOf_ty q4, this]
        | false =>
          have hs1 : u.size = 1 := by cases u <;> first | rfl | cases ha
          cases m with
          | nil => simp at g4; omega
          | cons y r =>
            have h0 := g5 0 (by omega)
            have h0 : cs[off]? = some y := by simpa using h0
            simp [part, Sem.run_bind, run_isAgg_ty q4, ha, h0]
      refine ⟨v, _, hC, ?_, VR_of_CR g1 g3⟩
      intro w' _
      simp only [execOp, ho, k1, Instr.field, Sem.run_bind, run_underlying q1, q2, q3, asAgg, Sem.run_pure, Result.andThen_ok, hpart]
    · exact h.elim
  · exact h.elim

theorem run_indexAt_slice {P : Program} {e : Ty} {t te : TypeId} (hu : P.underlying t = some (.slice te)) (hT : TyOk P e te) (w : World) (b off len cap : Nat) (k : IntKind) (i : Int) (h0 : 0 ≤ i) (h1 : i < len) :
    (Instr.indexAt t (.slice (some ⟨b, off, none⟩) len cap) (.int k i)).run P w = .ok (.pointer (some ⟨b, off + i.toNat * e.size, none⟩)) w := by
  simp [Instr.indexAt, asIntOf, Sem.run_bind, run_underlying hu, h0, h1, run_sizeOf_ty hT, Addr.add_mid]
theorem run_indexAt_arr {P : Program} {e : Ty} {t te : TypeId} {n : Nat} (hu : P.underlying t = some (.array n te)) (hT : TyOk P e te) (w : World) (b off : Nat) (k : IntKind) (i : Int) (h0 : 0 ≤ i) (h1 : i < n) :
    (Instr.indexAt t (.pointer (some ⟨b, off, none⟩)) (.int k i)).run P w = .ok (.pointer (some ⟨b, off + i.toNat * e.size, none⟩)) w := by
  simp [Instr.indexAt, asIntOf, Instr.sureAddr, Sem.run_bind, run_underlying hu, h0, h1, run_sizeOf_ty hT, Addr.add_mid]

theorem fldT_opqs : ∀ {m j : Nat}, j < m → fldT (opqs m) j = some (j, .opq 0)
  | m + 1, 0, _ => rfl
  | m + 1, j + 1, h => by
    show (match fldT (opqs m) j with | some (o, t) => some ((Ty.opq 0).size + o, t) | none => none) = _
    rw [fldT_opqs (Nat.lt_of_succ_lt_succ h)]
    simp [Ty.size]; omega
theorem TyOk_sl {P : Program} {e : Ty} {t : TypeId} (h : TyOk P (.sl e) t) : ∃ te, P.underlying t = some (.slice te) ∧ TyOk P e te := h.2
theorem TyOk_arr {P : Program} {e : Ty} {n : Nat} {t : TypeId} (h : TyOk P (.arr n e) t) : ∃ te, P.underlying t = some (.array n te) ∧ TyOk P e te := h.2

theorem ex_indexAddr {t : TypeId} {x y : Operand} (hE : EnvT E X.P) (R : RR X ρ s a w) (ho : o.op = .indexAddr t x y) (h : pv E s.hp (opn s.fr) (.indexAddr t x y) C) :
    ∃ v z, C v ∧ Up X.P a o z w ∧ VR (cx X ρ s.hp w) v z := by
  simp only [pv] at h
  have hx := VR_opn R x
  have hy := VR_opn R y
  generalize opn s.fr x = va at h hx
  generalize opn s.fr y = vb at h hy
  split at h
  · rename_i id k n
    obtain ⟨ey, wy⟩ := VR_int hy
    split at h
    · rename_i te0 e xs f e' hb ht
      obtain ⟨h3, hC⟩ := cond_elim h
      obtain rfl := of_decide_eq_true h3
      obtain ⟨⟨h0, h1⟩, hC⟩ := hC
      obtain ⟨te, hu, hT⟩ := TyOk_sl (hE.tt t _ ht)
      have hO := VR_own hx
      unfold OwnV at hO
      rw [show (cx X ρ s.hp w).hp = s.hp from rfl, hb] at hO
      obtain ⟨A, m, g1, g2, g3, g4, g5⟩ := hO
      have hne : xs ≠ [] := fun e => by subst e; simp at h1; omega
      obtain ⟨rfl, g6, g7⟩ := g5 hne
      have ex : a.eval x = .slice (some ⟨ρ id, 0, none⟩) xs.length m := by simpa [cx] using g1
      refine ⟨_, .pointer (some ⟨ρ id, 0 + n.toNat * e'.size, none⟩), hC, ?_, ⟨⟨n.toNat * e'.size, e', ?_, by simp [Value.cells]; rfl⟩, rfl⟩⟩
      · intro w' _
        simp only [execOp, ho, ex, ey, Sem.run_bind]
        rw [run_indexAt_slice hu hT w' _ _ _ _ k n h0 h1]; rfl
      · show pathB (lkb s.hp id) [.at n] = _
        rw [hb]; simp [pathB, pathT, h0, h1]
    · exact h.elim
  · rename_i e xs k n
    obtain ⟨ey, wy⟩ := VR_int hy
    split at h
    · rename_i e' ht
      obtain ⟨h3, hC⟩ := cond_elim h
      obtain rfl := of_decide_eq_true h3
      obtain ⟨⟨h0, h1⟩, hC⟩ := hC
      obtain ⟨te, hu, hT⟩ := TyOk_sl (hE.tt t _ ht)
      obtain ⟨A, m, ex, hs⟩ := VR_ro hx
      have hne : xs ≠ [] := fun e => by subst e; simp at h1; omega
      obtain ⟨b, off, rfl, hb, hc⟩ := hs.2.2.2.2 hne
      have hi : n.toNat < xs.length := by omega
      obtain ⟨cs, q1, q2, q3⟩ := hc n.toNat hi
      have hxe : xs.getD n.toNat e'.dfl = xs[n.toNat] := by simp [List.getD_eq_getElem?_getD, List.getElem?_eq_getElem hi]
      rw [hxe] at hC
      refine ⟨_, .pointer (some ⟨b, off + n.toNat * e'.size, none⟩), hC, ?_, ⟨⟨b, _, rfl, hb, cs, q1, q2, q3⟩, rfl⟩⟩
      intro w' _
      simp only [execOp, ho, ex, ey, Sem.run_bind]
      rw [run_indexAt_slice hu hT w' _ _ _ _ k n h0 h1]; rfl
    · exact h.elim
  · rename_i id p k n
    obtain ⟨ey, wy⟩ := VR_int hy
    split at h
    · rename_i m e e' ht hp
      obtain ⟨h3, hC⟩ := cond_elim h
      obtain rfl := of_decide_eq_true h3
      obtain ⟨⟨h0, h1⟩, hC⟩ := hC
      obtain ⟨te, hu, hT⟩ := TyOk_arr (hE.tt t _ ht)
      obtain ⟨off, t', k1, k2⟩ := VR_ptr hx
      have k3 : ptyB (lkb s.hp id) p = some t' := ptyB_of_pathB k1
      rw [hp] at k3; cases k3
      refine ⟨_, .pointer (some ⟨ρ id, off + n.toNat * e.size, none⟩), hC, ?_, ⟨⟨off + n.toNat * e.size, e, pathB_snoc k1 (by simp [pathT, h0, h1]), rfl⟩, rfl⟩⟩
      intro w' _
      simp only [execOp, ho, k2, ey, Sem.run_bind]
      rw [show (cx X ρ s.hp w).ρ id = ρ id from rfl, run_indexAt_arr hu hT w' _ _ k n h0 h1]; rfl
    · exact h.elim
  · rename_i m e xs k n
    obtain ⟨ey, wy⟩ := VR_int hy
    split at h
    · rename_i e' ht
      obtain ⟨h3, hC⟩ := cond_elim h
      obtain rfl := of_decide_eq_true h3
      obtain ⟨⟨h0, h1⟩, hC⟩ := hC
      obtain ⟨te, hu, hT⟩ := TyOk_arr (hE.tt t _ ht)
      obtain ⟨b, off, k2, k4, cs, k5, k6, k7⟩ := VR_rop hx
      obtain ⟨hn, hEn⟩ := k7
      have hi : n.toNat < xs.length := by omega
      obtain ⟨l, q1, q2, q3⟩ := EncL_at (fun x vs h => Enc_length e x vs h) xs cs hEn n.toNat hi
      have hxe : xs.getD n.toNat e.dfl = xs[n.toNat] := by simp [List.getD_eq_getElem?_getD, List.getElem?_eq_getElem hi]
      rw [hxe] at hC
      refine ⟨_, .pointer (some ⟨b, off + n.toNat * e.size, none⟩), hC, ?_, ⟨⟨b, _, rfl, k4, l, q2, fun j hj => ?_, q1⟩, rfl⟩⟩
      · intro w' _
        simp only [execOp, ho, k2, ey, Sem.run_bind]
        rw [run_indexAt_arr hu hT w' _ _ k n h0 h1]; rfl
      · rw [← q3 j hj, Nat.add_assoc]
        refine k6 _ ?_
        show _ < m * e.size
        have : n.toNat * e.size + e.size ≤ m * e.size := by rw [← Nat.succ_mul]; exact Nat.mul_le_mul_right _ (by omega)
        omega
    · exact h.elim
  · rename_i id m k n
    obtain ⟨ey, wy⟩ := VR_int hy
    split at h
    · rename_i e0 v0 f0 e' hb ht
      obtain ⟨h3, hC⟩ := cond_elim h
      rw [Bool.and_eq_true] at h3
      obtain rfl := of_decide_eq_true h3.1
      obtain rfl := of_decide_eq_true h3.2
      obtain ⟨j, hj, hC2⟩ := natLit_out hC
      subst hj
      obtain ⟨h1, hC⟩ := cond_elim hC2
      have h1 : j < m := Nat.le_of_ble_eq_true h1
      obtain ⟨te, hu, hT⟩ := TyOk_sl (hE.tt t _ ht)
      obtain ⟨_, _, ex⟩ := VR_vsl hx
      refine ⟨_, .pointer (some ⟨ρ id, 0 + (j : Int).toNat * (Ty.opq 0).size, none⟩), hC, ?_, ⟨⟨j, .opq 0, ?_, by simp [Value.cells, Ty.size]; rfl⟩, rfl⟩⟩
      · intro w' _
        simp only [execOp, ho, ex, ey, Sem.run_bind]
        rw [show (cx X ρ s.hp w).ρ id = ρ id from rfl, run_indexAt_slice hu hT w' _ _ _ _ k (j : Int) (by omega) (by omega)]; rfl
      · show pathB (lkb s.hp id) [.fld j] = _
        rw [hb]; simp [pathB, pathT, fldT_opqs h1]
    · exact h.elim
  · exact h.elim

theorem byte_wf (b : UInt8) : (Lit.int .u8 (b.toNat : Int)).wf = true := by
  have := b.toNat_lt
  simp [Lit.wf, IntKind.min, IntKind.max, IntKind.signed, IntKind.bits]; omega

theorem ex_index {t : TypeId} {x y : Operand} (hE : EnvT E X.P) (R : RR X ρ s a w) (ho : o.op = .index t x y) (h : pv E s.hp (opn s.fr) (.index t x y) C) :
    ∃ v z, C v ∧ Up X.P a o z w ∧ VR (cx X ρ s.hp w) v z := by
  simp only [pv] at h
  have hx := VR_opn R x
  have hy := VR_opn R y
  generalize opn s.fr x = va at h hx
  generalize opn s.fr y = vb at h hy
  split at h
  · rename_i str k n
    obtain ⟨ey, wy⟩ := VR_int hy
    obtain ⟨ex, wx⟩ := VR_str hx
    obtain ⟨h3, hC⟩ := cond_elim h
    obtain ⟨⟨h0, h1⟩, hC⟩ := hC
    split at h3
    · rename_i ht
      have hu := (hE.tt t _ ht).2
      have hi : n.toNat < str.data.size := by have : str.size = str.data.size := rfl; omega
      have hg : str.data.toList.getD n.toNat 0 = str.data[n.toNat] := by
        simp [List.getD_eq_getElem?_getD, List.getElem?_eq_getElem (show n.toNat < str.data.toList.length by simpa using hi)]
      rw [hg] at hC
      refine ⟨_, .int .u8 (str.data[n.toNat].toNat : Int), hC, ?_, mkVR_int (byte_wf _)⟩
      have hb : str[n.toNat]? = some str.data[n.toNat] := by
        have hi' : n.toNat < str.size := hi
        rw [getElem?_pos str n.toNat hi']; rfl
      intro w' _
      simp [execOp, ho, ex, ey, Instr.index, asIntOf, Sem.run_bind, run_underlying hu, h0, hb]
    · cases h3
  · rename_i m e xs k n
    obtain ⟨ey, wy⟩ := VR_int hy
    split at h
    · rename_i e' ht
      obtain ⟨h3, hC⟩ := cond_elim h
      obtain rfl := of_decide_eq_true h3
      obtain ⟨⟨h0, h1⟩, hC⟩ := hC
      have hTT := hE.tt t _ ht
      obtain ⟨te, hu, hT⟩ := TyOk_arr hTT
      have hW : WfT e := TyOk.wf _ _ hT
      obtain ⟨cs, ex, hn, hEn⟩ := VR_arr hx
      have hi : n.toNat < xs.length := by omega
      obtain ⟨l, q1, q2, q3⟩ := EncL_at (fun x vs h => Enc_length e x vs h) xs _ hEn n.toNat hi
      have hxe : xs.getD n.toNat e.dfl = xs[n.toNat] := by simp [List.getD_eq_getElem?_getD, List.getElem?_eq_getElem hi]
      rw [hxe] at hC
      have hpart : ∀ w : World, (part te cs (n.toNat * e.size)).run X.P w = .ok (if aggTy e then .agg l.toArray else l.headD undef) w := by
        intro w
        cases ha : aggTy e with
        | true =>
          have : cs.extract (n.toNat * e.size) (n.toNat * e.size + e.size) = l.toArray := by
            apply Array.ext'
            rw [Array.toList_extract]
            refine List.ext_getElem? fun j => ?_
            simp only [List.extract_eq_take_drop, List.getElem?_take, List.getElem?_drop]
            by_cases hj : j < e.size
            · rw [if_pos (by omega), q3 j hj]
            · rw [if_neg (by omega), List.getElem?_eq_none (by omega)]
          simp [part, Sem.run_bind, run_isAgg_ty hT, ha, run_sizeOf_ty hT, this]
        | false =>
          have hs1 : e.size = 1 := by cases e <;> first | rfl | cases ha
          cases l with
          | nil => simp at q2; omega
          | cons y r =>
            have h0 := q3 0 (by omega)
            have h0 : cs[n.toNat * e.size]? = some y := by simpa using h0
            simp [part, Sem.run_bind, run_isAgg_ty hT, ha, h0]
      refine ⟨_, _, hC, ?_, VR_of_CR (Shp_unpack e _ hW) (CR_unpack _ e _ l hW q1)⟩
      intro w' _
      simp only [execOp, ho, ex, ey, Instr.index, asIntOf, Sem.run_bind, Sem.run_pure, Result.andThen_ok, run_underlying hu]
      rw [if_pos ⟨h0, h1⟩]
      simp only [Sem.run_bind, run_sizeOf_ty hT, Result.andThen_ok, hpart, Sem.run_pure]
    · exact h.elim
  · exact h.elim
end
end Go.Proofs.YtoihmfgkmndjfaaV
/- The operations of the VC evaluator that write nothing, the last ones: loads, cuts, lengths, least and greatest, conversions. -/
set_option linter.unusedVariables false
set_option linter.unusedSimpArgs false
namespace Go.Proofs.YtoihmfgkmndjfaaV
open Go.RowKit

theorem run_loadAt {P : Program} {w : World} {t : TypeId} {b o : Nat} {v : Value} (h : (loadVar t ⟨b, o, none⟩).run P w = .ok v w) : (Instr.loadAt t (.pointer (some ⟨b, o, none⟩))).run P w = .ok v w := by
  simp only [Instr.loadAt, Instr.sureAddr, Sem.run_bind, Sem.run_pure, Result.andThen_ok, h]

theorem cell_of_block {w : World} {b : Nat} {cs : Array Value} {T : TypeId} {fz : Nat × Nat} (h : w.heap[b]? = some (.cells cs T fz)) (o : Nat) : w.cell? ⟨b, o, none⟩ = cs[o]? := by
  simp [World.cell?, h]

theorem cell_up {w w' : World} (hB : Below w.heap.size w w') {b o : Nat} {sp : Option Nat} {v : Value} (h : w.cell? ⟨b, o, sp⟩ = some v) : w'.cell? ⟨b, o, sp⟩ = some v := by
  by_cases hlt : b < w.heap.size
  · rw [cell_same (hB.block b hlt)]; exact h
  · have hn : w.heap[b]? = none := Array.getElem?_eq_none (by omega)
    simp [World.cell?, hn] at h
theorem cells_up {w w' : World} (hB : Below w.heap.size w w') {b o n : Nat} {m : List Value} (hl : m.length = n) (h : ∀ j, j < n → w.cell? ⟨b, o + j, none⟩ = m[j]?) : ∀ j, j < n → w'.cell? ⟨b, o + j, none⟩ = m[j]? := fun j hj => by
  have h1 := h j hj
  rw [List.getElem?_eq_getElem (by omega)] at h1 ⊢
  exact cell_up hB h1

theorem cells_upB {w w' : World} {b o n : Nat} (hB : b < w.heap.size → w'.heap[b]? = w.heap[b]?) {m : List Value} (hl : m.length = n) (h : ∀ j, j < n → w.cell? ⟨b, o + j, none⟩ = m[j]?) : ∀ j, j < n → w'.cell? ⟨b, o + j, none⟩ = m[j]? := fun j hj => by
  have h1 := h j hj
  rw [List.getElem?_eq_getElem (by omega)] at h1 ⊢
  by_cases hlt : b < w.heap.size
  · rw [cell_same (hB hlt)]; exact h1
  · have hn : w.heap[b]? = none := Array.getElem?_eq_none (by omega)
    simp [World.cell?, hn] at h1
section
variable {E : Env} {X : Fix} {ρ : Nat → Nat} {s : St} {a : Act} {w : World} {C : AV → Prop} {o : Oper}

/-- What lies at a path's end in a block. -/
theorem getB_cells {id : Nat} {b : Blk} {p : List Step} {off : Nat} {t : Ty} {u : AV} (hb : HB X (cx X ρ s.hp w) id b) (hp : pathB b p = some (off, t)) (hg : getB b p = some u) :
    Shp t u ∧ WfT t ∧ ∃ m : List Value, CR (cx X ρ s.hp w) u m ∧ m.length = t.size ∧ ∀ j, j < t.size → w.cell? ⟨ρ id, off + j, none⟩ = m[j]? := by
  cases b with
  | none => simp [pathB] at hp
  | var e v f =>
    obtain ⟨h1, cs, T, h2, h3, h4, h5, _⟩ := hb
    have h2 : w.heap[ρ id]? = some (.cells cs T (0, 0)) := h2
    obtain ⟨g1, g2, m, g3, g4, g5⟩ := getA_cells p e v _ off t u h4 h5 h3 hp hg
    exact ⟨g1, g2, m, g3, g4, fun j hj => by rw [cell_of_block h2, ← g5 j hj]; simp⟩
  | row te e xs f =>
    cases p with
    | nil => simp [pathB] at hp
    | cons st p =>
      cases st with
      | fld i => simp [pathB] at hp
      | «at» i =>
        obtain ⟨hW, hb⟩ := hb
        simp only [pathB] at hp
        split at hp
        · rename_i hr
          split at hp
          · rename_i o2 t2 hp2
            simp only [Option.some.injEq, Prod.mk.injEq] at hp
            obtain ⟨rfl, rfl⟩ := hp
            have hi : i.toNat < xs.length := by omega
            have hne : xs ≠ [] := fun e => by subst e; simp at hi
            obtain ⟨h1, cs, h2, hsz, h3⟩ := hb hne
            have h2 : w.heap[ρ id]? = some (.cells cs te (0, 0)) := h2
            obtain ⟨l, h4, hl0, h5'⟩ := EncL_at (fun x vs h => Enc_length e x vs h) xs _ h3 i.toNat hi
            have h5 : ∀ j, j < e.size → cs[i.toNat * e.size + j]? = l[j]? := fun j hj => by
              rw [← h5' j hj, List.getElem?_take, if_pos (by
                have : i.toNat * e.size + e.size ≤ xs.length * e.size := by rw [← Nat.succ_mul]; exact Nat.mul_le_mul_right _ (by omega)
                omega)]
              simp
            have hl := Enc_length _ _ _ h4
            have hx : xs.getD i.toNat e.dfl = xs[i.toNat] := by simp [List.getD_eq_getElem?_getD, List.getElem?_eq_getElem hi]
            simp only [getB, hx] at hg
            obtain ⟨k1, k2, m', k3, k4, k5⟩ := getA_cells p e _ l o2 _ u (Shp_unpack e _ hW) hW (CR_unpack _ e _ l hW h4) hp2 hg
            refine ⟨k1, k2, m', k3, k4, fun j hj => ?_⟩
            rw [← k5 j hj]
            have hj' : o2 + j < e.size := by
              rcases Nat.lt_or_ge (o2 + j) l.length with h | h
              · omega
              · have h3 := k5 j hj
                rw [List.getElem?_eq_none h, List.getElem?_eq_getElem (by omega)] at h3
                cases h3
            rw [cell_of_block h2, ← h5 (o2 + j) hj', Nat.add_assoc]
          · cases hp
        · cases hp

theorem ex_load {t : TypeId} {x : Operand} (hE : EnvT E X.P) (R : RR X ρ s a w) (ho : o.op = .load t x) (h : pv E s.hp (opn s.fr) (.load t x) C) :
    ∃ v z, C v ∧ Up X.P a o z w ∧ VR (cx X ρ s.hp w) v z := by
  simp only [pv] at h
  have hx := VR_opn R x
  generalize opn s.fr x = va at h hx
  split at h
  · rename_i id p
    split at h
    · rename_i u hg
      split at h
      · rename_i e ht
        obtain ⟨h3, hC⟩ := cond_elim h
        obtain ⟨off, t', k1, k2⟩ := VR_ptr hx
        obtain ⟨g1, g2, m, g3, g4, g5⟩ := getB_cells (R.heap id) k1 hg
        have hs := Shp_of_fits _ _ h3
        have hl := CR_length _ _ _ hs g3
        refine ⟨u, _, hC, ?_, VR_of_CR hs g3⟩
        intro w' hw'
        simp only [execOp, ho, k2, Sem.run_bind]
        rw [show (cx X ρ s.hp w).ρ id = ρ id from rfl, run_loadAt (run_loadVar_ty (hE.tt t _ ht) w' (ρ id) off m hl (cells_upB (fun hlt => hw' _ (by simp [loadB, ho, k2]; rfl) hlt) hl (fun j hj => g5 j (by omega))))]
        rfl
      · exact h.elim
    · exact h.elim
  · rename_i e y
    split at h
    · rename_i e' ht
      obtain ⟨h3, hC⟩ := cond_elim h
      obtain rfl := of_decide_eq_true h3
      obtain ⟨b, off, k2, k4, cs, k5, k6, k7⟩ := VR_rop hx
      have hT := hE.tt t _ ht
      have hW := TyOk.wf _ _ hT
      refine ⟨_, _, hC, ?_, VR_of_CR (Shp_unpack _ y hW) (CR_unpack _ _ y cs hW k7)⟩
      intro w' hw'
      simp only [execOp, ho, k2, Sem.run_bind]
      rw [run_loadAt (run_loadVar_ty hT w' b off cs k5 (cells_upB (fun hlt => hw' _ (by simp [loadB, ho, k2]) hlt) k5 k6))]
      rfl
    · exact h.elim
  · exact h.elim

theorem ex_convert {src dst : TypeId} {x : Operand} (hE : EnvT E X.P) (R : RR X ρ s a w) (ho : o.op = .convert src dst x) (h : pv E s.hp (opn s.fr) (.convert src dst x) C) :
    ∃ v z, C v ∧ Up X.P a o z w ∧ VR (cx X ρ s.hp w) v z := by
  simp only [pv] at h
  have hx := VR_opn R x
  generalize opn s.fr x = va at h hx
  split at h
  · rename_i k kd k' n h1 h2
    obtain ⟨ex, wx⟩ := VR_int hx
    have u1 := (hE.tt _ _ h1).2
    have u2 := (hE.tt _ _ h2).2
    exact ⟨_, .int kd (kd.wrap n), h, fun w' _ => by simp [execOp, ho, ex, convert, Sem.run_bind, run_underlying u1, run_underlying u2, Conv.intToInt], mkVR_int (wf_wrap _ _)⟩
  · rename_i str h1 h2
    obtain ⟨ex, wx⟩ := VR_str hx
    have u1 := (hE.tt _ _ h1).2
    have u2 := (hE.tt _ _ h2).2
    exact ⟨_, .string str, h, fun w' _ => by simp [execOp, ho, ex, convert, Sem.run_bind, run_underlying u1, run_underlying u2], ⟨⟨rfl, wx⟩, rfl⟩⟩
  · exact h.elim

theorem run_sliceBound {P : Program} (w : World) (k : IntKind) (i : Int) (y : Nat) (c : BoundsCode) (h0 : 0 ≤ i) (h1 : i ≤ y) : (Instr.sliceBound (.int k i) y c).run P w = .ok i.toNat w := by
  simp [Instr.sliceBound, asIntOf, Sem.run_bind, h0, h1]

theorem run_sliceBounds {P : Program} (w : World) (isS : Bool) (len cap : Nat) (lo hi : Option Value) (l h : Int)
    (hl : match lo with | some v => ∃ k, v = .int k l | none => l = 0) (hh : match hi with | some v => ∃ k, v = .int k h | none => h = len)
    (h0 : 0 ≤ l) (h1 : l ≤ h) (h2 : h ≤ len) (h3 : len ≤ cap) : (Instr.sliceBounds isS len cap lo hi none).run P w = .ok (l.toNat, h.toNat, cap) w := by
  cases lo with
  | none =>
    obtain rfl : l = 0 := hl
    cases hi with
    | none => obtain rfl : h = len := hh; simp [Instr.sliceBounds, Sem.run_bind]
    | some v => obtain ⟨k, rfl⟩ := hh; simp [Instr.sliceBounds, Sem.run_bind, run_sliceBound w k h cap _ (by omega) (by omega)]
  | some u =>
    obtain ⟨k', rfl⟩ := hl
    cases hi with
    | none => obtain rfl : h = len := hh; simp [Instr.sliceBounds, Sem.run_bind, run_sliceBound w k' l len _ (by omega) (by omega)]
    | some v => obtain ⟨k, rfl⟩ := hh; simp [Instr.sliceBounds, Sem.run_bind, run_sliceBound w k h cap _ (by omega) (by omega), run_sliceBound w k' l h.toNat _ (by omega) (by omega)]

theorem bound_of {oo : Option Operand} {d : AV} {k : IntKind} {l : Int} (R : RR X ρ s a w) (h : (match oo with | some q => opn s.fr q | none => d) = .int k l) :
    match oo.map a.eval with | some v => ∃ k, v = .int k l | none => d = .int k l := by
  cases oo with
  | none => exact h
  | some q =>
    have := VR_opn R q
    have h : opn s.fr q = .int k l := h
    rw [h] at this
    exact ⟨k, (VR_int this).1⟩

/-- A frozen block may be read by anybody. -/
theorem RR.ok_fz (R : RR X ρ s a w) {id off : Nat} {p : List Step} {t : Ty} (hf : isFz (lkb s.hp id) = true) (hp : pathB (lkb s.hp id) p = some (off, t)) : okC X ρ s.hp w (ρ id) := by
  have hh := R.heap id
  have hl : live (lkb s.hp id) ∧ ¬ liveW (lkb s.hp id) := by
    cases hb : lkb s.hp id with
    | none => rw [hb] at hf; cases hf
    | var e v f => rw [hb] at hf; have hf : f = true := hf; subst hf; exact ⟨trivial, fun h => h⟩
    | row te e xs f =>
      rw [hb] at hf hp
      have hf : f = true := hf
      subst hf
      refine ⟨fun h0 => ?_, fun h => h⟩
      subst h0
      cases p with
      | nil => simp [pathB] at hp
      | cons st p =>
        cases st with
        | fld i => simp [pathB] at hp
        | «at» i => simp [pathB] at hp; omega
  have hlt : X.base ≤ ρ id ∧ ρ id < w.heap.size := by
    cases hb : lkb s.hp id with
    | none => rw [hb] at hf; cases hf
    | var e v f =>
      rw [hb] at hh
      obtain ⟨h1, cs, T, h2, _⟩ := hh
      exact ⟨h1, (Array.getElem?_eq_some_iff.1 h2).1⟩
    | row te e xs f =>
      rw [hb] at hh hl
      obtain ⟨h1, cs, h2, _⟩ := hh.2 hl.1
      exact ⟨h1, (Array.getElem?_eq_some_iff.1 h2).1⟩
  refine ⟨.inr hlt.1, hlt.2, fun id' hlw he => ?_⟩
  have := R.inj id' id (liveW_live hlw) hl.1 he
  subst this
  exact hl.2 hlw
theorem ex_slice {t : TypeId} {x : Operand} {lo hi : Option Operand} (hE : EnvT E X.P) (R : RR X ρ s a w) (ho : o.op = .slice t x lo hi none) (h : pv E s.hp (opn s.fr) (.slice t x lo hi none) C) :
    ∃ v z, C v ∧ Up X.P a o z w ∧ VR (cx X ρ s.hp w) v z := by
  simp only [pv] at h
  have hx := VR_opn R x
  generalize opn s.fr x = va at h hx
  split at h
  · rename_i str
    split at h
    · rename_i kl l kh hh ht el eh
      obtain ⟨⟨h0, h1, h2⟩, hC⟩ := h
      obtain ⟨ex, wx⟩ := VR_str hx
      have hu := (hE.tt t _ ht).2
      have bl := bound_of R el
      have bh := bound_of R eh
      have hb := fun w : World => run_sliceBounds (P := X.P) w false str.size str.size (lo.map a.eval) (hi.map a.eval) l hh
        (by cases lo <;> first | (simp only [Option.map_none] at bl ⊢; injection bl; omega) | exact bl)
        (by cases hi <;> first | (simp only [Option.map_none] at bh ⊢; injection bh; omega) | exact bh) h0 h1 h2 (Nat.le_refl _)
      refine ⟨_, .string (str.extract l.toNat hh.toNat), hC, ?_, ⟨⟨rfl, ?_⟩, rfl⟩⟩
      · intro w' hw'
        simp only [execOp, ho, ex, Instr.sliceAt, Instr.slice, Sem.run_bind, run_underlying hu, Result.andThen_ok, Option.map_none, Option.isSome_none, Bool.false_eq_true, if_false, Sem.run_pure, hb]
      · have : (str.extract l.toNat hh.toNat).size ≤ str.size := by simp [ByteArray.size_extract]; omega
        omega
    · exact h.elim
  · rename_i e xs
    split at h
    · rename_i e' kl l kh hh ht el eh
      obtain ⟨h3, hC⟩ := cond_elim h
      obtain rfl := of_decide_eq_true h3
      obtain ⟨⟨h0, h1, h2⟩, hC⟩ := hC
      obtain ⟨te, hu, hT⟩ := TyOk_sl (hE.tt t _ ht)
      obtain ⟨A, m, ex, hs⟩ := VR_ro hx
      obtain ⟨s1, s2, s2', s3, s4⟩ := hs
      have bl := bound_of R el
      have bh := bound_of R eh
      have hb := fun w : World => run_sliceBounds (P := X.P) w true xs.length m (lo.map a.eval) (hi.map a.eval) l hh
        (by cases lo <;> first | (simp only [Option.map_none] at bl ⊢; injection bl; omega) | exact bl)
        (by cases hi <;> first | (simp only [Option.map_none] at bh ⊢; injection bh; omega) | exact bh) h0 h1 h2 s1
      have hlen : ((xs.take hh.toNat).drop l.toNat).length = hh.toNat - l.toNat := by simp; omega
      refine ⟨_, .slice (if m = l.toNat then A else A.map (·.add (l.toNat * e'.size))) (hh.toNat - l.toNat) (m - l.toNat), hC, ?_, ?_⟩
      · intro w' hw'
        simp only [execOp, ho, ex, Instr.sliceAt, Instr.slice, Sem.run_bind, run_underlying hu, Result.andThen_ok, Option.map_none, hb, run_sizeOf_ty hT, Sem.run_pure]
      · refine ⟨⟨_, m - l.toNat, by rw [hlen]; rfl, by rw [hlen]; omega, by omega, by rw [hlen]; omega, fun he hA => ?_, fun hne => ?_⟩, rfl⟩
        · by_cases hm : m = l.toNat
          · omega
          · rw [if_neg hm] at hA
            cases A with
            | none =>
              have hxn : xs = [] := by
                cases xs with
                | nil => rfl
                | cons y ys => obtain ⟨b, q, hAq, _⟩ := s4 (by simp); cases hAq
              have := s3 hxn rfl
              subst hxn
              simp at h2; omega
            | some A => cases hA
        · have hlt : l.toNat < hh.toNat := by
            rcases Nat.lt_or_ge l.toNat hh.toNat with h | h
            · exact h
            · exact absurd (List.eq_nil_of_length_eq_zero (by rw [hlen]; omega)) hne
          have hxn : xs ≠ [] := fun e => by subst e; simp at h2; omega
          obtain ⟨b, q, rfl, hb, hc⟩ := s4 hxn
          refine ⟨b, q + l.toNat * e'.size, by rw [if_neg (by omega)]; simp [Addr.add_mid], hb, fun i hi => ?_⟩
          have hi' : l.toNat + i < xs.length := by rw [hlen] at hi; omega
          obtain ⟨cs, q1, q2, q3⟩ := hc (l.toNat + i) hi'
          refine ⟨cs, q1, fun j hj => ?_, ?_⟩
          · rw [← q2 j hj, Nat.add_mul]; congr 2; omega
          · have : ((xs.take hh.toNat).drop l.toNat)[i] = xs[l.toNat + i] := by simp
            rw [this]; exact q3
    · exact h.elim
  · rename_i id
    split at h
    · rename_i te0 e xs f hb0
      split at h
      · rename_i e' kl l kh hh ht el eh
        obtain ⟨h3, hC⟩ := cond_elim h
        obtain rfl := of_decide_eq_true h3
        obtain ⟨⟨h0, h1, h2⟩, hC⟩ := hC
        obtain ⟨te, hu, hT⟩ := TyOk_sl (hE.tt t _ ht)
        have hO := VR_own hx
        unfold OwnV at hO
        rw [show (cx X ρ s.hp w).hp = s.hp from rfl, hb0] at hO
        obtain ⟨A, m, ex, s2, s2', s3, s4⟩ := hO
        have ex : a.eval x = .slice A xs.length m := by simpa using ex
        have s1 : xs.length ≤ m := by
          by_cases hx : xs = []
          · subst hx; simp
          · exact (s4 hx).2.1
        have bl := bound_of R el
        have bh := bound_of R eh
        have hb := fun w : World => run_sliceBounds (P := X.P) w true xs.length m (lo.map a.eval) (hi.map a.eval) l hh
          (by cases lo <;> first | (simp only [Option.map_none] at bl ⊢; injection bl; omega) | exact bl)
          (by cases hi <;> first | (simp only [Option.map_none] at bh ⊢; injection bh; omega) | exact bh) h0 h1 h2 s1
        have e0 : (hh - l).toNat = hh.toNat - l.toNat := by omega
        refine ⟨_, .slice (if m = l.toNat then A else A.map (·.add (l.toNat * e'.size))) (hh.toNat - l.toNat) (m - l.toNat), hC, ?_, ?_⟩
        · intro w' hw'
          simp only [execOp, ho, ex, Instr.sliceAt, Instr.slice, Sem.run_bind, run_underlying hu, Result.andThen_ok, Option.map_none, hb, run_sizeOf_ty hT, Sem.run_pure]
        · refine ⟨?_, rfl⟩
          show VwV (cx X ρ s.hp w) id l hh _
          unfold VwV
          rw [show (cx X ρ s.hp w).hp = s.hp from rfl, hb0]
          refine ⟨⟨h0, h1, h2⟩, _, m - l.toNat, by rw [e0]; rfl, by omega, by omega, by omega, fun he hA => ?_, fun hp => ?_⟩
          · by_cases hm : m = l.toNat
            · omega
            · rw [if_neg hm] at hA
              cases A with
              | none =>
                have hxn : xs = [] := by
                  cases xs with
                  | nil => rfl
                  | cons y ys => have := (s4 (by simp)).1; cases this
                have := s3 hxn
                omega
              | some A => cases hA
          · have hxn : xs ≠ [] := fun e => by subst e; simp at h2; omega
            obtain ⟨rfl, k2, _⟩ := s4 hxn
            rw [if_neg (by omega)]
            simp only [Option.map_some, Addr.add_lit, Nat.zero_add]
      · exact h.elim
    · exact h.elim
  · rename_i id p
    split at h
    · rename_i n' e' n e xs ht hg
      split at h
      · rename_i kl l kh hh el eh
        obtain ⟨h3, hC⟩ := cond_elim h
        simp only [Bool.and_eq_true] at h3
        obtain ⟨⟨⟨hf, h3⟩, h4⟩, h5⟩ := h3
        obtain rfl := of_decide_eq_true h3
        obtain rfl := Nat.eq_of_beq_eq_true h4
        have h5 := Nat.le_of_ble_eq_true h5
        obtain ⟨⟨h0, h1, h2⟩, hC⟩ := hC
        obtain ⟨te, hu, hT⟩ := TyOk_arr (hE.tt t _ ht)
        obtain ⟨off, t', k1, k2⟩ := VR_ptr hx
        obtain ⟨g1, g2, m, g3, g4, g5⟩ := getB_cells (R.heap id) k1 hg
        obtain ⟨hn, hEn⟩ : xs.length = n' ∧ EncL (Enc (okC X ρ s.hp w) w e') xs m := g3
        have bl := bound_of R el
        have bh := bound_of R eh
        have ht' : t' = .arr n' e' := by
          cases t' <;> first | exact g1.elim | (obtain ⟨rfl, rfl⟩ := g1; rfl)
        subst ht'
        have hok : okC X ρ s.hp w (ρ id) := R.ok_fz hf k1
        have hb := fun w : World => run_sliceBounds (P := X.P) w false n' n' (lo.map a.eval) (hi.map a.eval) l hh
          (by cases lo <;> first | (simp only [Option.map_none] at bl ⊢; injection bl; omega) | exact bl)
          (by cases hi <;> first | (simp only [Option.map_none] at bh ⊢; injection bh; omega) | exact bh) h0 h1 h2 (Nat.le_refl _)
        have hlen : ((xs.take hh.toNat).drop l.toNat).length = hh.toNat - l.toNat := by simp; omega
        have hmx : maxLen = 9223372036854775807 := rfl
        refine ⟨_, .slice (some (if n' = l.toNat then ⟨ρ id, off, none⟩ else (⟨ρ id, off, none⟩ : Addr).add (l.toNat * e'.size))) (hh.toNat - l.toNat) (n' - l.toNat), hC, ?_, ?_⟩
        · intro w' hw'
          simp only [execOp, ho, k2, Instr.sliceAt, Instr.sureAddr, Sem.run_bind, run_underlying hu, Result.andThen_ok, Option.map_none, hb, run_sizeOf_ty hT, Sem.run_pure]
          rfl
        · refine ⟨⟨_, n' - l.toNat, by rw [hlen]; rfl, by rw [hlen]; omega, by omega, by rw [hlen]; omega, fun he hA => by exact absurd hA (by simp), fun hne => ?_⟩, rfl⟩
          have hlt : l.toNat < hh.toNat := by
            rcases Nat.lt_or_ge l.toNat hh.toNat with h | h
            · exact h
            · exact absurd (List.eq_nil_of_length_eq_zero (by rw [hlen]; omega)) hne
          refine ⟨ρ id, off + l.toNat * e'.size, by rw [if_neg (by omega)]; simp [Addr.add_mid], hok, fun i hi => ?_⟩
          have hi' : l.toNat + i < xs.length := by rw [hlen] at hi; omega
          obtain ⟨cs, q1, q2, q3⟩ := EncL_at (fun x vs h => Enc_length e' x vs h) xs m hEn (l.toNat + i) hi'
          refine ⟨cs, q2, fun j hj => ?_, ?_⟩
          · rw [← q3 j hj, ← g5 _ (by
              show _ < n' * e'.size
              have : (l.toNat + i) * e'.size + e'.size ≤ n' * e'.size := by rw [← Nat.succ_mul]; exact Nat.mul_le_mul_right _ (by omega)
              omega), Nat.add_mul]
            congr 2; omega
          · have : ((xs.take hh.toNat).drop l.toNat)[i] = xs[l.toNat + i] := by simp
            rw [this]; exact q1
      · exact h.elim
    · exact h.elim
  · rename_i n e xs
    split at h
    · rename_i n' e' ht
      split at h
      · rename_i kl l kh hh el eh
        obtain ⟨h3, hC⟩ := cond_elim h
        simp only [Bool.and_eq_true] at h3
        obtain ⟨⟨h3, h4⟩, h5⟩ := h3
        obtain rfl := of_decide_eq_true h3
        obtain rfl := Nat.eq_of_beq_eq_true h4
        have h5 := Nat.le_of_ble_eq_true h5
        obtain ⟨⟨h0, h1, h2⟩, hC⟩ := hC
        obtain ⟨te, hu, hT⟩ := TyOk_arr (hE.tt t _ ht)
        obtain ⟨b, off, k2, hok, m, g4, g5, g6⟩ := VR_rop hx
        obtain ⟨hn, hEn⟩ : xs.length = n' ∧ EncL (Enc (okC X ρ s.hp w) w e') xs m := g6
        have bl := bound_of R el
        have bh := bound_of R eh
        have hb := fun w : World => run_sliceBounds (P := X.P) w false n' n' (lo.map a.eval) (hi.map a.eval) l hh
          (by cases lo <;> first | (simp only [Option.map_none] at bl ⊢; injection bl; omega) | exact bl)
          (by cases hi <;> first | (simp only [Option.map_none] at bh ⊢; injection bh; omega) | exact bh) h0 h1 h2 (Nat.le_refl _)
        have hlen : ((xs.take hh.toNat).drop l.toNat).length = hh.toNat - l.toNat := by simp; omega
        have hmx : maxLen = 9223372036854775807 := rfl
        refine ⟨_, .slice (some (if n' = l.toNat then ⟨b, off, none⟩ else (⟨b, off, none⟩ : Addr).add (l.toNat * e'.size))) (hh.toNat - l.toNat) (n' - l.toNat), hC, ?_, ?_⟩
        · intro w' hw'
          simp only [execOp, ho, k2, Instr.sliceAt, Instr.sureAddr, Sem.run_bind, run_underlying hu, Result.andThen_ok, Option.map_none, hb, run_sizeOf_ty hT, Sem.run_pure]
        · refine ⟨⟨_, n' - l.toNat, by rw [hlen]; rfl, by rw [hlen]; omega, by omega, by rw [hlen]; omega, fun he hA => by exact absurd hA (by simp), fun hne => ?_⟩, rfl⟩
          have hlt : l.toNat < hh.toNat := by
            rcases Nat.lt_or_ge l.toNat hh.toNat with h | h
            · exact h
            · exact absurd (List.eq_nil_of_length_eq_zero (by rw [hlen]; omega)) hne
          refine ⟨b, off + l.toNat * e'.size, by rw [if_neg (by omega)]; simp [Addr.add_mid], hok, fun i hi => ?_⟩
          have hi' : l.toNat + i < xs.length := by rw [hlen] at hi; omega
          obtain ⟨cs, q1, q2, q3⟩ := EncL_at (fun x vs h => Enc_length e' x vs h) xs m hEn (l.toNat + i) hi'
          refine ⟨cs, q2, fun j hj => ?_, ?_⟩
          · rw [← q3 j hj, ← g5 _ (by
              show _ < n' * e'.size
              have : (l.toNat + i) * e'.size + e'.size ≤ n' * e'.size := by rw [← Nat.succ_mul]; exact Nat.mul_le_mul_right _ (by omega)
              omega), Nat.add_mul]
            show w.cell? _ = w.cell? _
            congr 2; omega
          · have : ((xs.take hh.toNat).drop l.toNat)[i] = xs[l.toNat + i] := by simp
            rw [this]; exact q1
      · exact h.elim
    · exact h.elim
  · exact h.elim

theorem run_sliceBounds3 {P : Program} (w : World) (isS : Bool) (len cap : Nat) (lo : Option Value) (vh vm : Value) (l h m : Int)
    (hl : match lo with | some v => ∃ k, v = .int k l | none => l = 0) (hh : ∃ k, vh = .int k h) (hm : ∃ k, vm = .int k m)
    (h0 : 0 ≤ l) (h1 : l ≤ h) (h2 : h ≤ m) (h3 : m ≤ cap) : (Instr.sliceBounds isS len cap lo (some vh) (some vm)).run P w = .ok (l.toNat, h.toNat, m.toNat) w := by
  obtain ⟨k, rfl⟩ := hh
  obtain ⟨k2, rfl⟩ := hm
  cases lo with
  | none =>
    obtain rfl : l = 0 := hl
    simp [Instr.sliceBounds, Sem.run_bind, run_sliceBound w k2 m cap _ (by omega) (by omega), run_sliceBound w k h m.toNat _ (by omega) (by omega)]
  | some u =>
    obtain ⟨k', rfl⟩ := hl
    simp [Instr.sliceBounds, Sem.run_bind, run_sliceBound w k2 m cap _ (by omega) (by omega), run_sliceBound w k h m.toNat _ (by omega) (by omega), run_sliceBound w k' l h.toNat _ (by omega) (by omega)]
theorem ex_slice3 {t : TypeId} {x : Operand} {lo : Option Operand} {hq mq : Operand} (hE : EnvT E X.P) (R : RR X ρ s a w) (ho : o.op = .slice t x lo (some hq) (some mq)) (h : pv E s.hp (opn s.fr) (.slice t x lo (some hq) (some mq)) C) :
    ∃ v z, C v ∧ Up X.P a o z w ∧ VR (cx X ρ s.hp w) v z := by
  simp only [pv] at h
  have hx := VR_opn R x
  generalize opn s.fr x = va at h hx
  split at h
  · rename_i e xs
    split at h
    · rename_i e' kl l kh hh km mm ht el eh em
      obtain ⟨h3, hC⟩ := cond_elim h
      obtain rfl := of_decide_eq_true h3
      obtain ⟨⟨h0, h1, h2', h2m⟩, hC⟩ := hC
      have h2 : hh ≤ xs.length := Int.le_trans h2' h2m
      obtain ⟨te, hu, hT⟩ := TyOk_sl (hE.tt t _ ht)
      obtain ⟨A, m, ex, hs⟩ := VR_ro hx
      obtain ⟨s1, s2, s2', s3, s4⟩ := hs
      have bl := bound_of R el
      have bh : ∃ k, a.eval hq = .int k hh := by
        have := VR_opn R hq
        rw [eh] at this
        exact ⟨_, (VR_int this).1⟩
      have bm : ∃ k, a.eval mq = .int k mm := by
        have := VR_opn R mq
        rw [em] at this
        exact ⟨_, (VR_int this).1⟩
      have hb := fun w : World => run_sliceBounds3 (P := X.P) w true xs.length m (lo.map a.eval) (a.eval hq) (a.eval mq) l hh mm
        (by cases lo <;> first | (simp only [Option.map_none] at bl ⊢; injection bl; omega) | exact bl)
        bh bm h0 h1 h2' (by omega)
      have hlen : ((xs.take hh.toNat).drop l.toNat).length = hh.toNat - l.toNat := by simp; omega
      refine ⟨_, .slice (if mm.toNat = l.toNat then A else A.map (·.add (l.toNat * e'.size))) (hh.toNat - l.toNat) (mm.toNat - l.toNat), hC, ?_, ?_⟩
      · intro w' hw'
        simp only [execOp, ho, ex, Instr.sliceAt, Instr.slice, Sem.run_bind, run_underlying hu, Result.andThen_ok, Option.map_some, hb, run_sizeOf_ty hT, Sem.run_pure]
      · refine ⟨⟨_, mm.toNat - l.toNat, by rw [hlen]; rfl, by rw [hlen]; omega, by omega, by rw [hlen]; omega, fun he hA => ?_, fun hne => ?_⟩, rfl⟩
        · by_cases hm : mm.toNat = l.toNat
          · omega
          · rw [if_neg hm] at hA
            cases A with
            | none =>
              have hxn : xs = [] := by
                cases xs with
                | nil => rfl
                | cons y ys => obtain ⟨b, q, hAq, _⟩ := s4 (by simp); cases hAq
              subst hxn
              simp at h2m; omega
            | some A => cases hA
        · have hlt : l.toNat < hh.toNat := by
            rcases Nat.lt_or_ge l.toNat hh.toNat with h | h
            · exact h
            · exact absurd (List.eq_nil_of_length_eq_zero (by rw [hlen]; omega)) hne
          have hxn : xs ≠ [] := fun e => by subst e; simp at h2; omega
          obtain ⟨b, q, rfl, hb, hc⟩ := s4 hxn
          refine ⟨b, q + l.toNat * e'.size, by rw [if_neg (by omega)]; simp [Addr.add_mid], hb, fun i hi => ?_⟩
          have hi' : l.toNat + i < xs.length := by rw [hlen] at hi; omega
          obtain ⟨cs, q1, q2, q3⟩ := hc (l.toNat + i) hi'
          refine ⟨cs, q1, fun j hj => ?_, ?_⟩
          · rw [← q2 j hj, Nat.add_mul]; congr 2; omega
          · have : ((xs.take hh.toNat).drop l.toNat)[i] = xs[l.toNat + i] := by simp
            rw [this]; exact q3
    · exact h.elim
  · rename_i id
    split at h
    · rename_i te0 e xs f hb0
      split at h
      · rename_i e' kl l kh hh km mm ht el eh em
        obtain ⟨h3, hC⟩ := cond_elim h
        obtain rfl := of_decide_eq_true h3
        obtain ⟨⟨h0, h1, h2', h2m⟩, hC⟩ := hC
        have h2 : hh ≤ xs.length := Int.le_trans h2' h2m
        obtain ⟨te, hu, hT⟩ := TyOk_sl (hE.tt t _ ht)
        have hO := VR_own hx
        unfold OwnV at hO
        rw [show (cx X ρ s.hp w).hp = s.hp from rfl, hb0] at hO
        obtain ⟨A, m, ex, s2, s2', s3, s4⟩ := hO
        have ex : a.eval x = .slice A xs.length m := by simpa using ex
        have s1 : xs.length ≤ m := by
          by_cases hx : xs = []
          · subst hx; simp
          · exact (s4 hx).2.1
        have bl := bound_of R el
        have bh : ∃ k, a.eval hq = .int k hh := by
          have := VR_opn R hq
          rw [eh] at this
          exact ⟨_, (VR_int this).1⟩
        have bm : ∃ k, a.eval mq = .int k mm := by
          have := VR_opn R mq
          rw [em] at this
          exact ⟨_, (VR_int this).1⟩
        have hb := fun w : World => run_sliceBounds3 (P := X.P) w true xs.length m (lo.map a.eval) (a.eval hq) (a.eval mq) l hh mm
          (by cases lo <;> first | (simp only [Option.map_none] at bl ⊢; injection bl; omega) | exact bl)
          bh bm h0 h1 h2' (by omega)
        have e0 : (hh - l).toNat = hh.toNat - l.toNat := by omega
        refine ⟨_, .slice (if mm.toNat = l.toNat then A else A.map (·.add (l.toNat * e'.size))) (hh.toNat - l.toNat) (mm.toNat - l.toNat), hC, ?_, ?_⟩
        · intro w' hw'
          simp only [execOp, ho, ex, Instr.sliceAt, Instr.slice, Sem.run_bind, run_underlying hu, Result.andThen_ok, Option.map_some, hb, run_sizeOf_ty hT, Sem.run_pure]
        · refine ⟨?_, rfl⟩
          show VwV (cx X ρ s.hp w) id l hh _
          unfold VwV
          rw [show (cx X ρ s.hp w).hp = s.hp from rfl, hb0]
          refine ⟨⟨h0, h1, h2⟩, _, mm.toNat - l.toNat, by rw [e0]; rfl, by omega, by omega, by omega, fun he hA => ?_, fun hp => ?_⟩
          · by_cases hm : mm.toNat = l.toNat
            · omega
            · rw [if_neg hm] at hA
              cases A with
              | none =>
                have hxn : xs = [] := by
                  cases xs with
                  | nil => rfl
                  | cons y ys => have := (s4 (by simp)).1; cases this
                subst hxn
                simp at h2m; omega
              | some A => cases hA
          · have hxn : xs ≠ [] := fun e => by subst e; simp at h2; omega
            obtain ⟨rfl, k2, _⟩ := s4 hxn
            rw [if_neg (by omega)]
            simp only [Option.map_some, Addr.add_lit, Nat.zero_add]
      · exact h.elim
    · exact h.elim
  · exact h.elim

theorem nat_wf {n : Nat} (h : n ≤ 9223372036854775807) : (Lit.int .i64 (n : Int)).wf = true := by
  simp [Lit.wf, IntKind.min, IntKind.max, IntKind.signed, IntKind.bits]; omega

theorem min_wf {k : IntKind} {m n : Int} (h1 : (Lit.int k m).wf = true) (h2 : (Lit.int k n).wf = true) : (Lit.int k (min m n)).wf = true ∧ (Lit.int k (max m n)).wf = true := by
  rw [Int.min_def, Int.max_def]; constructor <;> split <;> assumption

theorem min2_run {P : Program} (w : World) (k : IntKind) (m n : Int) : (Builtin.min2 (.int k m) (.int k n)).run P w = .ok (.int k (min m n)) w ∧ (Builtin.max2 (.int k m) (.int k n)).run P w = .ok (.int k (max m n)) w := by
  constructor
  · have : (if n < m then n else m) = min m n := by rw [Int.min_def]; split <;> split <;> omega
    simp [Builtin.min2, this]
  · have : (if m < n then n else m) = max m n := by rw [Int.max_def]; split <;> split <;> omega
    simp [Builtin.max2, this]

theorem ex_min {c : Call} (R : RR X ρ s a w) (ho : o.op = .call c) (hc : c.callee = .builtin .min ∨ c.callee = .builtin .max) (h : pv E s.hp (opn s.fr) (.call c) C) :
    ∃ v z, C v ∧ Up X.P a o z w ∧ VR (cx X ρ s.hp w) v z := by
  simp only [pv] at h
  rcases hc with hc | hc <;> rw [hc] at h <;> simp only at h
  all_goals
    split at h
    · rename_i x y hargs
      have hx := VR_opn R x
      have hy := VR_opn R y
      generalize opn s.fr x = va at h hx
      generalize opn s.fr y = vb at h hy
      split at h
      · rename_i ka m kb n
        obtain ⟨ex, wx⟩ := VR_int hx
        obtain ⟨ey, wy⟩ := VR_int hy
        obtain ⟨h3, hC⟩ := cond_elim h
        obtain rfl := of_decide_eq_true h3
        have hl : (c.args.map a.eval).toList = [.int ka m, .int ka n] := by simp [hargs, ex, ey]
        refine ⟨_, _, hC, ?_, mkVR_int (by first | exact (min_wf wx wy).1 | exact (min_wf wx wy).2)⟩
        have hr := And.intro (fun w : World => (min2_run (P := X.P) w ka m n).1) (fun w : World => (min2_run (P := X.P) w ka m n).2)
        intro w' hw'
        simp only [execOp, ho, resolve, hc, invoke, builtin, Builtin.min_, Builtin.max_, Sem.run_bind, Sem.run_pure, Result.andThen_ok, hl, List.foldlM_cons, List.foldlM_nil, hr.1, hr.2]
      · exact h.elim
    · exact h.elim

theorem ex_unsafeSliceData {c : Call} (R : RR X ρ s a w) (ho : o.op = .call c) (hc : c.callee = .builtin .unsafeSliceData) (h : pv E s.hp (opn s.fr) (.call c) C) :
    ∃ v z, C v ∧ Up X.P a o z w ∧ VR (cx X ρ s.hp w) v z := by
  simp only [pv] at h
  rw [hc] at h; simp only at h
  split at h
  · rename_i x hargs
    have hx := VR_opn R x
    generalize opn s.fr x = va at h hx
    split at h
    · rename_i id
      split at h
      · rename_i te e xs f hb
        obtain ⟨h1, hC⟩ := h
        have hne : xs ≠ [] := by rintro rfl; simp at h1
        have hO := VR_own hx
        unfold OwnV at hO
        rw [show (cx X ρ s.hp w).hp = s.hp from rfl, hb] at hO
        obtain ⟨A, m, g1, g2, g2', g3, g4⟩ := hO
        obtain ⟨rfl, k2, _⟩ := g4 hne
        have ex : a.eval x = .slice (some ⟨(cx X ρ s.hp w).ρ id, 0, none⟩) xs.length m := by simpa using g1
        have ex : a.eval x = .slice (some ⟨ρ id, 0, none⟩) xs.length m := ex
        have hargs' : c.args.map a.eval = #[.slice (some ⟨ρ id, 0, none⟩) xs.length m] := by
          have : c.args = #[x] := by apply Array.ext'; simpa using hargs
          simp [this, ex]
        refine ⟨_, .pointer (some ⟨ρ id, 0, none⟩), hC, ?_, ⟨⟨0, e, ?_, rfl⟩, rfl⟩⟩
        · intro w' hw'
          simp only [execOp, ho, resolve, hc, invoke, builtin, Sem.run_bind, Sem.run_pure, Result.andThen_ok, hargs', Lib.run_unsafeSliceData_row _ _ _ _ _ _ (show m ≠ 0 by omega)]
        · show pathB (lkb s.hp id) [.at 0] = _
          rw [hb]
          simp only [pathB, pathT]
          rw [if_pos ⟨Int.le_refl 0, by omega⟩]
          simp
      · exact h.elim
    · exact h.elim
  · exact h.elim

theorem ex_len {c : Call} (hE : EnvT E X.P) (R : RR X ρ s a w) (ho : o.op = .call c) (hc : c.callee = .builtin .len) (h : pv E s.hp (opn s.fr) (.call c) C) :
    ∃ v z, C v ∧ Up X.P a o z w ∧ VR (cx X ρ s.hp w) v z := by
  simp only [pv] at h
  rw [hc] at h; simp only at h
  split at h
  · rename_i x t hargs htys
    have hx := VR_opn R x
    generalize opn s.fr x = va at h hx
    split at h
    · rename_i n e hn ht
      obtain ⟨h3, hC⟩ := cond_elim h
      rw [Bool.and_eq_true] at h3
      obtain ⟨h3, h4⟩ := h3
      have hT := hE.tt t _ ht
      have hargs' : (c.args.map a.eval)[0]? = some (a.eval x) := by
        have : c.args = #[x] := by apply Array.ext'; simpa using hargs
        simp [this]
      have htys' : c.argTypes[0]? = some t := by
        have : c.argTypes = #[t] := by apply Array.ext'; simpa using htys
        simp [this]
      have key : ∀ z, (∀ w : World, (Builtin.len_ c.argTypes o.type (c.args.map a.eval)).run X.P w = .ok z w) → Up X.P a o z w := by
        intro z hz
        intro w' hw'
        simp only [execOp, ho, resolve, hc, invoke, builtin, Sem.run_bind, Sem.run_pure, Result.andThen_ok, hz]
      have hm : maxLen = 9223372036854775807 := rfl
      unfold lenAV at hn
      split at hn
      · rename_i e0 xs
        cases hn
        obtain ⟨A, m, ex, hs⟩ := VR_ro hx
        cases e <;> try (have h3 : false = true := h3; cases h3)
        obtain ⟨te, hu, _⟩ := TyOk_sl hT
        exact ⟨_, _, hC, key _ (fun w => by simp [Builtin.len_, htys', hargs', ex, Sem.run_bind, run_underlying hu, goInt]), mkVR_int (nat_wf (by have := hs.2.2.1; omega))⟩
      · rename_i id
        split at hn
        · rename_i te0 e0 xs f hb
          cases hn
          have hO := VR_own hx
          unfold OwnV at hO
          rw [show (cx X ρ s.hp w).hp = s.hp from rfl, hb] at hO
          obtain ⟨A, m, g1, g2, g2', g3, g4⟩ := hO
          have ex : a.eval x = .slice A xs.length m := by simpa using g1
          cases e <;> try (have h3 : false = true := h3; cases h3)
          · obtain ⟨te, hu, _⟩ := TyOk_sl hT
            exact ⟨_, _, hC, key _ (fun w => by simp [Builtin.len_, htys', hargs', ex, Sem.run_bind, run_underlying hu, goInt]), mkVR_int (nat_wf (by omega))⟩
        · cases hn
      · cases hn
        obtain ⟨ex, _⟩ := VR_con hx
        cases e <;> first | (have h4 : false = true := h4; cases h4; done) | (have h3 : false = true := h3; cases h3; done) | skip
        obtain ⟨te, hu, _⟩ := TyOk_sl hT
        exact ⟨_, _, hC, key _ (fun w => by simp [Builtin.len_, htys', hargs', ex, Sem.run_bind, run_underlying hu, goInt]), mkVR_int (nat_wf (n := 0) (by omega))⟩
      · rename_i str
        cases hn
        obtain ⟨ex, wx⟩ := VR_str hx
        cases e <;> try (have h3 : false = true := h3; cases h3)
        exact ⟨_, _, hC, key _ (fun w => by simp [Builtin.len_, htys', hargs', ex, Sem.run_bind, run_underlying hT.2, goInt]), mkVR_int (nat_wf (by omega))⟩
      · rename_i m e0 xs
        cases hn
        obtain ⟨cs, ex, _⟩ := VR_arr hx
        cases e <;> try (have h3 : false = true := h3; cases h3)
        rename_i n' e'
        have h3' : (m == n' && decide (e0 = e')) = true := h3
        rw [Bool.and_eq_true, beq_iff_eq] at h3'
        obtain ⟨te, hu, _⟩ := TyOk_arr hT
        obtain ⟨rfl, rfl⟩ : m = n' ∧ e0 = e' := ⟨h3'.1, of_decide_eq_true h3'.2⟩
        have h4 : Nat.ble m 65536 = true := h4
        have := Nat.le_of_ble_eq_true h4
        exact ⟨_, _, hC, key _ (fun w => by simp [Builtin.len_, htys', hargs', ex, Sem.run_bind, run_underlying hu, goInt]), mkVR_int (nat_wf (by omega))⟩
      · rename_i id m
        cases hn
        obtain ⟨_, hm2, ex⟩ := VR_vsl hx
        cases e <;> try (have h3 : false = true := h3; cases h3)
        obtain ⟨te, hu, _⟩ := TyOk_sl hT
        exact ⟨_, _, hC, key _ (fun w => by simp [Builtin.len_, htys', hargs', ex, Sem.run_bind, run_underlying hu, goInt]), mkVR_int (nat_wf (by omega))⟩
      · rename_i id l hi
        cases hn
        have hV := VR_vw hx
        unfold VwV at hV
        split at hV
        · obtain ⟨h0, A, m, g1, g2, g3, g4, _⟩ := hV
          have ex : a.eval x = .slice A (hi - l).toNat m := by simpa using g1
          cases e <;> try (have h3 : false = true := h3; cases h3)
          obtain ⟨te, hu, _⟩ := TyOk_sl hT
          have hz : (((hi - l).toNat : Nat) : Int) = hi - l := Int.toNat_of_nonneg (by omega)
          refine ⟨_, .int .i64 ((hi - l).toNat : Nat), hC, key _ (fun w => by simp [Builtin.len_, htys', hargs', ex, Sem.run_bind, run_underlying hu, goInt]), ?_⟩
          rw [← hz]
          exact mkVR_int (nat_wf (by omega))
        · exact hV.elim
      · cases hn
    · exact h.elim
  · exact h.elim
end
end Go.Proofs.YtoihmfgkmndjfaaV
