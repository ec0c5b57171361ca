/- What the VC evaluator's states say of a frame and a world, and that it stays so while other memory changes. -/
import Derived.Test.YtejedlpnejjnbaaVcA
import Derived.Below
import Derived.Deep.MidRow
set_option linter.unusedVariables false
namespace Go.Proofs.YtejedlpnejjnbaaV
open Go.RowKit

theorem lk_cons (k : Nat) (v : AV) (t : List (Nat × AV)) (d : Nat) : lk ((k, v) :: t) d = if k = d then v else lk t d := by
  show cond (Nat.beq k d) v (lk t d) = _
  by_cases h : k = d
  · subst h; rw [if_pos rfl, Nat.beq_refl]; rfl
  · rw [if_neg h]
    have : Nat.beq k d = false := by
      cases e : Nat.beq k d with
      | false => rfl
      | true => exact absurd (Nat.eq_of_beq_eq_true e) h
    rw [this]; rfl
theorem lkb_cons (k : Nat) (v : Blk) (t : List (Nat × Blk)) (d : Nat) : lkb ((k, v) :: t) d = if k = d then v else lkb t d := by
  show cond (Nat.beq k d) v (lkb t d) = _
  by_cases h : k = d
  · subst h; rw [if_pos rfl, Nat.beq_refl]; rfl
  · rw [if_neg h]
    have : Nat.beq k d = false := by
      cases e : Nat.beq k d with
      | false => rfl
      | true => exact absurd (Nat.eq_of_beq_eq_true e) h
    rw [this]; rfl

/-! ### Typed data in cells -/
def EncL {α : Type} (E : α → List Value → Prop) : List α → List Value → Prop
  | [], vs => vs = []
  | x :: xs, vs => ∃ u v, vs = u ++ v ∧ E x u ∧ EncL E xs v

/-- A row of data in memory, as a slice reads it. -/
def Sl {α : Type} (ok : Nat → Prop) (w : World) (size : Nat) (E : α → List Value → Prop) (xs : List α) (A : Option Addr) (c : Nat) : Prop :=
  xs.length ≤ c ∧ c ≤ maxLen ∧ xs.length ≤ 140737488355328 ∧ (xs = [] → A = none → c = 0) ∧
  (xs ≠ [] → ∃ b o, A = some ⟨b, o, none⟩ ∧ ok b ∧ ∀ i (h : i < xs.length), ∃ cs : List Value, cs.length = size ∧ (∀ j, j < size → w.cell? ⟨b, o + i * size + j, none⟩ = cs[j]?) ∧ E xs[i] cs)

def Enc (ok : Nat → Prop) (w : World) : (e : Ty) → e.den → List Value → Prop
  | .int k, n, vs => vs = [.int k n] ∧ (Lit.int k n).wf = true
  | .bool, b, vs => vs = [.bool b]
  | .str, s, vs => vs = [.string s] ∧ s.size ≤ maxLen
  | .unit, _, vs => vs = []
  | .pair a b, x, vs => ∃ u v, vs = u ++ v ∧ Enc ok w a x.1 u ∧ Enc ok w b x.2 v
  | .sl e, xs, vs => ∃ A c, vs = [.slice A xs.length c] ∧ Sl ok w e.size (Enc ok w e) xs A c
  | .arr n e, xs, vs => xs.length = n ∧ EncL (Enc ok w e) xs vs
  | .opq _, _, _ => False

theorem EncL_length {α : Type} {E : α → List Value → Prop} {m : Nat} (h : ∀ x vs, E x vs → vs.length = m) : ∀ (xs : List α) (vs : List Value), EncL E xs vs → vs.length = xs.length * m
  | [], vs, e => by simp only [EncL] at e; subst e; simp
  | x :: xs, vs, e => by
    obtain ⟨u, v, rfl, hu, hv⟩ := e
    rw [List.length_append, h _ _ hu, EncL_length h xs v hv, List.length_cons, Nat.add_mul]; omega

theorem Enc_length {ok : Nat → Prop} {w : World} : ∀ (e : Ty) (x : e.den) (vs : List Value), Enc ok w e x vs → vs.length = e.size
  | .int k, n, vs, h => by obtain ⟨rfl, _⟩ := h; rfl
  | .bool, b, vs, h => by have h : vs = _ := h; subst h; rfl
  | .str, s, vs, h => by obtain ⟨rfl, _⟩ := h; rfl
  | .unit, _, vs, h => by have h : vs = [] := h; subst h; rfl
  | .pair a b, x, vs, h => by
    obtain ⟨u, v, rfl, hu, hv⟩ := h
    rw [List.length_append, Enc_length a _ _ hu, Enc_length b _ _ hv]; rfl
  | .sl e, xs, vs, h => by obtain ⟨A, c, rfl, _⟩ := h; rfl
  | .arr n e, xs, vs, h => by
    obtain ⟨hn, hv⟩ := h
    have hE := EncL_length (E := Enc ok w e) (m := e.size) (fun x vs h => Enc_length e x vs h) xs vs hv
    rw [hE, hn]; rfl
  | .opq _, _, _, h => h.elim

theorem EncL_mono {α : Type} {E E' : α → List Value → Prop} (h : ∀ x vs, E x vs → E' x vs) : ∀ (xs : List α) (vs : List Value), EncL E xs vs → EncL E' xs vs
  | [], vs, e => e
  | x :: xs, vs, e => by
    obtain ⟨u, v, rfl, hu, hv⟩ := e
    exact ⟨u, v, rfl, h _ _ hu, EncL_mono h xs v hv⟩

theorem cell_same {w w' : World} {b : Nat} (h : w'.heap[b]? = w.heap[b]?) (o : Nat) (s : Option Nat) : w'.cell? ⟨b, o, s⟩ = w.cell? ⟨b, o, s⟩ := by
  simp only [World.cell?]; rw [h]

/-- The block's cells read alike. -/
def SameC (w w' : World) (b : Nat) : Prop := ∀ o s, w'.cell? ⟨b, o, s⟩ = w.cell? ⟨b, o, s⟩
theorem SameC.of {w w' : World} {b : Nat} (h : w'.heap[b]? = w.heap[b]?) : SameC w w' b := fun o s => cell_same h o s
theorem SameC.refl (w : World) (b : Nat) : SameC w w b := fun _ _ => rfl
theorem SameC.trans {w w' w'' : World} {b : Nat} (h : SameC w w' b) (h' : SameC w' w'' b) : SameC w w'' b := fun o s => (h' o s).trans (h o s)
theorem Sl_mono {α : Type} {ok ok' : Nat → Prop} {w w' : World} {size : Nat} {E E' : α → List Value → Prop} {xs : List α} {A : Option Addr} {c : Nat}
    (hok : ∀ b, ok b → ok' b ∧ SameC w w' b) (hE : ∀ x vs, E x vs → E' x vs) (h : Sl ok w size E xs A c) : Sl ok' w' size E' xs A c := by
  obtain ⟨h1, h2, h3, h4, h5⟩ := h
  refine ⟨h1, h2, h3, h4, fun hne => ?_⟩
  obtain ⟨b, o, hA, hb, hc⟩ := h5 hne
  refine ⟨b, o, hA, (hok b hb).1, fun i hi => ?_⟩
  obtain ⟨cs, hl, hr, he⟩ := hc i hi
  exact ⟨cs, hl, fun j hj => by rw [(hok b hb).2]; exact hr j hj, hE _ _ he⟩

theorem Enc_mono {ok ok' : Nat → Prop} {w w' : World} (hok : ∀ b, ok b → ok' b ∧ SameC w w' b) : ∀ (e : Ty) (x : e.den) (vs : List Value), Enc ok w e x vs → Enc ok' w' e x vs
  | .int k, n, vs, h => h
  | .bool, b, vs, h => h
  | .str, s, vs, h => h
  | .unit, _, vs, h => h
  | .pair a b, x, vs, h => by
    obtain ⟨u, v, rfl, hu, hv⟩ := h
    exact ⟨u, v, rfl, Enc_mono hok a _ _ hu, Enc_mono hok b _ _ hv⟩
  | .sl e, xs, vs, h => by
    obtain ⟨A, c, rfl, hs⟩ := h
    exact ⟨A, c, rfl, Sl_mono hok (fun x vs h => Enc_mono hok e x vs h) hs⟩
  | .arr n e, xs, vs, h => ⟨h.1, EncL_mono (fun x vs h => Enc_mono hok e x vs h) xs vs h.2⟩
  | .opq _, _, _, h => h

/-- The package-level variables lie there, and hold what's told. -/
def GlOk (ok : Nat → Prop) (w : World) : Prop := ∀ g e x, lkG GL g = some ⟨e, x⟩ → ok g ∧ ∃ cs : List Value, cs.length = e.size ∧ (∀ j, j < e.size → w.cell? ⟨g, 0 + j, none⟩ = cs[j]?) ∧ Enc ok w e x cs
theorem GlOk.mono {ok ok' : Nat → Prop} {w w' : World} (h : GlOk ok w) (hok : ∀ b, ok b → ok' b ∧ SameC w w' b) : GlOk ok' w' := by
  intro g e x hg
  obtain ⟨h1, cs, h2, h3, h4⟩ := h g e x hg
  exact ⟨(hok g h1).1, cs, h2, fun j hj => by rw [(hok g h1).2]; exact h3 j hj, Enc_mono hok e x cs h4⟩

/-- A struct's type is a chain of fields with an end. -/
def chain : Ty → Prop
  | .unit | .pair _ _ => True
  | _ => False
def WfT : Ty → Prop
  | .pair a b => WfT a ∧ chain b ∧ WfT b
  | .sl e => WfT e
  | .arr _ e => WfT e
  | _ => True

/-! ### Paths in types -/
def fldT : Ty → Nat → Option (Nat × Ty)
  | .pair a b, 0 => some (0, a)
  | .pair a b, i + 1 => match fldT b i with
    | some (o, t) => some (a.size + o, t)
    | none => none
  | _, _ => none
def pathT : Ty → List Step → Option (Nat × Ty)
  | t, [] => some (0, t)
  | t, .fld i :: p => match fldT t i with
    | some (o, u) => match pathT u p with
      | some (o', v) => some (o + o', v)
      | none => none
    | none => none
  | .arr n e, .at i :: p => if 0 ≤ i ∧ i < (n : Int) then match pathT e p with
      | some (o', v) => some (i.toNat * e.size + o', v)
      | none => none
    else none
  | _, .at _ :: _ => none
def pathB : Blk → List Step → Option (Nat × Ty)
  | .var e _ _, p => pathT e p
  | .row _ e xs _, .at i :: p => if 0 ≤ i ∧ i < (xs.length : Int) then match pathT e p with
      | some (o', v) => some (i.toNat * e.size + o', v)
      | none => none
    else none
  | _, _ => none

/-! ### Values -/
structure Cx where
  ρ : Nat → Nat
  ok : Nat → Prop
  w : World
  hp : List (Nat × Blk)

def aggAV : AV → Bool
  | .agg _ | .arr _ _ _ => true
  | _ => false
def vAgg : Value → Bool
  | .agg _ => true
  | _ => false

/-- How big a block's row of cells is. -/
def cellsN (w : World) (b : Nat) : Nat :=
  match w.heap[b]? with
  | some (.cells cs _ _) => cs.size
  | _ => 0

def simpleV : Value → Prop
  | .slice none 0 0 | .pointer none | .nilFunc => True
  | _ => False

def OwnV (c : Cx) (id : Nat) (vs : List Value) : Prop :=
  match lkb c.hp id with
  | .row _ e xs _ => ∃ A n, vs = [.slice A xs.length n] ∧ n ≤ maxLen ∧ xs.length ≤ 140737488355328 ∧ (xs = [] → n = 0) ∧ (xs ≠ [] → A = some ⟨c.ρ id, 0, none⟩ ∧ xs.length ≤ n ∧ cellsN c.w (c.ρ id) = n * e.size)
  | _ => False

mutual
def CR (c : Cx) : AV → List Value → Prop
  | .int k n, vs => vs = [.int k n] ∧ (Lit.int k n).wf = true
  | .bool b, vs => vs = [.bool b]
  | .str s, vs => vs = [.string s] ∧ s.size ≤ maxLen
  | .ro e xs, vs => Enc c.ok c.w (.sl e) xs vs
  | .arr n e xs, vs => Enc c.ok c.w (.arr n e) xs vs
  | .agg l, vs => CRs c l vs
  | .own id, vs => OwnV c id vs
  | .ptr id p, vs => ∃ off t, pathB (lkb c.hp id) p = some (off, t) ∧ vs = [.pointer (some ⟨c.ρ id, off, none⟩)]
  | .vsl id n, vs => (∃ v f, lkb c.hp id = .var (opqs n) v f) ∧ n ≤ 65536 ∧ vs = [.slice (some ⟨c.ρ id, 0, none⟩) n n]
  | .rop e x, vs => ∃ b o, vs = [.pointer (some ⟨b, o, none⟩)] ∧ c.ok b ∧ ∃ cs : List Value, cs.length = e.size ∧ (∀ j, j < e.size → c.w.cell? ⟨b, o + j, none⟩ = cs[j]?) ∧ Enc c.ok c.w e x cs
  | .con v, vs => vs = [v] ∧ simpleV v
  | .fn f a d, vs => ∃ a' d', vs = [.func f a' d'] ∧ CVs c a a'.toList ∧ CVs c d d'.toList
  | .tup _, _ => False
  | .und, _ => False
  | .dead, vs => ∃ x, vs = [x]
def CRs (c : Cx) : List AV → List Value → Prop
  | [], vs => vs = []
  | v :: l, vs => ∃ a b, vs = a ++ b ∧ CR c v a ∧ CRs c l b
def CVs (c : Cx) : List AV → List Value → Prop
  | [], xs => xs = []
  | v :: l, xs => ∃ x ys, xs = x :: ys ∧ CR c v x.cells.toList ∧ aggAV v = vAgg x ∧ CVs c l ys
end

def VR (c : Cx) (v : AV) (x : Value) : Prop :=
  match v with
  | .dead => True
  | .und => x = undef
  | .tup l => ∃ xs, x = .tuple xs ∧ CVs c l xs.toList
  | v => CR c v x.cells.toList ∧ aggAV v = vAgg x

/-! ### What a change of memory leaves -/
/-- c' after c; refs to the blocks in K are gone. -/
structure Ext (K : Nat → Prop) (c c' : Cx) : Prop where
  ok : ∀ b, c.ok b → c'.ok b ∧ SameC c.w c'.w b
  var : ∀ id e v f, ¬ K id → lkb c.hp id = .var e v f → c'.ρ id = c.ρ id ∧ ∃ v' f', lkb c'.hp id = .var e v' f'
  row : ∀ id te e xs f, ¬ K id → lkb c.hp id = .row te e xs f → ∃ ys : List e.den, ∃ f', lkb c'.hp id = .row te e ys f' ∧ ys.length = xs.length ∧ (xs ≠ [] → c'.ρ id = c.ρ id ∧ cellsN c'.w (c.ρ id) = cellsN c.w (c.ρ id))

theorem Ext.path {K : Nat → Prop} {c c' : Cx} (h : Ext K c c') {id : Nat} (hk : ¬ K id) {p : List Step} {r : Nat × Ty} (hp : pathB (lkb c.hp id) p = some r) :
    c'.ρ id = c.ρ id ∧ pathB (lkb c'.hp id) p = some r := by
  cases hb : lkb c.hp id with
  | none => rw [hb] at hp; simp [pathB] at hp
  | var e v f =>
    obtain ⟨h1, v', f', h2⟩ := h.var id e v f hk hb
    rw [hb] at hp; rw [h2]; exact ⟨h1, hp⟩
  | row te e xs f =>
    obtain ⟨ys, f', h2, h3, h4⟩ := h.row id te e xs f hk hb
    rw [hb] at hp; rw [h2]
    cases p with
    | nil => simp [pathB] at hp
    | cons s p =>
      cases s with
      | fld i => simp [pathB] at hp
      | «at» i =>
        simp only [pathB] at hp ⊢
        rw [h3]
        refine ⟨?_, hp⟩
        by_cases hr : 0 ≤ i ∧ i < (xs.length : Int)
        · exact (h4 (fun e => by subst e; simp at hr; omega)).1
        · rw [if_neg hr] at hp; simp at hp

/-! Free of references to the blocks in K. -/
mutual
def Free (K : Nat → Prop) : AV → Prop
  | .own id => ¬ K id
  | .ptr id _ => ¬ K id
  | .vsl id _ => ¬ K id
  | .agg l => Frees K l
  | .tup l => Frees K l
  | .fn _ a d => Frees K a ∧ Frees K d
  | _ => True
def Frees (K : Nat → Prop) : List AV → Prop
  | [] => True
  | v :: l => Free K v ∧ Frees K l
end

mutual
theorem CR_ext {K : Nat → Prop} {c c' : Cx} (h : Ext K c c') : ∀ (v : AV) (vs : List Value), Free K v → CR c v vs → CR c' v vs
  | .int k n, vs, _, e => e
  | .bool b, vs, _, e => e
  | .str s, vs, _, e => e
  | .ro t xs, vs, _, e => Enc_mono h.ok (.sl t) xs vs e
  | .arr n t xs, vs, _, e => Enc_mono h.ok (.arr n t) xs vs e
  | .agg l, vs, hf, e => CRs_ext h l vs hf e
  | .own id, vs, hf, e => by
    have hk : ¬ K id := hf
    have e : OwnV c id vs := e
    show OwnV c' id vs
    unfold OwnV at e ⊢
    cases hb : lkb c.hp id with
    | none => rw [hb] at e; exact e.elim
    | var t v f => rw [hb] at e; exact e.elim
    | row te t xs f =>
      rw [hb] at e
      obtain ⟨A, n, e1, e2, e2', e3, e4⟩ := e
      obtain ⟨ys, f', h2, h3, h4⟩ := h.row id te t xs f hk hb
      rw [h2]
      refine ⟨A, n, by rw [h3]; exact e1, e2, by rw [h3]; exact e2', fun hy => e3 (List.eq_nil_of_length_eq_zero (by rw [← h3, hy]; rfl)), fun hy => ?_⟩
      have hx : xs ≠ [] := fun hx => hy (List.eq_nil_of_length_eq_zero (by rw [h3, hx]; rfl))
      obtain ⟨g1, g2, g3⟩ := e4 hx
      obtain ⟨g4, g5⟩ := h4 hx
      exact ⟨by rw [g4]; exact g1, by rw [h3]; exact g2, by rw [g4, g5]; exact g3⟩
  | .ptr id p, vs, hf, e => by
    obtain ⟨off, t, e1, e2⟩ := e
    obtain ⟨g1, g2⟩ := h.path hf e1
    exact ⟨off, t, g2, by rw [g1]; exact e2⟩
  | .vsl id n, vs, hf, e => by
    obtain ⟨⟨v, f, e1⟩, e3, e2⟩ := e
    obtain ⟨g1, v', f', g2⟩ := h.var id _ v f hf e1
    exact ⟨⟨v', f', g2⟩, e3, by rw [g1]; exact e2⟩
  | .rop t x, vs, _, e => by
    obtain ⟨b, o, e1, e2, cs, e3, e4, e5⟩ := e
    exact ⟨b, o, e1, (h.ok b e2).1, cs, e3, fun j hj => by rw [(h.ok b e2).2]; exact e4 j hj, Enc_mono h.ok t x cs e5⟩
  | .con v, vs, _, e => e
  | .fn f a d, vs, hf, e => by
    obtain ⟨a', d', e1, e2, e3⟩ := e
    exact ⟨a', d', e1, CVs_ext h a _ hf.1 e2, CVs_ext h d _ hf.2 e3⟩
  | .tup _, _, _, e => e
  | .und, _, _, e => e
  | .dead, vs, _, e => e
theorem CRs_ext {K : Nat → Prop} {c c' : Cx} (h : Ext K c c') : ∀ (l : List AV) (vs : List Value), Frees K l → CRs c l vs → CRs c' l vs
  | [], vs, _, e => e
  | v :: l, vs, hf, e => by
    obtain ⟨a, b, e1, e2, e3⟩ := e
    exact ⟨a, b, e1, CR_ext h v a hf.1 e2, CRs_ext h l b hf.2 e3⟩
theorem CVs_ext {K : Nat → Prop} {c c' : Cx} (h : Ext K c c') : ∀ (l : List AV) (xs : List Value), Frees K l → CVs c l xs → CVs c' l xs
  | [], xs, _, e => e
  | v :: l, xs, hf, e => by
    obtain ⟨x, ys, e1, e2, e3, e4⟩ := e
    exact ⟨x, ys, e1, CR_ext h v _ hf.1 e2, e3, CVs_ext h l ys hf.2 e4⟩
end

theorem VR_ext {K : Nat → Prop} {c c' : Cx} (h : Ext K c c') (v : AV) (x : Value) (hf : Free K v) (e : VR c v x) : VR c' v x := by
  cases v <;> first
    | exact e
    | exact ⟨CR_ext h _ _ hf e.1, e.2⟩
    | (obtain ⟨xs, e1, e2⟩ := e; exact ⟨xs, e1, CVs_ext h _ _ hf e2⟩)

mutual
theorem kill_free (id : Nat) : ∀ v : AV, Free (· = id) (kill id v)
  | .own i => by
    show Free _ (cond (Nat.beq i id) .dead (.own i))
    cases e : Nat.beq i id with
    | true => exact trivial
    | false => exact fun h => by have h : i = id := h; subst h; rw [Nat.beq_refl] at e; cases e
  | .ptr i p => by
    show Free _ (cond (Nat.beq i id) .dead (.ptr i p))
    cases e : Nat.beq i id with
    | true => exact trivial
    | false => exact fun h => by have h : i = id := h; subst h; rw [Nat.beq_refl] at e; cases e
  | .vsl i n => by
    show Free _ (cond (Nat.beq i id) .dead (.vsl i n))
    cases e : Nat.beq i id with
    | true => exact trivial
    | false => exact fun h => by have h : i = id := h; subst h; rw [Nat.beq_refl] at e; cases e
  | .agg l => kills_free id l
  | .tup l => kills_free id l
  | .fn f a d => ⟨kills_free id a, kills_free id d⟩
  | .int _ _ | .bool _ | .str _ | .ro _ _ | .arr _ _ _ | .rop _ _ | .con _ | .und | .dead => trivial
theorem kills_free (id : Nat) : ∀ l : List AV, Frees (· = id) (kills id l)
  | [] => trivial
  | v :: l => ⟨kill_free id v, kills_free id l⟩
end

theorem aggAV_kill (id : Nat) (v : AV) : aggAV (kill id v) = aggAV v := by
  cases v <;> simp only [kill] <;> first | rfl | (cases Nat.beq _ id <;> rfl)

mutual
theorem CR_kill (c : Cx) (id : Nat) : ∀ (v : AV) (vs : List Value), CR c v vs → CR c (kill id v) vs
  | .own i, vs, e => by
    show CR c (cond (Nat.beq i id) .dead (.own i)) vs
    cases Nat.beq i id with
    | false => exact e
    | true =>
      have e : OwnV c i vs := e
      unfold OwnV at e
      split at e
      · obtain ⟨A, n, rfl, _⟩ := e; exact ⟨_, rfl⟩
      · exact e.elim
  | .ptr i p, vs, e => by
    show CR c (cond (Nat.beq i id) .dead (.ptr i p)) vs
    cases Nat.beq i id with
    | false => exact e
    | true => obtain ⟨off, t, _, rfl⟩ := e; exact ⟨_, rfl⟩
  | .vsl i n, vs, e => by
    show CR c (cond (Nat.beq i id) .dead (.vsl i n)) vs
    cases Nat.beq i id with
    | false => exact e
    | true => obtain ⟨_, _, rfl⟩ := e; exact ⟨_, rfl⟩
  | .agg l, vs, e => CRs_kill c id l vs e
  | .fn f a d, vs, e => by
    obtain ⟨a', d', e1, e2, e3⟩ := e
    exact ⟨a', d', e1, CVs_kill c id a _ e2, CVs_kill c id d _ e3⟩
  | .int _ _, _, e => e
  | .bool _, _, e => e
  | .str _, _, e => e
  | .ro _ _, _, e => e
  | .arr _ _ _, _, e => e
  | .rop _ _, _, e => e
  | .con _, _, e => e
  | .und, _, e => e
  | .dead, _, e => e
  | .tup _, _, e => e
theorem CRs_kill (c : Cx) (id : Nat) : ∀ (l : List AV) (vs : List Value), CRs c l vs → CRs c (kills id l) vs
  | [], _, e => e
  | v :: l, vs, e => by
    obtain ⟨a, b, e1, e2, e3⟩ := e
    exact ⟨a, b, e1, CR_kill c id v a e2, CRs_kill c id l b e3⟩
theorem CVs_kill (c : Cx) (id : Nat) : ∀ (l : List AV) (xs : List Value), CVs c l xs → CVs c (kills id l) xs
  | [], _, e => e
  | v :: l, xs, e => by
    obtain ⟨x, ys, e1, e2, e3, e4⟩ := e
    exact ⟨x, ys, e1, CR_kill c id v _ e2, by rw [aggAV_kill]; exact e3, CVs_kill c id l ys e4⟩
end

theorem VR_kill (c : Cx) (id : Nat) (v : AV) (x : Value) (e : VR c v x) : VR c (kill id v) x := by
  cases v with
  | dead => exact e
  | und => exact e
  | tup l => obtain ⟨xs, e1, e2⟩ := e; exact ⟨xs, e1, CVs_kill c id l _ e2⟩
  | own i =>
    have h := CR_kill c id _ _ e.1
    simp only [kill] at h ⊢
    cases hb : Nat.beq i id with
    | true => exact trivial
    | false => exact e
  | ptr i p =>
    simp only [kill]
    cases hb : Nat.beq i id with
    | true => exact trivial
    | false => exact e
  | vsl i n =>
    simp only [kill]
    cases hb : Nat.beq i id with
    | true => exact trivial
    | false => exact e
  | agg l => exact ⟨CR_kill c id _ _ e.1, e.2⟩
  | fn f a d => exact ⟨CR_kill c id (.fn f a d) _ e.1, e.2⟩
  | int _ _ => exact e
  | bool _ => exact e
  | str _ => exact e
  | ro _ _ => exact e
  | arr _ _ _ => exact e
  | rop _ _ => exact e
  | con _ => exact e
end Go.Proofs.YtejedlpnejjnbaaV
