/- A method on a caller's struct, by a contract: what it makes of the struct's data is a function; all else stays. -/
import Derived.Test.YtoihmfgkmndjfaaVcG1
set_option linter.unusedVariables false
set_option linter.unusedSimpArgs false
namespace Go.Proofs.YtoihmfgkmndjfaaV
open Go.RowKit

/-! ### Data that lead nowhere -/
def flatTy : Ty → Bool
  | .int _ | .bool | .str | .unit => true
  | .pair a b => flatTy a && flatTy b
  | .arr _ e => flatTy e
  | _ => false
theorem EncL_imp {α : Type} {E E' : α → List Value → Prop} (h : ∀ x vs, E x vs → E' x vs) : ∀ (xs : List α) (vs : List Value), EncL E xs vs → EncL E' xs vs := EncL_mono h
theorem Enc_flat {ok ok' : Nat → Prop} {w w' : World} : ∀ (e : Ty) (x : e.den) (vs : List Value), flatTy e = true → Enc ok w e x vs → Enc ok' w' e x vs
  | .int _, _, _, _, h => h
  | .bool, _, _, _, h => h
  | .str, _, _, _, h => h
  | .unit, _, _, _, h => h
  | .pair a b, x, vs, hf, h => by
    have hf : (flatTy a && flatTy b) = true := hf
    rw [Bool.and_eq_true] at hf
    obtain ⟨u, v, h1, h2, h3⟩ := h
    exact ⟨u, v, h1, Enc_flat a _ _ hf.1 h2, Enc_flat b _ _ hf.2 h3⟩
  | .arr n e, xs, vs, hf, h => ⟨h.1, EncL_mono (fun x vs h => Enc_flat e x vs hf h) xs vs h.2⟩
  | .sl _, _, _, hf, _ => by cases hf
  | .opq _, _, _, hf, _ => by cases hf
mutual
theorem CR_flat {c c' : Cx} : ∀ (e : Ty) (x : e.den) (vs : List Value), flatTy e = true → CR c (unpack e x) vs → CR c' (unpack e x) vs
  | .int _, _, _, _, h => h
  | .bool, _, _, _, h => h
  | .str, _, _, _, h => h
  | .unit, _, _, _, h => h
  | .pair a b, x, vs, hf, h => by
    have hf : (flatTy a && flatTy b) = true := hf
    rw [Bool.and_eq_true] at hf
    obtain ⟨u, v, h1, h2, h3⟩ := h
    exact ⟨u, v, h1, CR_flat a x.1 u hf.1 h2, CRs_flat b x.2 v hf.2 h3⟩
  | .arr n e, xs, vs, hf, h => Enc_flat (.arr n e) xs vs hf h
  | .sl _, _, _, hf, _ => by cases hf
  | .opq _, _, _, hf, _ => by cases hf
theorem CRs_flat {c c' : Cx} : ∀ (e : Ty) (x : e.den) (vs : List Value), flatTy e = true → CRs c (fieldsOf e x) vs → CRs c' (fieldsOf e x) vs
  | .pair a b, x, vs, hf, h => by
    have hf : (flatTy a && flatTy b) = true := hf
    rw [Bool.and_eq_true] at hf
    obtain ⟨u, v, h1, h2, h3⟩ := h
    exact ⟨u, v, h1, CR_flat a x.1 u hf.1 h2, CRs_flat b x.2 v hf.2 h3⟩
  | .int _, _, _, _, h => h
  | .bool, _, _, _, h => h
  | .str, _, _, _, h => h
  | .unit, _, _, _, h => h
  | .arr _ _, _, _, _, h => h
  | .sl _, _, _, hf, _ => by cases hf
  | .opq _, _, _, hf, _ => by cases hf
end

/-! ### The struct's data -/
inductive FK where
  | dat (e : Ty)
  | row (te : Nat) (e : Ty)
def FK.ty : FK → Ty
  | .dat e => e
  | .row _ e => .sl e
def FK.ok : FK → Bool
  | .dat e => flatTy e
  | .row _ e => flatTy e
def FK.wf : FK → Bool
  | .dat _ => true
  | .row _ e => wfTB e
def stT : List FK → Ty
  | [] => .unit
  | f :: l => .pair f.ty (stT l)
/-- What the fields hold, and the rows' blocks. -/
def getS (hp : List (Nat × Blk)) : (fs : List FK) → List AV → Option ((stT fs).den × List Nat)
  | [], [] => some ((), [])
  | .dat e :: fs, v :: l => match pk e v, getS hp fs l with
    | some x, some (y, ids) => some ((x, y), ids)
    | _, _ => none
  | .row te e :: fs, .own id :: l => match lkb hp id with
    | .row te' e' xs false => if h : e' = e then (if te' = te then (match getS hp fs l with
        | some (y, ids) => some ((castL h xs, y), id :: ids)
        | none => none) else none) else none
    | _ => none
  | _, _ => none
/-- The fields, over rows from number n on; the rows. -/
def mkF : (fs : List FK) → Nat → (stT fs).den → List AV
  | [], _, _ => []
  | .dat e :: fs, n, x => unpack e x.1 :: mkF fs n x.2
  | .row _ _ :: fs, n, x => .own n :: mkF fs (n + 1) x.2
def mkH : (fs : List FK) → Nat → (stT fs).den → List (Nat × Blk)
  | [], _, _ => []
  | .dat _ :: fs, n, x => mkH fs n x.2
  | .row te e :: fs, n, x => (n, .row te e x.1 false) :: mkH fs (n + 1) x.2
/-- A heap with the struct alone. -/
def hpC (fs : List FK) (x : (stT fs).den) : List (Nat × Blk) := (0, .var (stT fs) (.agg (mkF fs 1 x)) false) :: mkH fs 1 x
/-- The fields behind the call: the rows where they were. -/
def setF' : (fs : List FK) → List AV → (stT fs).den → List AV
  | .dat e :: fs, _ :: l, x => unpack e x.1 :: setF' fs l x.2
  | .row _ _ :: fs, v :: l, x => v :: setF' fs l x.2
  | _, _, _ => []
def rowsB : (fs : List FK) → List Nat → (stT fs).den → List (Nat × Blk)
  | .dat _ :: fs, ids, x => rowsB fs ids x.2
  | .row te e :: fs, id :: ids, x => (id, .row te e x.1 false) :: rowsB fs ids x.2
  | _, _, _ => []
def killsH : List Nat → List (Nat × Blk) → List (Nat × Blk)
  | [], hp => hp
  | k :: l, hp => killH k (killsH l hp)
def distN : List Nat → Bool
  | [] => true
  | k :: l => !memN l k && distN l
def nrow : List FK → Nat
  | [] => 0
  | .dat _ :: l => nrow l
  | .row _ _ :: l => nrow l + 1
/-- What a method answers; an evaluation stops here, the kernel's too. -/
theorem callS_ex {α β : Type} (o : Option (α × β)) (k : α → β → Prop) : ∃ p : Prop, p = (match o with
  | some (x, r) => k x r
  | none => False) := ⟨_, rfl⟩
noncomputable def callS {α β : Type} (o : Option (α × β)) (k : α → β → Prop) : Prop := Classical.choose (callS_ex o k)
theorem callS_eq {α β : Type} (o : Option (α × β)) (k : α → β → Prop) : callS o k = (match o with
  | some (x, r) => k x r
  | none => False) := Classical.choose_spec (callS_ex o k)
theorem callS_elim {α β : Type} {o : Option (α × β)} {k : α → β → Prop} (h : callS o k) : ∃ x r, o = some (x, r) ∧ k x r := by
  rw [callS_eq] at h
  match o, h with
  | some (x, r), h => exact ⟨x, r, rfl, h⟩
theorem callS_mk {α β : Type} {o : Option (α × β)} {k : α → β → Prop} {x : α} {r : β} (ho : o = some (x, r)) (h : k x r) : callS o k := by
  subst ho; rw [callS_eq]; exact h
attribute [irreducible] callS
/-- The new rows' numbers. -/
def newN (off : Nat) (rk : List FK) : List Nat := List.range' (off + 1) (nrow rk)
/-- A method by its contract: fs are the struct's fields, rk the results (a row: a slice of its own, that is new). -/
noncomputable def sumT (fs rk : List FK) (G : (stT fs).den → List AV → Option ((stT fs).den × (stT rk).den)) : Proc := fun off hp vs k =>
  match vs with
  | .ptr id [] :: rest => match lkb hp id with
    | .var e (.agg l) false => cond (decide (e = stT fs)) (match getS hp fs l with
      | some (x, ids) => cond (distN (id :: (ids ++ newN off rk)) && pureAV.pures rest) (callS (G x rest) fun x' y => forceH ((id, .var (stT fs) (.agg (setF' fs l x')) false) :: (rowsB fs ids x' ++ (mkH rk (off + 1) y ++ killsH (ids ++ newN off rk) hp))) fun hp2 => k hp2 (some (ids ++ newN off rk, 0)) (tupOf (mkF rk (off + 1) y))) False
      | none => False) False
    | _ => False
  | _ => False
/-- Results: a slice that is nil counts as a new row without elements. -/
def convL : List FK → List AV → Nat → List AV
  | .row _ _ :: rk, v :: l, n => (match v with | .con (.slice none 0 0) => .own n | v => v) :: convL rk l (n + 1)
  | .dat _ :: rk, v :: l, n => v :: convL rk l n
  | _, l, _ => l
def convH : List FK → List AV → Nat → List (Nat × Blk) → List (Nat × Blk)
  | .row te e :: rk, v :: l, n, hp => (match v with | .con (.slice none 0 0) => convH rk l (n + 1) ((n, .row te e [] false) :: hp) | _ => convH rk l (n + 1) hp)
  | .dat _ :: rk, _ :: l, n, hp => convH rk l n hp
  | _, _, _, hp => hp
/-- All numbers are below. -/
def below (n : Nat) : List (Nat × Blk) → Bool
  | [] => true
  | (k, _) :: l => Nat.ble (k + 1) n && below n l
/-- What is to be shown of the method: at the heap with the struct alone. -/
def finS (fs rk : List FK) (x' : (stT fs).den) (y : (stT rk).den) (hp' : List (Nat × Blk)) (ks : Option Ks) (v : AV) : Prop :=
  ∃ n l' ids' vals js kl p, below n hp' = true ∧ okVs vals = true ∧ lkb (convH rk vals n hp') 0 = .var (stT fs) (.agg l') false ∧ getS (convH rk vals n hp') fs l' = some (x', ids') ∧ v = tupOf vals ∧ getS (convH rk vals n hp') rk (convL rk vals n) = some (y, js) ∧ distN (0 :: (ids' ++ js)) = true ∧ ks = some (kl, p) ∧ memN kl 0 = false

/-! ### The same data over other numbers -/
def OwnSame (c c' : Cx) (i j : Nat) : Prop := ∀ vs, OwnV c i vs → OwnV c' j vs
theorem OwnSame.of {c c' : Cx} {i j : Nat} (h1 : lkb c'.hp j = lkb c.hp i) (h2 : ∀ te e xs f, lkb c.hp i = .row te e xs f → xs ≠ [] → c'.ρ j = c.ρ i ∧ cellsN c'.w (c.ρ i) = cellsN c.w (c.ρ i)) : OwnSame c c' i j := by
  intro vs h
  unfold OwnV at h ⊢
  rw [h1]
  cases hb : lkb c.hp i with
  | none => rw [hb] at h; exact h
  | var e v f => rw [hb] at h; exact h
  | row te e xs f =>
    rw [hb] at h
    obtain ⟨A, n, e1, e2, e2', e3, e4⟩ := h
    refine ⟨A, n, e1, e2, e2', e3, fun hx => ?_⟩
    obtain ⟨q1, q2⟩ := h2 te e xs f hb hx
    rw [q1, q2]; exact e4 hx
theorem getS_row {hp : List (Nat × Blk)} {te : Nat} {e : Ty} {fs : List FK} {v : AV} {l : List AV} {x : (stT (.row te e :: fs)).den} {ids : List Nat} (h : getS hp (.row te e :: fs) (v :: l) = some (x, ids)) :
    ∃ id ids', v = .own id ∧ ids = id :: ids' ∧ lkb hp id = .row te e x.1 false ∧ getS hp fs l = some (x.2, ids') := by
  cases v with
  | own id =>
    simp only [getS] at h
    split at h
    · rename_i te' e' xs hb
      split at h
      · rename_i he
        subst he
        split at h
        · rename_i ht
          split at h
          · rename_i y ids' hg
            cases h
            exact ⟨id, ids', rfl, rfl, by rw [hb, ht]; rfl, hg⟩
          · cases h
        · cases h
      · cases h
    · cases h
  | _ => simp [getS] at h
theorem getS_dat {hp : List (Nat × Blk)} {e : Ty} {fs : List FK} {v : AV} {l : List AV} {x : (stT (.dat e :: fs)).den} {ids : List Nat} (h : getS hp (.dat e :: fs) (v :: l) = some (x, ids)) :
    v = unpack e x.1 ∧ getS hp fs l = some (x.2, ids) := by
  simp only [getS] at h
  split at h
  · rename_i y z ids' h1 h2
    cases h
    exact ⟨pk_eq e v _ h1, h2⟩
  · cases h
theorem getS_nil {hp : List (Nat × Blk)} {l : List AV} {x : (stT []).den} {ids : List Nat} (h : getS hp [] l = some (x, ids)) : l = [] ∧ ids = [] := by
  cases l with
  | nil => exact ⟨rfl, (Prod.mk.inj (Option.some.inj h)).2.symm⟩
  | cons _ _ => simp [getS] at h
theorem getS_cons {hp : List (Nat × Blk)} {f : FK} {fs : List FK} {l : List AV} {r : (stT (f :: fs)).den × List Nat} (h : getS hp (f :: fs) l = some r) : ∃ v l', l = v :: l' := by
  cases l with
  | nil => cases f <;> simp [getS] at h
  | cons v l' => exact ⟨v, l', rfl⟩
theorem mk_CRs {hp : List (Nat × Blk)} {c c' : Cx} : ∀ (fs : List FK) (l : List AV) (n : Nat) (x : (stT fs).den) (ids : List Nat) (vs : List Value), fs.all FK.ok = true → getS hp fs l = some (x, ids) → (∀ k (h : k < ids.length), OwnSame c c' ids[k] (n + k)) → CRs c l vs → CRs c' (mkF fs n x) vs
  | [], l, n, x, ids, vs, _, h, _, hc => by
    obtain ⟨rfl, rfl⟩ := getS_nil h
    exact hc
  | .dat e :: fs, l, n, x, ids, vs, ho, h, hk, hc => by
    obtain ⟨v, l, rfl⟩ := getS_cons h
    obtain ⟨rfl, h2⟩ := getS_dat h
    simp only [List.all_cons, Bool.and_eq_true] at ho
    obtain ⟨a, b, e1, e2, e3⟩ := hc
    exact ⟨a, b, e1, CR_flat e _ _ ho.1 e2, mk_CRs fs l n x.2 ids b ho.2 h2 hk e3⟩
  | .row te e :: fs, l, n, x, ids, vs, ho, h, hk, hc => by
    obtain ⟨v, l, rfl⟩ := getS_cons h
    obtain ⟨id, ids', rfl, rfl, _, h2⟩ := getS_row h
    simp only [List.all_cons, Bool.and_eq_true] at ho
    obtain ⟨a, b, e1, e2, e3⟩ := hc
    refine ⟨a, b, e1, hk 0 (by simp) a e2, mk_CRs fs l (n + 1) x.2 ids' b ho.2 h2 (fun k hk' => ?_) e3⟩
    have := hk (k + 1) (by simp; omega)
    rw [show n + 1 + k = n + (k + 1) by omega]; exact this
theorem set_CRs {hp hp' : List (Nat × Blk)} {c c' : Cx} : ∀ (fs : List FK) (l l' : List AV) (x x' : (stT fs).den) (ids ids' : List Nat) (vs : List Value), fs.all FK.ok = true → getS hp fs l = some (x, ids) → getS hp' fs l' = some (x', ids') → (∀ k (h : k < ids.length) (h' : k < ids'.length), OwnSame c c' ids'[k] ids[k]) → CRs c l' vs → CRs c' (setF' fs l x') vs
  | [], l, l', x, x', ids, ids', vs, _, h, h', _, hc => by
    obtain ⟨rfl, rfl⟩ := getS_nil h'
    exact hc
  | .dat e :: fs, l, l', x, x', ids, ids', vs, ho, h, h', hk, hc => by
    obtain ⟨v, l, rfl⟩ := getS_cons h
    obtain ⟨v', l', rfl⟩ := getS_cons h'
    obtain ⟨_, h2⟩ := getS_dat h
    obtain ⟨rfl, h2'⟩ := getS_dat h'
    simp only [List.all_cons, Bool.and_eq_true] at ho
    obtain ⟨a, b, e1, e2, e3⟩ := hc
    exact ⟨a, b, e1, CR_flat e _ _ ho.1 e2, set_CRs fs l l' x.2 x'.2 ids ids' b ho.2 h2 h2' hk e3⟩
  | .row te e :: fs, l, l', x, x', ids, ids', vs, ho, h, h', hk, hc => by
    obtain ⟨v, l, rfl⟩ := getS_cons h
    obtain ⟨v', l', rfl⟩ := getS_cons h'
    obtain ⟨id, i2, rfl, rfl, _, h2⟩ := getS_row h
    obtain ⟨id', i2', rfl, rfl, _, h2'⟩ := getS_row h'
    simp only [List.all_cons, Bool.and_eq_true] at ho
    obtain ⟨a, b, e1, e2, e3⟩ := hc
    refine ⟨a, b, e1, hk 0 (by simp) (by simp) a e2, set_CRs fs l l' x.2 x'.2 i2 i2' b ho.2 h2 h2' (fun k hk1 hk2 => ?_) e3⟩
    exact hk (k + 1) (by simp; omega) (by simp; omega)
theorem mk_Shps {hp : List (Nat × Blk)} : ∀ (fs : List FK) (l : List AV) (n : Nat) (x : (stT fs).den) (ids : List Nat), getS hp fs l = some (x, ids) → Shps (stT fs) l → Shps (stT fs) (mkF fs n x)
  | [], l, n, x, ids, h, hs => by
    obtain ⟨rfl, rfl⟩ := getS_nil h
    exact hs
  | .dat e :: fs, l, n, x, ids, h, hs => by
    obtain ⟨v, l, rfl⟩ := getS_cons h
    obtain ⟨rfl, h2⟩ := getS_dat h
    exact ⟨hs.1, mk_Shps fs l n x.2 ids h2 hs.2⟩
  | .row te e :: fs, l, n, x, ids, h, hs => by
    obtain ⟨v, l, rfl⟩ := getS_cons h
    obtain ⟨id, ids', rfl, rfl, _, h2⟩ := getS_row h
    exact ⟨trivial, mk_Shps fs l (n + 1) x.2 ids' h2 hs.2⟩
theorem set_Shps {hp hp' : List (Nat × Blk)} : ∀ (fs : List FK) (l l' : List AV) (x x' : (stT fs).den) (ids ids' : List Nat), getS hp fs l = some (x, ids) → getS hp' fs l' = some (x', ids') → Shps (stT fs) l' → Shps (stT fs) (setF' fs l x')
  | [], l, l', x, x', ids, ids', h, h', hs => by
    obtain ⟨rfl, rfl⟩ := getS_nil h'
    exact hs
  | .dat e :: fs, l, l', x, x', ids, ids', h, h', hs => by
    obtain ⟨v, l, rfl⟩ := getS_cons h
    obtain ⟨v', l', rfl⟩ := getS_cons h'
    obtain ⟨_, h2⟩ := getS_dat h
    obtain ⟨rfl, h2'⟩ := getS_dat h'
    exact ⟨hs.1, set_Shps fs l l' x.2 x'.2 ids ids' h2 h2' hs.2⟩
  | .row te e :: fs, l, l', x, x', ids, ids', h, h', hs => by
    obtain ⟨v, l, rfl⟩ := getS_cons h
    obtain ⟨v', l', rfl⟩ := getS_cons h'
    obtain ⟨id, i2, rfl, rfl, _, h2⟩ := getS_row h
    obtain ⟨id', i2', rfl, rfl, _, h2'⟩ := getS_row h'
    exact ⟨trivial, set_Shps fs l l' x.2 x'.2 i2 i2' h2 h2' hs.2⟩
theorem Shp_agg {fs : List FK} {l : List AV} : Shp (stT fs) (.agg l) ↔ Shps (stT fs) l := by
  cases fs with
  | nil => cases l <;> exact Iff.rfl
  | cons f fs => cases l <;> exact Iff.rfl

/-! ### Where the rows are -/
theorem mkH_at {hp : List (Nat × Blk)} : ∀ (fs : List FK) (l : List AV) (n : Nat) (x : (stT fs).den) (ids : List Nat), getS hp fs l = some (x, ids) → (∀ k (h : k < ids.length), lkb (mkH fs n x) (n + k) = lkb hp ids[k] ∧ ∃ te e xs, lkb hp ids[k] = .row te e xs false ∧ FK.row te e ∈ fs) ∧ ∀ j, (j < n ∨ n + ids.length ≤ j) → lkb (mkH fs n x) j = .none
  | [], l, n, x, ids, h => by
    obtain ⟨rfl, rfl⟩ := getS_nil h
    exact ⟨fun k hk => by simp at hk, fun j _ => rfl⟩
  | .dat e :: fs, l, n, x, ids, h => by
    obtain ⟨v, l, rfl⟩ := getS_cons h
    obtain ⟨_, h2⟩ := getS_dat h
    obtain ⟨q1, q2⟩ := mkH_at fs l n x.2 ids h2
    exact ⟨fun k hk => ⟨(q1 k hk).1, by obtain ⟨te, e', xs, g1, g2⟩ := (q1 k hk).2; exact ⟨te, e', xs, g1, List.mem_cons_of_mem _ g2⟩⟩, q2⟩
  | .row te e :: fs, l, n, x, ids, h => by
    obtain ⟨v, l, rfl⟩ := getS_cons h
    obtain ⟨id, ids', rfl, rfl, hb, h2⟩ := getS_row h
    obtain ⟨q1, q2⟩ := mkH_at fs l (n + 1) x.2 ids' h2
    refine ⟨fun k hk => ?_, fun j hj => ?_⟩
    · cases k with
      | zero =>
        refine ⟨?_, te, e, x.1, hb, by simp⟩
        show lkb ((n, .row te e x.1 false) :: mkH fs (n + 1) x.2) (n + 0) = lkb hp id
        rw [lkb_cons, if_pos (by omega), hb]
      | succ k =>
        have hk1 : k < ids'.length := by simp at hk; omega
        have := q1 k hk1
        refine ⟨?_, by obtain ⟨te, e', xs, g1, g2⟩ := this.2; exact ⟨te, e', xs, g1, List.mem_cons_of_mem _ g2⟩⟩
        show lkb ((n, .row te e x.1 false) :: mkH fs (n + 1) x.2) (n + (k + 1)) = lkb hp (ids'[k]'hk1)
        rw [lkb_cons, if_neg (by omega), show n + (k + 1) = n + 1 + k by omega]
        exact this.1
    · show lkb ((n, .row te e x.1 false) :: mkH fs (n + 1) x.2) j = .none
      simp only [List.length_cons] at hj
      rw [lkb_cons, if_neg (by omega)]
      exact q2 j (by omega)
theorem rowsB_at {hp hp' : List (Nat × Blk)} : ∀ (fs : List FK) (l l' : List AV) (x x' : (stT fs).den) (ids ids' : List Nat) (hp0 : List (Nat × Blk)), getS hp fs l = some (x, ids) → getS hp' fs l' = some (x', ids') → distN ids = true → ids.length = ids'.length ∧ (∀ k (h : k < ids.length) (h' : k < ids'.length), lkb (rowsB fs ids x' ++ hp0) ids[k] = lkb hp' ids'[k]) ∧ ∀ j, j ∉ ids → lkb (rowsB fs ids x' ++ hp0) j = lkb hp0 j
  | [], l, l', x, x', ids, ids', hp0, h, h', _ => by
    obtain ⟨rfl, rfl⟩ := getS_nil h
    obtain ⟨rfl, rfl⟩ := getS_nil h'
    exact ⟨rfl, fun k hk => by simp at hk, fun j _ => rfl⟩
  | .dat e :: fs, l, l', x, x', ids, ids', hp0, h, h', hd => by
    obtain ⟨v, l, rfl⟩ := getS_cons h
    obtain ⟨v', l', rfl⟩ := getS_cons h'
    obtain ⟨_, h2⟩ := getS_dat h
    obtain ⟨_, h2'⟩ := getS_dat h'
    exact rowsB_at fs l l' x.2 x'.2 ids ids' hp0 h2 h2' hd
  | .row te e :: fs, l, l', x, x', ids, ids', hp0, h, h', hd => by
    obtain ⟨v, l, rfl⟩ := getS_cons h
    obtain ⟨v', l', rfl⟩ := getS_cons h'
    obtain ⟨id, i2, rfl, rfl, _, h2⟩ := getS_row h
    obtain ⟨id', i2', rfl, rfl, hb', h2'⟩ := getS_row h'
    have hd : (!memN i2 id && distN i2) = true := hd
    rw [Bool.and_eq_true, Bool.not_eq_true'] at hd
    obtain ⟨q0, q1, q2⟩ := rowsB_at fs l l' x.2 x'.2 i2 i2' hp0 h2 h2' hd.2
    refine ⟨by simp [q0], fun k hk hk' => ?_, fun j hj => ?_⟩
    · cases k with
      | zero =>
        show lkb ((id, .row te e x'.1 false) :: (rowsB fs i2 x'.2 ++ hp0)) id = lkb hp' id'
        rw [lkb_cons, if_pos rfl, hb']
      | succ k =>
        have hk1 : k < i2.length := by simp at hk; omega
        show lkb ((id, .row te e x'.1 false) :: (rowsB fs i2 x'.2 ++ hp0)) i2[k] = lkb hp' i2'[k]
        rw [lkb_cons, if_neg (fun h => by
          have : memN i2 id = true := by rw [memN_iff, h]; exact List.getElem_mem hk1
          rw [hd.1] at this; cases this)]
        exact q1 k hk1 (by simp at hk'; omega)
    · show lkb ((id, .row te e x'.1 false) :: (rowsB fs i2 x'.2 ++ hp0)) j = _
      rw [lkb_cons, if_neg (fun h => hj (by rw [h]; simp))]
      exact q2 j (fun h => hj (List.mem_cons_of_mem _ h))
theorem getS_len {hp : List (Nat × Blk)} : ∀ (fs : List FK) (l : List AV) (x : (stT fs).den) (ids : List Nat), getS hp fs l = some (x, ids) → ids.length = nrow fs
  | [], l, x, ids, h => by
    obtain ⟨rfl, rfl⟩ := getS_nil h
    rfl
  | .dat e :: fs, l, x, ids, h => by
    obtain ⟨v, l, rfl⟩ := getS_cons h
    obtain ⟨_, h2⟩ := getS_dat h
    exact getS_len fs l x.2 ids h2
  | .row te e :: fs, l, x, ids, h => by
    obtain ⟨v, l, rfl⟩ := getS_cons h
    obtain ⟨id, i2, rfl, rfl, _, h2⟩ := getS_row h
    rw [List.length_cons, getS_len fs l x.2 i2 h2]; rfl
theorem mkH_app : ∀ (fs : List FK) (n : Nat) (x : (stT fs).den) (hp0 : List (Nat × Blk)), (∀ k, k < nrow fs → lkb (mkH fs n x ++ hp0) (n + k) = lkb (mkH fs n x) (n + k)) ∧ ∀ j, (j < n ∨ n + nrow fs ≤ j) → lkb (mkH fs n x ++ hp0) j = lkb hp0 j
  | [], n, x, hp0 => ⟨fun k hk => by simp [nrow] at hk, fun j _ => rfl⟩
  | .dat e :: fs, n, x, hp0 => mkH_app fs n x.2 hp0
  | .row te e :: fs, n, x, hp0 => by
    obtain ⟨q1, q2⟩ := mkH_app fs (n + 1) x.2 hp0
    refine ⟨fun k hk => ?_, fun j hj => ?_⟩
    · show lkb ((n, .row te e x.1 false) :: (mkH fs (n + 1) x.2 ++ hp0)) (n + k) = lkb ((n, .row te e x.1 false) :: mkH fs (n + 1) x.2) (n + k)
      rw [lkb_cons, lkb_cons]
      by_cases h : n = n + k
      · rw [if_pos h, if_pos h]
      · have hk : k < nrow fs + 1 := hk
        rw [if_neg h, if_neg h, show n + k = n + 1 + (k - 1) by omega]
        exact q1 (k - 1) (by omega)
    · show lkb ((n, .row te e x.1 false) :: (mkH fs (n + 1) x.2 ++ hp0)) j = _
      have hj : j < n ∨ n + (nrow fs + 1) ≤ j := hj
      rw [lkb_cons, if_neg (by omega)]
      exact q2 j (by omega)
theorem mk_CVs {hp : List (Nat × Blk)} {c c' : Cx} : ∀ (fs : List FK) (l : List AV) (n : Nat) (x : (stT fs).den) (ids : List Nat) (vs : List Value), fs.all FK.ok = true → getS hp fs l = some (x, ids) → (∀ k (h : k < ids.length), OwnSame c c' ids[k] (n + k)) → CVs c l vs → CVs c' (mkF fs n x) vs
  | [], l, n, x, ids, vs, _, h, _, hc => by
    obtain ⟨rfl, rfl⟩ := getS_nil h
    exact hc
  | .dat e :: fs, l, n, x, ids, vs, ho, h, hk, hc => by
    obtain ⟨v, l, rfl⟩ := getS_cons h
    obtain ⟨rfl, h2⟩ := getS_dat h
    simp only [List.all_cons, Bool.and_eq_true] at ho
    obtain ⟨a, b, e1, e2, e4, e3⟩ := hc
    exact ⟨a, b, e1, CR_flat e _ _ ho.1 e2, e4, mk_CVs fs l n x.2 ids b ho.2 h2 hk e3⟩
  | .row te e :: fs, l, n, x, ids, vs, ho, h, hk, hc => by
    obtain ⟨v, l, rfl⟩ := getS_cons h
    obtain ⟨id, ids', rfl, rfl, _, h2⟩ := getS_row h
    simp only [List.all_cons, Bool.and_eq_true] at ho
    obtain ⟨a, b, e1, e2, e4, e3⟩ := hc
    refine ⟨a, b, e1, hk 0 (by simp) _ e2, e4, mk_CVs fs l (n + 1) x.2 ids' b ho.2 h2 (fun k hk' => ?_) e3⟩
    have := hk (k + 1) (by simp; omega)
    rw [show n + 1 + k = n + (k + 1) by omega]; exact this
theorem unpack_ne {e : Ty} (h : flatTy e = true) (x : e.den) : (∀ l, unpack e x ≠ .tup l) ∧ unpack e x ≠ .und ∧ unpack e x ≠ .dead := by
  cases e <;> first | (cases h; done) | exact ⟨fun l h => (by cases h), fun h => (by cases h), fun h => (by cases h)⟩
theorem VR_one {c : Cx} {v : AV} {x : Value} (h : (∀ l, v ≠ .tup l) ∧ v ≠ .und ∧ v ≠ .dead) : VR c v x ↔ (CR c v x.cells.toList ∧ aggAV v = vAgg x) := by
  cases v <;> first | exact Iff.rfl | exact absurd rfl (h.1 _) | exact absurd rfl h.2.1 | exact absurd rfl h.2.2
/-- Results, over the new rows' numbers. -/
theorem mk_VR {hp : List (Nat × Blk)} {c c' : Cx} (fs : List FK) (l : List AV) (n : Nat) (x : (stT fs).den) (ids : List Nat) (z : Value) (ho : fs.all FK.ok = true) (h : getS hp fs l = some (x, ids)) (hk : ∀ k (h : k < ids.length), OwnSame c c' ids[k] (n + k)) (hv : VR c (tupOf l) z) : VR c' (tupOf (mkF fs n x)) z := by
  match fs, l, x, ho, h, hv with
  | [], l, x, ho, h, hv =>
    obtain ⟨rfl, rfl⟩ := getS_nil h
    obtain ⟨xs, e1, e2⟩ := hv
    exact ⟨xs, e1, e2⟩
  | [.dat e], l, x, ho, h, hv =>
    obtain ⟨v, l, rfl⟩ := getS_cons h
    obtain ⟨rfl, h2⟩ := getS_dat h
    obtain ⟨rfl, rfl⟩ := getS_nil h2
    simp only [List.all_cons, Bool.and_eq_true] at ho
    have hv : VR c (unpack e x.1) z := hv
    show VR c' (unpack e x.1) z
    have hv := (VR_one (unpack_ne ho.1 _)).1 hv
    exact (VR_one (unpack_ne ho.1 _)).2 ⟨CR_flat e _ _ ho.1 hv.1, hv.2⟩
  | [.row te e], l, x, ho, h, hv =>
    obtain ⟨v, l, rfl⟩ := getS_cons h
    obtain ⟨id, i2, rfl, rfl, _, h2⟩ := getS_row h
    obtain ⟨rfl, rfl⟩ := getS_nil h2
    exact ⟨hk 0 (by simp) _ hv.1, hv.2⟩
  | f :: f2 :: fs, l, x, ho, h, hv =>
    obtain ⟨v, l, rfl⟩ := getS_cons h
    have hl2 : ∃ v2 l2, l = v2 :: l2 := by
      cases f with
      | dat e => exact getS_cons (getS_dat h).2
      | row te e => obtain ⟨_, _, _, _, _, h2⟩ := getS_row h; exact getS_cons h2
    obtain ⟨v2, l2, rfl⟩ := hl2
    obtain ⟨xs, e1, e2⟩ := hv
    have := mk_CVs (f :: f2 :: fs) _ n x ids _ ho h hk e2
    cases f <;> cases f2 <;> exact ⟨xs, e1, this⟩
theorem distN_left : ∀ {a b : List Nat}, distN (a ++ b) = true → distN a = true
  | [], b, _ => rfl
  | x :: a, b, h => by
    have h : (!memN (a ++ b) x && distN (a ++ b)) = true := h
    show (!memN a x && distN a) = true
    rw [Bool.and_eq_true, Bool.not_eq_true'] at h ⊢
    rw [memN_append, Bool.or_eq_false_iff] at h
    exact ⟨h.1.1, distN_left h.2⟩
def killsB (l : List Nat) : Blk → Blk
  | .var e v f => .var e (killAll l v) f
  | b => b
theorem lkb_killsH : ∀ (l : List Nat) (hp : List (Nat × Blk)) (i : Nat), lkb (killsH l hp) i = killsB l (lkb hp i)
  | [], hp, i => by
    show lkb hp i = killsB [] (lkb hp i)
    cases lkb hp i <;> rfl
  | k :: l, hp, i => by
    show lkb (killH k (killsH l hp)) i = _
    rw [lkb_killH, lkb_killsH l hp i]
    cases lkb hp i <;> rfl
mutual
theorem Free_or {K K1 K2 : Nat → Prop} (h : ∀ i, K i → K1 i ∨ K2 i) : ∀ v : AV, Free K1 v → Free K2 v → Free K v
  | .own id, h1, h2 => fun hk => (h id hk).elim h1 h2
  | .ptr id _, h1, h2 => fun hk => (h id hk).elim h1 h2
  | .vsl id _, h1, h2 => fun hk => (h id hk).elim h1 h2
  | .vw id _ _, h1, h2 => fun hk => (h id hk).elim h1 h2
  | .agg l, h1, h2 => Frees_or h l h1 h2
  | .tup l, h1, h2 => Frees_or h l h1 h2
  | .fn f a d, h1, h2 => ⟨Frees_or h a h1.1 h2.1, Frees_or h d h1.2 h2.2⟩
  | .int _ _, _, _ | .bool _, _, _ | .str _, _, _ | .ro _ _, _, _ | .arr _ _ _, _, _ | .rop _ _, _, _ | .raw _ _, _, _ | .con _, _, _ | .und, _, _ | .dead, _, _ => trivial
theorem Frees_or {K K1 K2 : Nat → Prop} (h : ∀ i, K i → K1 i ∨ K2 i) : ∀ l : List AV, Frees K1 l → Frees K2 l → Frees K l
  | [], _, _ => trivial
  | v :: l, h1, h2 => ⟨Free_or h v h1.1 h2.1, Frees_or h l h1.2 h2.2⟩
end
mutual
theorem Free_kill {K : Nat → Prop} (k : Nat) : ∀ {v : AV}, Free K v → Free K (kill k v)
  | .own i, h => by
    show Free K (cond (Nat.beq i k) .dead (.own i))
    cases Nat.beq i k
    · exact h
    · exact trivial
  | .ptr i p, h => by
    show Free K (cond (Nat.beq i k) .dead (.ptr i p))
    cases Nat.beq i k
    · exact h
    · exact trivial
  | .vsl i n, h => by
    show Free K (cond (Nat.beq i k) .dead (.vsl i n))
    cases Nat.beq i k
    · exact h
    · exact trivial
  | .vw i a b, h => by
    show Free K (cond (Nat.beq i k) .dead (.vw i a b))
    cases Nat.beq i k
    · exact h
    · exact trivial
  | .agg l, h => Frees_kill k (l := l) h
  | .tup l, h => Frees_kill k (l := l) h
  | .fn f a d, h => ⟨Frees_kill k (l := a) h.1, Frees_kill k (l := d) h.2⟩
  | .int _ _, _ | .bool _, _ | .str _, _ | .ro _ _, _ | .arr _ _ _, _ | .rop _ _, _ | .raw _ _, _ | .con _, _ | .und, _ | .dead, _ => trivial
theorem Frees_kill {K : Nat → Prop} (k : Nat) : ∀ {l : List AV}, Frees K l → Frees K (kills k l)
  | [], _ => trivial
  | v :: l, h => ⟨Free_kill k h.1, Frees_kill k (l := l) h.2⟩
end
theorem killAll_free : ∀ (l : List Nat) (v : AV), Free (fun i => i ∈ l) (killAll l v)
  | [], v => Free_mono (K' := fun _ => False) (fun i h => by cases h) v (Free_no v)
  | k :: l, v => by
    show Free _ (kill k (killAll l v))
    have h1 := kill_free k (killAll l v)
    have h2 := Free_kill k (killAll_free l v)
    exact Free_or (fun i hi => by
      rcases List.mem_cons.1 hi with h | h
      · exact .inl h
      · exact .inr h) _ h1 h2
theorem CR_killAll (c : Cx) : ∀ (l : List Nat) (v : AV) (vs : List Value), CR c v vs → CR c (killAll l v) vs
  | [], v, vs, h => h
  | k :: l, v, vs, h => CR_kill c k _ vs (CR_killAll c l v vs h)
theorem Shp_killAll : ∀ (l : List Nat) (e : Ty) (v : AV), Shp e v → Shp e (killAll l v)
  | [], e, v, h => h
  | k :: l, e, v, h => Shp_kill k e _ (Shp_killAll l e v h)
theorem killAll_raw : ∀ (l : List Nat) (b : Nat) (w : World), killAll l (.raw b w) = .raw b w
  | [], _, _ => rfl
  | k :: l, b, w => by show kill k (killAll l (.raw b w)) = _; rw [killAll_raw l b w]; rfl
theorem killAll_ptr : ∀ (l : List Nat) (i : Nat) (p : List Step), memN l i = false → killAll l (.ptr i p) = .ptr i p
  | [], _, _, _ => rfl
  | k :: l, i, p, h => by
    have h : cond (Nat.beq k i) true (memN l i) = false := h
    cases hb : Nat.beq k i with
    | true => rw [hb] at h; cases h
    | false =>
      rw [hb] at h
      show kill k (killAll l (.ptr i p)) = _
      rw [killAll_ptr l i p h]
      show cond (Nat.beq i k) AV.dead (AV.ptr i p) = _
      rw [beq_swap, hb]; rfl
/-- A block whose references are gone, in another world. -/
theorem HB_extM {X : Fix} {ids : List Nat} {c c' : Cx} {id : Nat} {b : Blk} (hx : Ext (fun i => i ∈ ids) c c') (h1 : c'.ρ id = c.ρ id) (h2 : live b → ∀ cs T z, c.w.heap[c.ρ id]? = some (.cells cs T z) → c'.w.heap[c.ρ id]? = some (.cells cs T z)) (h : HB X c id b) : HB X c' id (killsB ids b) := by
  cases b with
  | none => trivial
  | var e v f =>
    obtain ⟨g1, cs, T, g2, g3, g4, g5⟩ := h
    exact ⟨by rw [h1]; exact g1, cs, T, by rw [h1]; exact h2 trivial _ _ _ g2, CR_ext hx _ _ (killAll_free ids v) (CR_killAll c ids v _ g3), Shp_killAll ids e v g4, g5⟩
  | row te e xs f =>
    obtain ⟨g0, h⟩ := h
    refine ⟨g0, fun hne => ?_⟩
    obtain ⟨g1, cs, g2, g3, g4⟩ := h hne
    exact ⟨by rw [h1]; exact g1, cs, by rw [h1]; exact h2 hne _ _ _ g2, g3, EncL_mono (fun x vs h => Enc_mono hx.ok e x vs h) _ _ g4⟩
theorem Inv_mono {P : Program} {g : FuncId} {xs : Array Value} {w : World} {Q Q' : Value → World → Prop} (h : Inv P g xs w Q) (hq : ∀ z w', Q z w' → Q' z w') : Inv P g xs w Q' := by
  rcases h with ⟨z, w', h1, h2⟩ | ⟨h1, h2⟩
  · exact .inl ⟨z, w', h1, hq z w' h2⟩
  · exact .inr ⟨h1, calls_mono h2 fun e w' ⟨z, e1, e2⟩ => ⟨z, e1, hq z w' e2⟩⟩
theorem distN_ne : ∀ {l : List Nat}, distN l = true → ∀ i j (hi : i < l.length) (hj : j < l.length), l[i] = l[j] → i = j
  | [], _, i, j, hi, _, _ => by simp at hi
  | a :: l, h, i, j, hi, hj, e => by
    have h : (!memN l a && distN l) = true := h
    rw [Bool.and_eq_true, Bool.not_eq_true'] at h
    have no : ∀ k (hk : k < l.length), l[k] ≠ a := fun k hk e => by
      have : memN l a = true := by rw [memN_iff, ← e]; exact List.getElem_mem hk
      rw [h.1] at this; cases this
    cases i with
    | zero => cases j with
      | zero => rfl
      | succ j => exact absurd e.symm (no j (by simp at hj; omega))
    | succ i => cases j with
      | zero => exact absurd e (no i (by simp at hi; omega))
      | succ j => rw [distN_ne h.2 i j (by simp at hi; omega) (by simp at hj; omega) e]

/-! ### Results that are nil -/
theorem below_none : ∀ {hp : List (Nat × Blk)} {n : Nat}, below n hp = true → ∀ k, n ≤ k → lkb hp k = .none
  | [], n, _, k, _ => rfl
  | (j, b) :: hp, n, h, k, hk => by
    have h : (Nat.ble (j + 1) n && below n hp) = true := h
    rw [Bool.and_eq_true] at h
    have := Nat.le_of_ble_eq_true h.1
    rw [lkb_cons, if_neg (by omega)]
    exact below_none h.2 k hk
theorem convH_low : ∀ (rk : List FK) (l : List AV) (n : Nat) (hp : List (Nat × Blk)) (i : Nat), i < n → lkb (convH rk l n hp) i = lkb hp i
  | [], l, n, hp, i, _ => by cases l <;> rfl
  | .row te e :: rk, [], n, hp, i, _ => rfl
  | .dat e :: rk, [], n, hp, i, _ => rfl
  | .dat e :: rk, v :: l, n, hp, i, h => convH_low rk l n hp i h
  | .row te e :: rk, v :: l, n, hp, i, h => by
    unfold convH
    split
    · rw [convH_low rk l (n + 1) _ i (by omega), lkb_cons, if_neg (by omega)]
    · exact convH_low rk l (n + 1) hp i (by omega)
theorem conv_ok {X : Fix} {ρ : Nat → Nat} {fr : List (Nat × AV)} {ks : Option Ks} {a : Act} {w : World} : ∀ (rk : List FK) (l : List AV) (n : Nat) (hp : List (Nat × Blk)), rk.all FK.wf = true → (∀ k, n ≤ k → lkb hp k = .none) → RR X ρ ⟨fr, hp, ks⟩ a w →
    RR X ρ ⟨fr, convH rk l n hp, ks⟩ a w ∧ Ext (fun _ => False) (cx X ρ hp w) (cx X ρ (convH rk l n hp) w) ∧ (∀ zs, CVs (cx X ρ hp w) l zs → CVs (cx X ρ (convH rk l n hp) w) (convL rk l n) zs)
  | [], l, n, hp, _, _, R => by
    have e : convH [] l n hp = hp := by cases l <;> rfl
    have e2 : convL [] l n = l := by cases l <;> rfl
    rw [e, e2]; exact ⟨R, Ext.refl _, fun _ h => h⟩
  | .row te e :: rk, [], n, hp, _, _, R => ⟨R, Ext.refl _, fun _ h => h⟩
  | .dat e :: rk, [], n, hp, _, _, R => ⟨R, Ext.refl _, fun _ h => h⟩
  | .dat e :: rk, v :: l, n, hp, hw, hn, R => by
    simp only [List.all_cons, Bool.and_eq_true] at hw
    obtain ⟨R1, x1, c1⟩ := conv_ok rk l n hp hw.2 hn R
    exact ⟨R1, x1, fun zs ⟨x, ys, e1, e2, e3, e4⟩ => ⟨x, ys, e1, CR_ext x1 v _ (Free_no v) e2, e3, c1 ys e4⟩⟩
  | .row te e :: rk, v :: l, n, hp, hw, hn, R => by
    simp only [List.all_cons, Bool.and_eq_true] at hw
    unfold convH convL
    split
    · have hz := hn n (Nat.le_refl n)
      obtain ⟨x0, R0⟩ := RR.turn0 (ρ' := ρ) (w' := w) R n (.row te e [] false) hz (fun _ _ => rfl) R.below (Nat.le_refl _) (fun _ _ _ => rfl) (fun h => absurd rfl h) (fun h => absurd rfl h) (fun _ _ _ => ⟨wfTB_ok hw.1, fun h => absurd rfl h⟩)
      have x0' : Ext (fun _ => False) (cx X ρ hp w) (cx X ρ ((n, .row te e [] false) :: hp) w) := ⟨x0.ok, fun id e' v' f' _ hv => x0.var id e' v' f' (fun h => by subst h; rw [show lkb (cx X ρ hp w).hp id = lkb hp id from rfl, hz] at hv; cases hv) hv, fun id te' e' xs f' _ hv => x0.row id te' e' xs f' (fun h => by subst h; rw [show lkb (cx X ρ hp w).hp id = lkb hp id from rfl, hz] at hv; cases hv) hv⟩
      obtain ⟨R1, x1, c1⟩ := conv_ok (X := X) (ρ := ρ) (fr := fr) (ks := ks) (a := a) (w := w) rk l (n + 1) ((n, .row te e [] false) :: hp) hw.2 (fun k hk => by rw [lkb_cons, if_neg (by omega)]; exact hn k (by omega)) R0
      refine ⟨R1, Ext.trans x0' x1, fun zs ⟨x, ys, e1, e2, e3, e4⟩ => ⟨x, ys, e1, ?_, e3, c1 ys (CVs_ext x0' l ys (Frees_no l) e4)⟩⟩
      rw [e2.1]
      have := VR_own_of (c := cx X ρ (convH rk l (n + 1) ((n, .row te e [] false) :: hp)) w) (d := n) (A := none) (n := 0) (xs := ([] : List e.den)) (f := false) (te := te) (by
        show lkb (convH rk l (n + 1) ((n, .row te e [] false) :: hp)) n = _
        rw [convH_low _ _ _ _ _ (by omega), lkb_cons, if_pos rfl]) (Nat.zero_le _) (Nat.zero_le _) (fun _ => rfl) (fun h => absurd rfl h)
      exact this.1
    · rename_i hv
      obtain ⟨R1, x1, c1⟩ := conv_ok rk l (n + 1) hp hw.2 (fun k hk => hn k (by omega)) R
      refine ⟨R1, x1, fun zs ⟨x, ys, e1, e2, e3, e4⟩ => ⟨x, ys, e1, ?_, ?_, c1 ys e4⟩⟩
      · exact CR_ext x1 v _ (Free_no v) e2
      · exact e3
theorem conv_VR {X : Fix} {ρ : Nat → Nat} {hp hp2 : List (Nat × Blk)} {w : World} {rk : List FK} {l : List AV} {n : Nat} {z : Value} (hok : okVs l = true)
    (hc : ∀ zs, CVs (cx X ρ hp w) l zs → CVs (cx X ρ hp2 w) (convL rk l n) zs) (h : VR (cx X ρ hp w) (tupOf l) z) : VR (cx X ρ hp2 w) (tupOf (convL rk l n)) z := by
  match l, hok, hc, h with
  | [], _, hc, h =>
    have e : convL rk [] n = [] := by cases rk with | nil => rfl | cons f rk => cases f <;> rfl
    rw [e] at hc ⊢
    obtain ⟨xs, e1, e2⟩ := h
    exact ⟨xs, e1, hc _ e2⟩
  | [v], hok, hc, h =>
    have hv : (∀ m, v ≠ .tup m) ∧ v ≠ .und ∧ v ≠ .dead := by cases v <;> first | (simp [okVs] at hok; done) | exact ⟨fun _ h => (by cases h), fun h => (by cases h), fun h => (by cases h)⟩
    have h : VR (cx X ρ hp w) v z := h
    obtain ⟨h1, h2⟩ := (VR_one hv).1 h
    have h3 := hc [z] ⟨z, [], rfl, h1, h2, rfl⟩
    have : ∃ v', convL rk [v] n = [v'] ∧ ((∀ m, v' ≠ .tup m) ∧ v' ≠ .und ∧ v' ≠ .dead) := by
      cases rk with
      | nil => exact ⟨v, rfl, hv⟩
      | cons f rk =>
        have e : ∀ k, convL rk [] k = [] := fun k => by cases rk with | nil => rfl | cons f rk => cases f <;> rfl
        cases f with
        | dat e1 => exact ⟨v, by show v :: convL rk [] n = _; rw [e], hv⟩
        | row te e1 =>
          refine ⟨_, by unfold convL; rw [e], ?_⟩
          split
          · exact ⟨fun _ h => (by cases h), fun h => (by cases h), fun h => (by cases h)⟩
          · exact hv
    obtain ⟨v', e1, e2⟩ := this
    rw [e1] at h3 ⊢
    obtain ⟨x, ys, q1, q2, q3, q4⟩ := h3
    cases q1
    exact (VR_one e2).2 ⟨q2, q3⟩
  | v1 :: v2 :: l, _, hc, h =>
    obtain ⟨xs, e1, e2⟩ := h
    have h3 := hc _ e2
    have : ∃ u1 u2 ul, convL rk (v1 :: v2 :: l) n = u1 :: u2 :: ul := by
      cases rk with
      | nil => exact ⟨_, _, _, rfl⟩
      | cons f rk =>
        have e : ∀ k, ∃ u ul, convL rk (v2 :: l) k = u :: ul := fun k => by
          cases rk with
          | nil => exact ⟨_, _, rfl⟩
          | cons f rk => cases f <;> exact ⟨_, _, rfl⟩
        cases f with
        | dat e1 => obtain ⟨u, ul, q⟩ := e n; exact ⟨v1, u, ul, by show v1 :: convL rk (v2 :: l) n = _; rw [q]⟩
        | row te e1 => obtain ⟨u, ul, q⟩ := e (n + 1); exact ⟨_, u, ul, by conv => lhs; unfold convL; rw [q]⟩
    obtain ⟨u1, u2, ul, q⟩ := this
    rw [q] at h3 ⊢
    exact ⟨xs, e1, h3⟩

theorem sum_core {P : Program} {g : FuncId} {fs rk : List FK} {T0 : Proc} {off : Nat} (hfs : fs.all FK.ok = true) (hrk : rk.all FK.ok = true) (hrw : rk.all FK.wf = true) (hT : SCon P g T0)
    {X : Fix} {ρ : Nat → Nat} {hp : List (Nat × Blk)} {w : World} {id : Nat} {rest : List AV} {l : List AV} {x x' : (stT fs).den} {ids : List Nat} {y0 : (stT rk).den} {xs : Array Value} {a0 : Act} {K : List (Nat × Blk) → Option Ks → AV → Prop}
    (hXP : X.P = P) (R : RR X ρ ⟨[], hp, some ([], 0)⟩ a0 w) (hok : okVs (.ptr id [] :: rest) = true) (hargs : CVs (cx X ρ hp w) (.ptr id [] :: rest) xs.toList)
    (hb : lkb hp id = .var (stT fs) (.agg l) false) (hgs : getS hp fs l = some (x, ids)) (hd0 : distN (id :: (ids ++ newN off rk)) = true) (hpu : pureAV.pures rest = true)
    (hG : T0 1024 (hpC fs x) (.ptr 0 [] :: rest) (finS fs rk x' y0))
    (hK : K ((id, .var (stT fs) (.agg (setF' fs l x')) false) :: (rowsB fs ids x' ++ (mkH rk (off + 1) y0 ++ killsH (ids ++ newN off rk) hp))) (some (ids ++ newN off rk, 0)) (tupOf (mkF rk (off + 1) y0))) :
    Inv P g xs w fun z w' => ∃ ρ' hp' ks r a1, K hp' (some ks) r ∧ RR X ρ' ⟨[], hp', some ks⟩ a1 w' ∧ VR (cx X ρ' hp' w') r z := by
  have hdI : memN (ids ++ newN off rk) id = false ∧ distN (ids ++ newN off rk) = true := by
    have hd0 : (!memN (ids ++ newN off rk) id && distN (ids ++ newN off rk)) = true := hd0
    rw [Bool.and_eq_true, Bool.not_eq_true'] at hd0; exact hd0
  have hd2 : memN ids id = false ∧ distN ids = true := by
    have := hdI.1
    rw [memN_append, Bool.or_eq_false_iff] at this
    exact ⟨this.1, distN_left hdI.2⟩
  have hidn : id ∉ ids := fun h => by rw [← memN_iff, hd2.1] at h; cases h
  obtain ⟨hrow, hnone⟩ := mkH_at fs l 1 x ids hgs
  obtain ⟨ρc, hρ⟩ : ∃ ρc : Nat → Nat, ρc = fun c => match c with
    | 0 => ρ id
    | k + 1 => match ids[k]? with
      | some i => ρ i
      | none => 0 := ⟨_, rfl⟩
  have hρ0 : ρc 0 = ρ id := by rw [hρ]
  have hρk : ∀ k (h : k < ids.length), ρc (1 + k) = ρ ids[k] := fun k h => by
    rw [hρ, show 1 + k = k + 1 by omega]
    simp only
    rw [List.getElem?_eq_getElem h]
  have hl0 : lkb (hpC fs x) 0 = .var (stT fs) (.agg (mkF fs 1 x)) false := by
    unfold hpC; rw [lkb_cons, if_pos rfl]
  have hlk : ∀ k (h : k < ids.length), lkb (hpC fs x) (1 + k) = lkb hp ids[k] := fun k h => by
    unfold hpC; rw [lkb_cons, if_neg (by omega)]; exact (hrow k h).1
  have hln : ∀ j, j ≠ 0 → (∀ k, k < ids.length → j ≠ 1 + k) → lkb (hpC fs x) j = .none := fun j h0 h1 => by
    unfold hpC
    rw [lkb_cons, if_neg (by omega)]
    refine hnone j (.inr ?_)
    by_cases q : 1 + ids.length ≤ j
    · exact q
    · exact absurd (show j = 1 + (j - 1) by omega) (h1 (j - 1) (by omega))
  have cases3 : ∀ (Q : Nat → Prop), Q 0 → (∀ k (h : k < ids.length), Q (1 + k)) → (∀ j, lkb (hpC fs x) j = .none → Q j) → ∀ j, Q j := fun Q h0 h1 h2 j => by
    by_cases q0 : j = 0
    · rw [q0]; exact h0
    · by_cases q1 : ∃ k, k < ids.length ∧ j = 1 + k
      · obtain ⟨k, hk, e⟩ := q1
        rw [e]; exact h1 k hk
      · exact h2 j (hln j q0 fun k hk e => q1 ⟨k, hk, e⟩)
  have hokc : ∀ b, okC X ρ hp w b → okC X ρc (hpC fs x) w b := fun b ⟨h1, h2, h3⟩ => ⟨h1, h2, cases3 _
    (fun _ e => h3 id (by rw [hb]; trivial) (by rw [← hρ0]; exact e))
    (fun k h hl e => h3 ids[k] (by rw [← hlk k h]; exact hl) (by rw [← hρk k h]; exact e))
    (fun j hj hl => by rw [hj] at hl; exact hl.elim)⟩
  -- who is live, and unfrozen, lies where the caller's block lies
  have hreal : ∀ c, live (lkb (hpC fs x) c) → ∃ i, ((c = 0 ∧ i = id) ∨ ∃ k, ∃ h : k < ids.length, c = 1 + k ∧ i = ids[k]) ∧ live (lkb hp i) ∧ ρc c = ρ i := cases3 _
    (fun _ => ⟨id, .inl ⟨rfl, rfl⟩, by rw [hb]; trivial, hρ0⟩)
    (fun k h hl => ⟨ids[k], .inr ⟨k, h, rfl, rfl⟩, by rw [← hlk k h]; exact hl, hρk k h⟩)
    (fun j hj hl => by rw [hj] at hl; exact hl.elim)
  have hheap := R.heap
  have hinj := R.inj
  simp only at hheap hinj
  classical
  obtain ⟨X2, hX2⟩ : ∃ X2 : Fix, X2 = { X with stk := fun b => (match b with
      | 0 => .ptr 0 []
      | b + 1 => if okC X ρc (hpC fs x) w b then .raw b w else .dead), stv := fun b => (match b with
      | 0 => .pointer (some ⟨ρ id, 0, none⟩)
      | b + 1 => .pointer (some ⟨b, 0, none⟩)), lim := w.heap.size, sp := fun _ w' => X.sp 0 w' ∧ DefOk X.nm (max X.base X.lim) a0.defers w', spk := fun _ w1 w2 hk hz h => ⟨X.spk 0 w1 w2 (hk.mono R.lim) hz h.1, DefOk.keepB R.defers.1 h.2 hk⟩ } := ⟨_, rfl⟩
  have hc2 : ∀ ρ' hp' w', cx X2 ρ' hp' w' = cx X ρ' hp' w' := fun _ _ _ => by rw [hX2]; rfl
  have hb2 : X2.base = X.base := by rw [hX2]; rfl
  have hsame : ∀ k (h : k < ids.length), OwnSame (cx X ρ hp w) (cx X ρc (hpC fs x) w) ids[k] (1 + k) := fun k h => OwnSame.of (hlk k h) fun _ _ _ _ _ _ => ⟨hρk k h, rfl⟩
  have RR2 : RR X2 ρc ⟨[], hpC fs x, some ([], 0)⟩ { a0 with defers := [] } w := by
    refine ⟨by rw [hX2]; exact R.size, by rw [hX2]; exact ⟨Marks.nil _ _, fun _ => rfl⟩, by rw [hX2]; exact R.ok0, by rw [hX2]; exact R.below, ?_, ?_, fun d => trivial, ?_, ?_, by rw [hX2]; exact Nat.le_refl _⟩
    · show ∀ j, HB X2 (cx X2 ρc (hpC fs x) w) j (lkb (hpC fs x) j)
      rw [hc2]
      refine cases3 _ ?_ (fun k h => ?_) (fun j hj => by rw [hj]; trivial)
      · have := hheap id
        rw [hb] at this
        obtain ⟨g1, cs, T, g2, g3, g4, g5⟩ := this
        rw [hl0]
        refine ⟨by rw [hb2]; show _ ≤ ρc 0; rw [hρ0]; exact g1, cs, T, by show w.heap[ρc 0]? = _; rw [hρ0]; exact g2, ?_, Shp_agg.2 (mk_Shps fs l 1 x ids hgs (Shp_agg.1 g4)), g5⟩
        exact mk_CRs fs l 1 x ids _ hfs hgs hsame g3
      · have := hheap ids[k]
        obtain ⟨te, e, ys, q1, q2⟩ := (hrow k h).2
        rw [hlk k h]
        rw [q1] at this ⊢
        obtain ⟨g0, this⟩ := this
        refine ⟨g0, fun hne => ?_⟩
        obtain ⟨g1, cs, g2, g3, g4⟩ := this hne
        refine ⟨by rw [hb2]; show _ ≤ ρc (1 + k); rw [hρk k h]; exact g1, cs, by show w.heap[ρc (1 + k)]? = _; rw [hρk k h]; exact g2, g3, EncL_mono (fun y vs he => Enc_mono (fun b hb => ⟨hokc b hb, SameC.refl w b⟩) e y vs he) _ _ g4⟩
    · intro c c' h1 h2 he
      obtain ⟨i, q1, q2, q3⟩ := hreal c h1
      obtain ⟨i', p1, p2, p3⟩ := hreal c' h2
      have hii : i = i' := hinj i i' q2 p2 (by rw [← q3, ← p3]; exact he)
      subst hii
      rcases q1 with ⟨q1, q4⟩ | ⟨k, hk, q1, q4⟩ <;> rcases p1 with ⟨p1, p4⟩ | ⟨k', hk', p1, p4⟩
      · rw [q1, p1]
      · exact absurd (by rw [← q4, p4]; exact List.getElem_mem hk') hidn
      · exact absurd (by rw [← p4, q4]; exact List.getElem_mem hk) hidn
      · rw [q1, p1, distN_ne hd2.2 k k' hk hk' (by rw [← q4, ← p4])]
    · intro ks hks i
      cases hks
      rw [show (⟨[], hpC fs x, some ([], 0)⟩ : St).hp = hpC fs x from rfl, hc2, hX2]
      show VR _ (match i with | 0 => .ptr 0 [] | b + 1 => if okC X ρc (hpC fs x) w b then .raw b w else .dead) (match i with | 0 => .pointer (some ⟨ρ id, 0, none⟩) | b + 1 => .pointer (some ⟨b, 0, none⟩))
      cases i with
      | zero =>
        refine ⟨⟨0, stT fs, by show pathB (lkb (hpC fs x) 0) [] = _; rw [hl0]; rfl, ?_⟩, rfl⟩
        show [Value.pointer (some ⟨ρ id, 0, none⟩)] = [.pointer (some ⟨ρc 0, 0, none⟩)]
        rw [hρ0]
      | succ b =>
        simp only
        split
        · rename_i hbk
          exact ⟨⟨rfl, hbk, SameC.refl w b⟩, rfl⟩
        · trivial
    · intro ks hks
      cases hks
      rw [hX2]
      exact ⟨R.sp _ rfl, R.defers⟩
  have hargs2 : CVs (cx X2 ρc (hpC fs x) w) (.ptr 0 [] :: rest) xs.toList := by
    rw [hc2]
    obtain ⟨y, ys, e1, e2, e3, e4⟩ := hargs
    refine ⟨y, ys, e1, ?_, e3, CVs_pure (fun b hb => ⟨hokc b hb, SameC.refl w b⟩) rest ys hpu e4⟩
    obtain ⟨o, t, q1, q2⟩ := e2
    have q1 : pathB (lkb hp id) [] = some (o, t) := q1
    rw [hb] at q1
    refine ⟨o, t, by show pathB (lkb (hpC fs x) 0) [] = _; rw [hl0]; exact q1, ?_⟩
    rw [q2]
    show [Value.pointer (some ⟨ρ id, o, none⟩)] = [.pointer (some ⟨ρc 0, o, none⟩)]
    rw [hρ0]
  refine Inv_mono (hT 1024 X2 ρc (hpC fs x) w (.ptr 0 [] :: rest) xs { a0 with defers := [] } (finS fs rk x' y0) (by rw [hX2]; exact hXP) RR2 hok hargs2 hG) fun z w' ⟨ρ', hp0, ks, r1, a1, hF, R3, hv⟩ => ?_
  obtain ⟨nn, l', ids', vals0, js, kl, p, hbel, hovs, b0, hgs', hre, hgr, hd', hks, hkl⟩ := hF
  cases hks
  subst hre
  obtain ⟨R3, _, cV⟩ := conv_ok rk vals0 nn hp0 hrw (below_none hbel) R3
  have hv := conv_VR hovs cV hv
  obtain ⟨vals, hvals⟩ : ∃ vals, convL rk vals0 nn = vals := ⟨_, rfl⟩
  obtain ⟨hp', hhp'⟩ : ∃ hp', convH rk vals0 nn hp0 = hp' := ⟨_, rfl⟩
  rw [hvals] at hv hgr
  rw [hhp'] at b0 hgs' hgr R3 hv
  rw [hc2] at hv
  obtain ⟨J, hJ⟩ : ∃ J, J = ids' ++ js := ⟨_, rfl⟩
  obtain ⟨I, hI⟩ : ∃ I, I = ids ++ newN off rk := ⟨_, rfl⟩
  rw [← hI] at hdI hK
  rw [← hJ] at hd'
  have hjl : js.length = nrow rk := getS_len rk vals y0 js hgr
  have hNl : (newN off rk).length = nrow rk := by unfold newN; simp
  have hd3 : memN J 0 = false ∧ distN J = true := by
    have hd' : (!memN J 0 && distN J) = true := hd'
    rw [Bool.and_eq_true, Bool.not_eq_true'] at hd'; exact hd'
  have hidI : id ∉ I := fun h => by rw [← memN_iff, hdI.1] at h; cases h
  have hsub : ∀ i, i ∈ ids → i ∈ I := fun i hi => by rw [hI]; exact List.mem_append_left _ hi
  have h0n : 0 ∉ J := fun h => by rw [← memN_iff, hd3.1] at h; cases h
  have h3heap : ∀ j, HB X2 (cx X ρ' hp' w') j (lkb hp' j) := fun j => by have := R3.heap j; rw [show (⟨[], hp', some (kl, p)⟩ : St).hp = hp' from rfl, hc2] at this; exact this
  have h3inj := R3.inj
  simp only at h3inj
  have h3stk : ∀ i, VR (cx X ρ' hp' w') (killAll kl (match i with | 0 => .ptr 0 [] | b + 1 => if okC X ρc (hpC fs x) w b then .raw b w else .dead)) (match i with | 0 => .pointer (some ⟨ρ id, 0, none⟩) | b + 1 => .pointer (some ⟨b, 0, none⟩)) := fun i => by
    have := R3.stk (kl, p) rfl i
    rw [show (⟨[], hp', some (kl, p)⟩ : St).hp = hp' from rfl, hc2, hX2] at this
    exact this
  have hp0 : ρ' 0 = ρ id := by
    have := h3stk 0
    simp only at this
    rw [killAll_ptr kl 0 [] hkl] at this
    obtain ⟨o, tt, _, q⟩ := this.1
    have q : [Value.pointer (some ⟨ρ id, 0, none⟩)] = [.pointer (some ⟨ρ' 0, o, none⟩)] := q
    simp only [List.cons.injEq, Value.pointer.injEq, Option.some.injEq, Addr.mk.injEq, and_true] at q
    exact q.1.symm
  have hraw : ∀ b, okC X ρc (hpC fs x) w b → okC X ρ' hp' w' b ∧ SameC w w' b := fun b hbk => by
    have := h3stk (b + 1)
    simp only at this
    rw [if_pos hbk, killAll_raw] at this
    exact ⟨this.1.2.1, this.1.2.2⟩
  obtain ⟨hlen, hrow2, hother⟩ := rowsB_at fs l l' x x' ids ids' (mkH rk (off + 1) y0 ++ killsH I hp) hgs hgs' hd2.2
  obtain ⟨ma1, ma2⟩ := mkH_app rk (off + 1) y0 (killsH I hp)
  have mr := (mkH_at rk vals (off + 1) y0 js hgr).1
  have hlenI : I.length = J.length := by rw [hI, hJ, List.length_append, List.length_append, hlen, hNl, hjl]
  have hrw' : ∀ k (h : k < J.length), ∃ te e ys, lkb hp' J[k] = .row te e ys false ∧ flatTy e = true := fun k h => by
    subst hJ
    by_cases hk : k < ids'.length
    · rw [List.getElem_append_left hk]
      obtain ⟨te, e, ys, q1, q2⟩ := ((mkH_at fs l' 1 x' ids' hgs').1 k hk).2
      exact ⟨te, e, ys, q1, List.all_eq_true.1 hfs _ q2⟩
    · rw [List.length_append] at h
      rw [List.getElem_append_right (by omega)]
      obtain ⟨te, e, ys, q1, q2⟩ := (mr (k - ids'.length) (by omega)).2
      exact ⟨te, e, ys, q1, List.all_eq_true.1 hrk _ q2⟩
  obtain ⟨ρn, hρn⟩ : ∃ ρn : Nat → Nat, ρn = fun i => if h : ∃ k, ∃ hk : k < I.length, I[k] = i then ρ' (J[h.choose]'(by rw [← hlenI]; exact h.choose_spec.choose)) else ρ i := ⟨_, rfl⟩
  have hnk : ∀ k (h : k < I.length) (h' : k < J.length), ρn I[k] = ρ' J[k] := fun k h h' => by
    rw [hρn]
    have hex : ∃ k', ∃ hk : k' < I.length, I[k'] = I[k] := ⟨k, h, rfl⟩
    simp only
    rw [dif_pos hex]
    congr 1
    have := distN_ne hdI.2 hex.choose k hex.choose_spec.choose h hex.choose_spec.choose_spec
    simp only [this]
  have hno : ∀ i, i ∉ I → ρn i = ρ i := fun i hi => by
    rw [hρn]
    simp only
    rw [dif_neg (fun ⟨k, hk, e⟩ => hi (by rw [← e]; exact List.getElem_mem hk))]
  obtain ⟨hp2, hhp2⟩ : ∃ hp2, hp2 = (id, .var (stT fs) (.agg (setF' fs l x')) false) :: (rowsB fs ids x' ++ (mkH rk (off + 1) y0 ++ killsH I hp)) := ⟨_, rfl⟩
  have k0 : lkb hp2 id = .var (stT fs) (.agg (setF' fs l x')) false := by
    rw [hhp2, lkb_cons, if_pos rfl]
  have kk : ∀ k (h : k < I.length) (h' : k < J.length), lkb hp2 I[k] = lkb hp' J[k] := fun k h h' => by
    rw [hhp2, lkb_cons, if_neg (fun e => hidI (by rw [e]; exact List.getElem_mem h))]
    by_cases hk : k < ids.length
    · have e1 : I[k] = ids[k] := by subst hI; exact List.getElem_append_left hk
      have e2 : J[k] = ids'[k]'(by rw [← hlen]; exact hk) := by subst hJ; exact List.getElem_append_left _
      rw [e1, e2]
      exact hrow2 k hk _
    · have hk2 : k - ids.length < nrow rk := by rw [hI, List.length_append, hNl] at h; omega
      have e1 : I[k] = off + 1 + (k - ids.length) := by
        subst hI
        rw [List.getElem_append_right (by omega)]
        unfold newN
        rw [List.getElem_range']; omega
      have e2 : J[k] = js[k - ids.length]'(by rw [hjl]; exact hk2) := by
        subst hJ
        rw [List.getElem_append_right (by omega)]
        simp only [hlen]
      have hni : I[k] ∉ ids := fun hm => by
        obtain ⟨k2, h2, e3⟩ := List.getElem_of_mem hm
        have h2' : k2 < I.length := by rw [hI, List.length_append]; omega
        have : I[k2] = I[k] := by
          rw [← e3]; subst hI; exact List.getElem_append_left h2
        have := distN_ne hdI.2 k2 k h2' h this
        omega
      rw [hother _ hni, e1, ma1 _ hk2, e2]
      exact (mr (k - ids.length) (by rw [hjl]; exact hk2)).1
  have ko : ∀ i, i ≠ id → i ∉ I → lkb hp2 i = killsB I (lkb hp i) := fun i h1 h2 => by
    rw [hhp2, lkb_cons, if_neg (fun e => h1 e.symm), hother i (fun h => h2 (hsub i h)), ma2 i ?_, lkb_killsH]
    by_cases q : i < off + 1 ∨ off + 1 + nrow rk ≤ i
    · exact q
    · refine absurd (?_ : i ∈ I) h2
      rw [hI]
      refine List.mem_append_right _ ?_
      unfold newN
      rw [List.mem_range'_1]; omega
  have liveK : ∀ b : Blk, live (killsB I b) = live b ∧ liveW (killsB I b) = liveW b := fun b => by
    cases b with
    | none => exact ⟨rfl, rfl⟩
    | var e v f => cases f <;> exact ⟨rfl, rfl⟩
    | row te e xs f => exact ⟨rfl, rfl⟩
  -- the struct's own blocks: where they lie now
  have hmine : ∀ i, (i = id ∨ i ∈ I) → live (lkb hp2 i) → ∃ c, ((c = 0 ∧ i = id) ∨ ∃ k, ∃ h : k < I.length, ∃ h' : k < J.length, c = J[k] ∧ i = I[k]) ∧ ρn i = ρ' c ∧ liveW (lkb hp' c) := fun i hi hl => by
    rcases hi with hi | hi
    · subst hi
      exact ⟨0, .inl ⟨rfl, rfl⟩, by rw [hno _ hidI, hp0], by rw [b0]; trivial⟩
    · obtain ⟨k, hk, e⟩ := List.getElem_of_mem hi
      have hk' : k < J.length := by rw [← hlenI]; exact hk
      subst e
      refine ⟨J[k], .inr ⟨k, hk, hk', rfl, rfl⟩, hnk k hk hk', ?_⟩
      obtain ⟨te, e, ys, q1, _⟩ := hrw' k hk'
      rw [kk k hk hk', q1] at hl
      rw [q1]; exact hl
  have hokO : ∀ i, i ≠ id → i ∉ I → live (lkb hp i) → okC X ρc (hpC fs x) w (ρ i) := fun i h1 h2 hl => by
    have hlt := R.lt (id := i) hl
    refine ⟨.inr hlt.1, hlt.2, fun c hlc e => ?_⟩
    obtain ⟨i0, q1, q2, q3⟩ := hreal c (liveW_live hlc)
    have : i0 = i := hinj i0 i q2 hl (by rw [← q3, e])
    subst this
    rcases q1 with ⟨_, q4⟩ | ⟨k, hk, _, q4⟩
    · exact h1 q4
    · exact h2 (hsub _ (by rw [q4]; exact List.getElem_mem hk))
  have hok2 : ∀ b, okC X ρ hp w b → okC X ρn hp2 w' b ∧ SameC w w' b := fun b hbk => by
    obtain ⟨⟨q1, q2, q3⟩, sc⟩ := hraw b (hokc b hbk)
    refine ⟨⟨q1, q2, fun i hl e => ?_⟩, sc⟩
    by_cases hi : i = id ∨ i ∈ I
    · obtain ⟨c, _, c2, c3⟩ := hmine i hi (liveW_live hl)
      exact q3 c c3 (by rw [← c2, e])
    · have h1 : i ≠ id := fun h => hi (.inl h)
      have h2 : i ∉ I := fun h => hi (.inr h)
      rw [ko i h1 h2, (liveK _).2] at hl
      rw [hno i h2] at e
      exact hbk.2.2 i hl e
  have hx : Ext (fun i => i ∈ I) (cx X ρ hp w) (cx X ρn hp2 w') := by
    refine ⟨hok2, fun i e v f hk hv => ?_, fun i te e ys f hk hv => ?_⟩
    · have hv : lkb hp i = .var e v f := hv
      refine ⟨hno i hk, ?_⟩
      show ∃ v' f', lkb hp2 i = .var e v' f'
      by_cases h1 : i = id
      · subst h1
        rw [hb] at hv; cases hv
        exact ⟨_, _, k0⟩
      · rw [ko i h1 hk, hv]; exact ⟨_, _, rfl⟩
    · have hv : lkb hp i = .row te e ys f := hv
      have h1 : i ≠ id := fun h => by rw [h, hb] at hv; cases hv
      refine ⟨ys, f, by show lkb hp2 i = _; rw [ko i h1 hk, hv]; rfl, rfl, fun hne => ⟨hno i hk, ?_⟩⟩
      have hh := hheap i
      rw [hv] at hh
      obtain ⟨_, cs, g2, _⟩ := hh.2 hne
      have sc := (hraw (ρ i) (hokO i h1 hk (by rw [hv]; exact hne))).2.1 _ _ _ g2
      show cellsN w' (ρ i) = cellsN w (ρ i)
      have g2 : w.heap[ρ i]? = some (.cells cs te (0, 0)) := g2
      have sc : w'.heap[ρ i]? = some (.cells cs te (0, 0)) := sc
      unfold cellsN
      rw [g2, sc]
  have hsame3 : ∀ k (h : k < I.length) (h' : k < J.length), OwnSame (cx X ρ' hp' w') (cx X ρn hp2 w') J[k] I[k] := fun k h h' => OwnSame.of (kk k h h') fun _ _ _ _ _ _ => ⟨hnk k h h', rfl⟩
  have hsameF : ∀ k (h : k < ids.length) (h' : k < ids'.length), OwnSame (cx X ρ' hp' w') (cx X ρn hp2 w') ids'[k] ids[k] := fun k h h' => by
    have a1 : k < I.length := by rw [hI, List.length_append]; omega
    have a2 : k < J.length := by rw [hJ, List.length_append]; omega
    have := hsame3 k a1 a2
    have e1 : I[k] = ids[k] := by subst hI; exact List.getElem_append_left h
    have e2 : J[k] = ids'[k] := by subst hJ; exact List.getElem_append_left h'
    rw [e1, e2] at this; exact this
  have hsameR : ∀ k (h : k < js.length), OwnSame (cx X ρ' hp' w') (cx X ρn hp2 w') js[k] (off + 1 + k) := fun k h => by
    have a1 : ids.length + k < I.length := by rw [hI, List.length_append, hNl, ← hjl]; omega
    have a2 : ids.length + k < J.length := by rw [← hlenI]; exact a1
    have := hsame3 (ids.length + k) a1 a2
    have e1 : I[ids.length + k] = off + 1 + k := by
      subst hI
      rw [List.getElem_append_right (by omega)]
      unfold newN
      rw [List.getElem_range']; omega
    have e2 : J[ids.length + k] = js[k] := by
      subst hJ
      rw [List.getElem_append_right (by omega)]
      simp only [hlen, Nat.add_sub_cancel_left]
    rw [e1, e2] at this; exact this
  have hsp : X.sp 0 w' ∧ DefOk X.nm (max X.base X.lim) a0.defers w' := by have := R3.sp (kl, p) rfl; rw [hX2] at this; exact this
  have hlim : w.heap.size ≤ w'.heap.size := by have := R3.lim; rw [hX2] at this; exact this
  refine ⟨ρn, hp2, (I, 0), tupOf (mkF rk (off + 1) y0), a0, by rw [hhp2]; exact hK, ⟨R.size, hsp.2, R.ok0, by have := R3.below; rw [hX2] at this; exact this, ?_, ?_, fun d => trivial, ?_, ?_, Nat.le_trans R.lim hlim⟩, mk_VR rk vals (off + 1) y0 js z hrk hgr hsameR hv⟩
  · intro i
    show HB X (cx X ρn hp2 w') i (lkb hp2 i)
    by_cases h1 : i = id
    · subst h1
      have := h3heap 0
      rw [b0] at this
      obtain ⟨g1, cs, T, g2, g3, g4, g5⟩ := this
      rw [k0]
      refine ⟨by show _ ≤ ρn i; rw [hno _ hidI, ← hp0, ← hb2]; exact g1, cs, T, by show w'.heap[ρn i]? = _; rw [hno _ hidI, ← hp0]; exact g2, ?_, Shp_agg.2 (set_Shps fs l l' x x' ids ids' hgs hgs' (Shp_agg.1 g4)), g5⟩
      exact set_CRs fs l l' x x' ids ids' _ hfs hgs hgs' hsameF g3
    · by_cases h2 : i ∈ I
      · obtain ⟨k, hk, e⟩ := List.getElem_of_mem h2
        have hk' : k < J.length := by rw [← hlenI]; exact hk
        subst e
        have := h3heap J[k]
        obtain ⟨te, e, ys, q1, q2⟩ := hrw' k hk'
        rw [kk k hk hk']
        rw [q1] at this ⊢
        obtain ⟨g0, this⟩ := this
        refine ⟨g0, fun hne => ?_⟩
        obtain ⟨g1, cs, g2, g3, g4⟩ := this hne
        have hfl : flatTy e = true := q2
        exact ⟨by show _ ≤ ρn I[k]; rw [hnk k hk hk', ← hb2]; exact g1, cs, by show w'.heap[ρn I[k]]? = _; rw [hnk k hk hk']; exact g2, g3, EncL_mono (fun y vs he => Enc_flat e y vs hfl he) _ _ g4⟩
      · rw [ko i h1 h2]
        refine HB_extM hx (hno i h2) (fun hl cs T z hc => ?_) (hheap i)
        exact (hraw (ρ i) (hokO i h1 h2 hl)).2.1 _ _ _ hc
  · intro i i' hl hl' he
    simp only at hl hl'
    by_cases hi : i = id ∨ i ∈ I <;> by_cases hi' : i' = id ∨ i' ∈ I
    · obtain ⟨c, c1, c2, c3⟩ := hmine i hi hl
      obtain ⟨d, d1, d2, d3⟩ := hmine i' hi' hl'
      have hcd : c = d := h3inj c d (liveW_live c3) (liveW_live d3) (by rw [← c2, ← d2, he])
      subst hcd
      rcases c1 with ⟨c1, c4⟩ | ⟨k, hk, hk', c1, c4⟩ <;> rcases d1 with ⟨d1, d4⟩ | ⟨k2, hk2, hk2', d1, d4⟩
      · rw [c4, d4]
      · exact absurd (by rw [← c1, d1]; exact List.getElem_mem hk2') h0n
      · exact absurd (by rw [← d1, c1]; exact List.getElem_mem hk') h0n
      · have := distN_ne hd3.2 k k2 hk' hk2' (by rw [← c1, ← d1])
        subst this
        rw [c4, d4]
    · have h1 : i' ≠ id := fun h => hi' (.inl h)
      have h2 : i' ∉ I := fun h => hi' (.inr h)
      obtain ⟨c, _, c2, c3⟩ := hmine i hi hl
      rw [ko i' h1 h2, (liveK _).1] at hl'
      exact absurd (by rw [← c2, he, hno i' h2]) ((hraw (ρ i') (hokO i' h1 h2 hl')).1.2.2 c c3)
    · have h1 : i ≠ id := fun h => hi (.inl h)
      have h2 : i ∉ I := fun h => hi (.inr h)
      obtain ⟨c, _, c2, c3⟩ := hmine i' hi' hl'
      rw [ko i h1 h2, (liveK _).1] at hl
      exact absurd (by rw [← c2, ← he, hno i h2]) ((hraw (ρ i) (hokO i h1 h2 hl)).1.2.2 c c3)
    · have h1 : i ≠ id := fun h => hi (.inl h)
      have h2 : i ∉ I := fun h => hi (.inr h)
      have h1' : i' ≠ id := fun h => hi' (.inl h)
      have h2' : i' ∉ I := fun h => hi' (.inr h)
      rw [ko i h1 h2, (liveK _).1] at hl
      rw [ko i' h1' h2', (liveK _).1] at hl'
      rw [hno i h2, hno i' h2'] at he
      exact hinj i i' hl hl' he
  · intro ks hks i
    cases hks
    have := R.stk ([], 0) rfl i
    exact VR_ext hx _ _ (killAll_free I _) (VR_killAll _ I _ _ this)
  · intro ks hks
    cases hks
    exact hsp.1
/-- A method by its contract. -/
theorem sum_con {P : Program} {g : FuncId} {fs rk : List FK} {T0 : Proc} {G : (stT fs).den → List AV → Option ((stT fs).den × (stT rk).den)} (hfs : fs.all FK.ok = true) (hrk : rk.all FK.ok = true) (hrw : rk.all FK.wf = true) (hT : SCon P g T0)
    (hG : ∀ x rest x' y, G x rest = some (x', y) → T0 1024 (hpC fs x) (.ptr 0 [] :: rest) (finS fs rk x' y)) : SCon P g (sumT fs rk G) := by
  intro off X ρ hp w vs xs a0 K hXP R hok hargs h
  unfold sumT at h
  split at h
  · rename_i id rest
    split at h
    · rename_i e l hb
      obtain ⟨he, h2⟩ := cond_elim h
      clear h
      have he := of_decide_eq_true he
      subst he
      split at h2
      · rename_i x ids hgs
        obtain ⟨hd, h3⟩ := cond_elim h2
        rw [Bool.and_eq_true] at hd
        obtain ⟨x', r, hGx, h4⟩ := callS_elim h3
        rw [forceH_eq] at h4
        exact sum_core hfs hrk hrw hT hXP R hok hargs hb hgs hd.1 hd.2 (hG x rest x' r hGx) h4
      · exact h2.elim
    · exact h.elim
  · exact h.elim
end Go.Proofs.YtoihmfgkmndjfaaV
