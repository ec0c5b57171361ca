/- Lean functions that Go functions come to: their loops, their contracts. No program stands here. -/
import Derived.Test.YtoihmfgkmndjfaaVcV
set_option linter.unusedVariables false
set_option linter.unusedSimpArgs false
namespace Go.Proofs.YtoihmfgkmndjfaaV
open Go.RowKit

/-! ### Loops -/
def fixN {X R : Type} (F : (X → Option R) → X → Option R) : Nat → X → Option R
  | 0, _ => none
  | n + 1, x => F (fixN F n) x
def FUEL : Nat := 1152921504606846976
theorem FUEL_eq : FUEL = 1152921504606846976 := rfl
attribute [irreducible] FUEL
def loop {X R : Type} (F : (X → Option R) → X → Option R) (x : X) : Option R := fixN F FUEL x
theorem loop_some {X R : Type} {F : (X → Option R) → X → Option R} {x : X} {r : R} (h : loop F x = some r) : ∃ n, fixN F n x = some r := ⟨_, h⟩
/-- What a loop answers, by a measure that each round lowers, while inv holds. -/
theorem loop_by {X R : Type} {F : (X → Option R) → X → Option R} (inv : X → Prop) (μ : X → Nat) (spec : X → Option R) {x : X} (hx : inv x) (hμ : μ x < 1152921504606846976)
    (h : ∀ k x, inv x → (∀ y, inv y → μ y < μ x → k y = spec y) → F k x = spec x) : loop F x = spec x := by
  have key : ∀ n x, inv x → μ x < n → fixN F n x = spec x := by
    intro n
    induction n with
    | zero => intro x _ h; omega
    | succ n ih => intro x hi hm; exact h _ x hi fun y hy hl => ih y hy (by omega)
  exact key FUEL x hx (by rw [FUEL_eq]; exact hμ)
attribute [irreducible] loop

theorem least {p : Nat → Prop} (h : ∃ n, p n) : ∃ n, p n ∧ ∀ m, p m → n ≤ m := by
  have key : ∀ b, (∃ n, n ≤ b ∧ p n) → ∃ n, p n ∧ ∀ m, p m → n ≤ m := by
    intro b
    induction b with
    | zero => intro ⟨n, h1, h2⟩; exact ⟨n, h2, fun m _ => by omega⟩
    | succ b ih =>
      intro ⟨n, h1, h2⟩
      by_cases hb : ∃ n, n ≤ b ∧ p n
      · exact ih hb
      · refine ⟨n, h2, fun m hm => ?_⟩
        by_cases hl : m < n
        · exact absurd ⟨m, by omega, hm⟩ hb
        · omega
  obtain ⟨n, hn⟩ := h
  exact key n ⟨n, Nat.le_refl _, hn⟩

theorem vc_loop {E : Env} {c : Code} {s : St} {K : Exit → St → Prop} {X R : Type} {F : (X → Option R) → X → Option R} {x0 : X} {r : R} (sh : X → St) (M : Msk) (hs : loop F x0 = some r)
    (h0 : maskS E M s = some (sh x0))
    (hb : ∀ (J : St → Prop) (k : X → Option R) (x : X), (∀ x', k x' = some r → J (sh x')) → F k x = some r → vc E c (sh x) fun e s'' => match e with
      | .normal => maskK E M s'' J
      | e => K e s'') : vc E (.loop c) s K := by
  obtain ⟨n0, hn0⟩ := loop_some hs
  have ex : ∀ s : St, (∃ n x, s = sh x ∧ fixN F n x = some r) → ∃ n, (∃ x, s = sh x ∧ fixN F n x = some r) ∧ ∀ m, (∃ x, s = sh x ∧ fixN F m x = some r) → n ≤ m := fun s h => least h
  let I : St → Prop := fun s => ∃ n x, s = sh x ∧ fixN F n x = some r
  open Classical in
  let μ : St → Nat := fun s => if h : I s then Classical.choose (ex s h) else 0
  have hμ : ∀ s (h : I s), (∃ x, s = sh x ∧ fixN F (μ s) x = some r) ∧ ∀ m, (∃ x, s = sh x ∧ fixN F m x = some r) → μ s ≤ m := by
    intro s h
    have e : μ s = Classical.choose (ex s h) := dif_pos h
    rw [e]
    exact Classical.choose_spec (ex s h)
  refine .inl ⟨I, μ, M, maskS_K h0 ⟨n0, x0, rfl, hn0⟩, fun s' hI => ?_⟩
  obtain ⟨⟨x, hx, hf⟩, hmin⟩ := hμ s' hI
  cases hm : μ s' with
  | zero => rw [hm] at hf; cases hf
  | succ m =>
    rw [hm] at hf
    have := hb (fun s3 => I s3 ∧ μ s3 < m + 1) (fixN F m) x (fun x' hk => by
      have hI3 : I (sh x') := ⟨m, x', rfl, hk⟩
      exact ⟨hI3, Nat.lt_succ_of_le ((hμ _ hI3).2 m ⟨x', rfl, hk⟩)⟩) hf
    rw [hx]
    exact this

theorem vc_loopR {E : Env} {c : Vc} {s : St} {K : Exit → St → Prop} {X R : Type} {F : (X → Option R) → X → Option R} {x0 : X} {r : R} (sh : X → St) (M : Msk) (hs : loop F x0 = some r)
    (h0 : maskS E M s = some (sh x0))
    (hb : ∀ (J : St → Prop) (k : X → Option R) (x : X), (∀ x', k x' = some r → J (sh x')) → F k x = some r → c (sh x) (lpK E M J K)) : loopI E c s K := by
  obtain ⟨n0, hn0⟩ := loop_some hs
  have ex : ∀ s : St, (∃ n x, s = sh x ∧ fixN F n x = some r) → ∃ n, (∃ x, s = sh x ∧ fixN F n x = some r) ∧ ∀ m, (∃ x, s = sh x ∧ fixN F m x = some r) → n ≤ m := fun s h => least h
  let I : St → Prop := fun s => ∃ n x, s = sh x ∧ fixN F n x = some r
  open Classical in
  let μ : St → Nat := fun s => if h : I s then Classical.choose (ex s h) else 0
  have hμ : ∀ s (h : I s), (∃ x, s = sh x ∧ fixN F (μ s) x = some r) ∧ ∀ m, (∃ x, s = sh x ∧ fixN F m x = some r) → μ s ≤ m := by
    intro s h
    have e : μ s = Classical.choose (ex s h) := dif_pos h
    rw [e]
    exact Classical.choose_spec (ex s h)
  refine loopI_mk ⟨I, μ, M, maskS_K h0 ⟨n0, x0, rfl, hn0⟩, fun s' hI => ?_⟩
  obtain ⟨⟨x, hx, hf⟩, hmin⟩ := hμ s' hI
  cases hm : μ s' with
  | zero => rw [hm] at hf; cases hf
  | succ m =>
    rw [hm] at hf
    have := hb (fun s3 => I s3 ∧ μ s3 < m + 1) (fixN F m) x (fun x' hk => by
      have hI3 : I (sh x') := ⟨m, x', rfl, hk⟩
      exact ⟨hI3, Nat.lt_succ_of_le ((hμ _ hI3).2 m ⟨x', rfl, hk⟩)⟩) hf
    rw [hx]
    exact this

theorem vc_jump {E : Env} {l : Nat} {A : St → (Exit → St → Prop) → Prop} {s : St} {K : Exit → St → Prop} {X R : Type} {F : (X → Option R) → X → Option R} {x0 : X} {r : R} (sh : X → St) (M : Msk) (hs : loop F x0 = some r)
    (h0 : maskS E M s = some (sh x0))
    (hb : ∀ (J : St → Prop) (k : X → Option R) (x : X), (∀ x', k x' = some r → J (sh x')) → F k x = some r → A (sh x) fun e s'' => match e with
      | .goto l' => cond (Nat.beq l' l) (maskK E M s'' J) False
      | e => K e s'') : jumpI E l A s K := by
  obtain ⟨n0, hn0⟩ := loop_some hs
  have ex : ∀ s : St, (∃ n x, s = sh x ∧ fixN F n x = some r) → ∃ n, (∃ x, s = sh x ∧ fixN F n x = some r) ∧ ∀ m, (∃ x, s = sh x ∧ fixN F m x = some r) → n ≤ m := fun s h => least h
  let I : St → Prop := fun s => ∃ n x, s = sh x ∧ fixN F n x = some r
  open Classical in
  let μ : St → Nat := fun s => if h : I s then Classical.choose (ex s h) else 0
  have hμ : ∀ s (h : I s), (∃ x, s = sh x ∧ fixN F (μ s) x = some r) ∧ ∀ m, (∃ x, s = sh x ∧ fixN F m x = some r) → μ s ≤ m := by
    intro s h
    have e : μ s = Classical.choose (ex s h) := dif_pos h
    rw [e]
    exact Classical.choose_spec (ex s h)
  refine jumpI_mk ⟨I, μ, M, maskS_K h0 ⟨n0, x0, rfl, hn0⟩, fun s' hI => ?_⟩
  obtain ⟨⟨x, hx, hf⟩, hmin⟩ := hμ s' hI
  cases hm : μ s' with
  | zero => rw [hm] at hf; cases hf
  | succ m =>
    rw [hm] at hf
    have := hb (fun s3 => I s3 ∧ μ s3 < m + 1) (fixN F m) x (fun x' hk => by
      have hI3 : I (sh x') := ⟨m, x', rfl, hk⟩
      exact ⟨hI3, Nat.lt_succ_of_le ((hμ _ hI3).2 m ⟨x', rfl, hk⟩)⟩) hf
    rw [hx]
    exact this

/-- A region that draws: what is behind it, once. -/
def cutv {X R : Type} (n : Nat) (F : (X → Option R) → Option R) (k : X → Option R) : Option R := F k
theorem cutv_eq {X R : Type} (n : Nat) (F : (X → Option R) → Option R) (k : X → Option R) : cutv n F k = F k := rfl
theorem cut_out {X R : Type} {F : (X → Option R) → Option R} {k : X → Option R} {r : R} (n : Nat) (sh : X → St) {A : (St → Prop) → Prop} {K : St → Prop} (hs : cutv n F k = some r)
    (h1 : ∀ (J : St → Prop) (k' : X → Option R), (∀ x, k' x = some r → J (sh x)) → F k' = some r → A J)
    (h2 : ∀ x, k x = some r → K (sh x)) : cutI A K :=
  cutI_mk (fun s => ∃ x, s = sh x ∧ k x = some r) (h1 _ k (fun x hx => ⟨x, rfl, hx⟩) hs) fun s ⟨x, hx, hk⟩ => by subst hx; exact h2 x hk
attribute [irreducible] cutv
/-- A loop that is gone through round by round. -/
theorem vc_unr {E : Env} {c : Code} {s : St} {K : Exit → St → Prop} (n : Nat) (h : unr (fun s K => vc E c s K) n s K) : vc E (.loop c) s K := .inr ⟨n, h⟩

theorem vc_unrR {E : Env} {c : Vc} {s : St} {K : Exit → St → Prop} (n : Nat) (h : unrR c n s K) : loopI E c s K := loopI_unr n h

/-! ### Steps -/
def chk {R : Type} (p : Prop) [Decidable p] (x : Option R) : Option R := if p then x else none
theorem chk_pos {R : Type} {p : Prop} [Decidable p] {x : Option R} (h : p) : chk p x = x := if_pos h
theorem chk_some {R : Type} {p : Prop} [Decidable p] {x : Option R} {r : R} (h : chk p x = some r) : p ∧ x = some r := by
  unfold chk at h
  split at h
  · exact ⟨‹_›, h⟩
  · cases h
attribute [irreducible] chk
theorem bind_some {α R : Type} {o : Option α} {f : α → Option R} {r : R} (h : Option.bind o f = some r) : ∃ v, o = some v ∧ f v = some r := by
  cases o with
  | none => cases h
  | some v => exact ⟨v, rfl, h⟩
theorem bind_elim {α R : Type} {o : Option α} {f : α → Option R} {r : R} {G : Prop} (h : Option.bind o f = some r) (k : ∀ v, o = some v → f v = some r → G) : G := by
  obtain ⟨v, h1, h2⟩ := bind_some h
  exact k v h1 h2
theorem chk_elim {R : Type} {p : Prop} [Decidable p] {x : Option R} {r : R} {A : Prop} (h : chk p x = some r) (k : x = some r → A) : p ∧ A := ⟨(chk_some h).1, k (chk_some h).2⟩
/-- The same, whatever the instance. -/
theorem chk_elimI {R : Type} {p : Prop} {inst : Decidable p} {x : Option R} {r : R} {A : Prop} (h : @chk R p inst x = some r) (k : x = some r → A) : p ∧ A := chk_elim h k
theorem chk_someI {R : Type} {p : Prop} {inst : Decidable p} {x : Option R} {r : R} (h : @chk R p inst x = some r) : p ∧ x = some r := chk_some h
theorem cT {R : Type} {t : Bool} {X Y : R} {z : R} (h : t = true) (hs : cond t X Y = z) : X = z := by subst h; exact hs
theorem cF {R : Type} {t : Bool} {X Y : R} {z : R} (h : t = false) (hs : cond t X Y = z) : Y = z := by subst h; exact hs
def letv {α R : Type} (a : α) (f : α → R) : R := f a
theorem letv_out {α R : Type} {a : α} {f : α → R} {r : R} (h : letv a f = r) : f a = r := h
theorem letv_eq {α R : Type} (a : α) (f : α → R) : letv a f = f a := rfl
attribute [irreducible] letv
theorem none_ne {R : Type} {r : R} (h : (none : Option R) = some r) : False := by cases h
/-- A slice that is compared with nil: an empty one may be nil or not. -/
def nilq {α R : Type} [DecidableEq R] (xs : List α) (f : Bool → Option R) : Option R := match xs with
  | [] => if f true = f false then f false else none
  | _ :: _ => f false
def nilqn {α R : Type} [DecidableEq R] (xs : List α) (f : Bool → Option R) : Option R := match xs with
  | [] => if f true = f false then f true else none
  | _ :: _ => f true
theorem nilq_elim {α R : Type} [DecidableEq R] {xs : List α} {f : Bool → Option R} {r : R} (h : nilq xs f = some r) (b : Bool) (hb : xs ≠ [] → b = false) : f b = some r := by
  cases xs with
  | nil =>
    unfold nilq at h
    simp only at h
    split at h
    · rename_i he
      cases b with
      | false => exact h
      | true => exact he.trans h
    · cases h
  | cons x xs =>
    rw [hb (by simp)]; exact h
theorem nilqn_elim {α R : Type} [DecidableEq R] {xs : List α} {f : Bool → Option R} {r : R} (h : nilqn xs f = some r) (b : Bool) (hb : xs ≠ [] → b = true) : f b = some r := by
  cases xs with
  | nil =>
    unfold nilqn at h
    simp only at h
    split at h
    · rename_i he
      cases b with
      | true => exact h
      | false => exact he.symm.trans h
    · cases h
  | cons x xs =>
    rw [hb (by simp)]; exact h
theorem nilq_eq {α R : Type} [DecidableEq R] {xs : List α} {f : Bool → Option R} (h : xs = [] → f true = f false) : nilq xs f = f false := by
  cases xs with
  | nil => unfold nilq; simp only; rw [if_pos (h rfl)]
  | cons x xs => rfl
theorem nilqn_eq {α R : Type} [DecidableEq R] {xs : List α} {f : Bool → Option R} (h : xs = [] → f true = f false) : nilqn xs f = f true := by
  cases xs with
  | nil => unfold nilqn; simp only; rw [if_pos (h rfl)]
  | cons x xs => rfl
attribute [irreducible] nilq nilqn
theorem draw_and {l : List Oper} {ord : Ord} {A : Prop} (h : drawOk l ord = true) (h2 : A) : drawOk l ord = true ∧ A := ⟨h, h2⟩
/-- Parts of the tables of types. -/
def subT (tt : List (Nat × Ty)) : List (Nat × Ty) → Bool
  | [] => true
  | (t, e) :: l => (match lkT tt t with | some e' => decide (e' = e) | none => false) && subT tt l
def subE (et : List (Nat × Nat)) : List (Nat × Nat) → Bool
  | [] => true
  | (t, e) :: l => (match lkE et t with | some e' => Nat.beq e' e | none => false) && subE et l
theorem subT_ok {tt : List (Nat × Ty)} : ∀ {l : List (Nat × Ty)}, subT tt l = true → ∀ t e, lkT l t = some e → lkT tt t = some e
  | [], _, t, e, h => by cases h
  | (k, e0) :: l, h, t, e, h2 => by
    have h : ((match lkT tt k with | some e' => decide (e' = e0) | none => false) && subT tt l) = true := h
    rw [Bool.and_eq_true] at h
    simp only [lkT] at h2
    cases hk : Nat.beq k t with
    | true =>
      rw [hk] at h2
      have hk := Nat.eq_of_beq_eq_true hk
      subst hk
      have h2 : some e0 = some e := h2
      cases h2
      have h1 := h.1
      split at h1
      · rename_i e' he; rw [he, of_decide_eq_true h1]
      · cases h1
    | false => rw [hk] at h2; exact subT_ok h.2 t e h2
theorem subE_ok {et : List (Nat × Nat)} : ∀ {l : List (Nat × Nat)}, subE et l = true → ∀ t e, lkE l t = some e → lkE et t = some e
  | [], _, t, e, h => by cases h
  | (k, e0) :: l, h, t, e, h2 => by
    have h : ((match lkE et k with | some e' => Nat.beq e' e0 | none => false) && subE et l) = true := h
    rw [Bool.and_eq_true] at h
    simp only [lkE] at h2
    cases hk : Nat.beq k t with
    | true =>
      rw [hk] at h2
      have hk := Nat.eq_of_beq_eq_true hk
      subst hk
      have h2 : some e0 = some e := h2
      cases h2
      have h1 := h.1
      split at h1
      · rename_i e' he; rw [he, Nat.eq_of_beq_eq_true h1]
      · cases h1
    | false => rw [hk] at h2; exact subE_ok h.2 t e h2
theorem EnvC.sub {P : Program} {et et0 : List (Nat × Nat)} {tt tt0 : List (Nat × Ty)} {fns : List (Nat × (List AV → Option AV))} {prs : List (Nat × Proc)} {off nt : Nat} {ords : List (Nat × Ord)} {keep : List (Nat × List Nat)} {yl : Option (Nat × (List Nat → Proc))} {its : List (Nat × (Nat → (List Nat → Proc) → Proc))} (h1 : ttB P tt = true) (h2 : etB P et = true) (h3 : FnsOk P fns) (h4 : PrsOk P prs) (h5 : ItsOk P its) (s1 : subT tt tt0 = true) (s2 : subE et et0 = true) : EnvC ⟨off, nt, et0, tt0, fns, prs, ords, keep, yl, its⟩ P :=
  ⟨⟨fun t e h => ttB_ok h1 t e (subT_ok s1 t e h), fun t e h => etB_ok h2 t e (subE_ok s2 t e h), fun t e h => ttB_tag h1 t e (subT_ok s1 t e h)⟩, h3, h4, h5⟩
def bodyOf (f : Func) : Code := match f.body with | some c => c | none => .skip
theorem fin_some {ρ : Type} {u : ρ → AV} {v r : ρ} {a : AV} (hs : some v = some r) (h : a = u v) : a = u r := by
  cases hs; exact h

/-! ### Contracts of functions of data -/
mutual
/-- A value that is data of this type, and nothing else. -/
def pk : (e : Ty) → AV → Option e.den
  | .int k, .int k' n => if k' = k then some n else none
  | .bool, .bool b => some b
  | .str, .str s => some s
  | .unit, .agg [] => some ()
  | .pair a b, .agg (v :: l) => match pk a v with
    | some x => match pks b l with
      | some y => some (x, y)
      | none => none
    | none => none
  | .sl e, .ro e' xs => if h : e' = e then some (castL h xs) else none
  | .arr n e, .arr n' e' xs => if h : e' = e then (if n' = n then some (castL h xs) else none) else none
  | _, _ => none
def pks : (e : Ty) → List AV → Option e.den
  | .pair a b, v :: l => match pk a v with
    | some x => match pks b l with
      | some y => some (x, y)
      | none => none
    | none => none
  | .unit, [] => some ()
  | _, _ => none
end
mutual
theorem pk_eq : ∀ (e : Ty) (v : AV) (x : e.den), pk e v = some x → v = unpack e x
  | .int k, v, x, h => by
    cases v <;> first | (simp [pk] at h; done) | (simp [pk] at h; obtain ⟨rfl, rfl⟩ := h; rfl)
  | .bool, v, x, h => by
    cases v <;> first | (simp only [pk, Option.some.injEq] at h; subst h; rfl) | (simp [pk] at h)
  | .str, v, x, h => by
    cases v <;> first | (simp only [pk, Option.some.injEq] at h; subst h; rfl) | (simp [pk] at h)
  | .unit, v, x, h => by
    cases v with
    | agg l => cases l with
      | nil => rfl
      | cons _ _ => simp [pk] at h
    | _ => simp [pk] at h
  | .pair a b, v, x, h => by
    cases v with
    | agg l => cases l with
      | nil => simp [pk] at h
      | cons v l =>
        simp only [pk] at h
        split at h
        · rename_i y hy
          split at h
          · rename_i z hz
            cases h
            show AV.agg (v :: l) = .agg (unpack a y :: fieldsOf b z)
            rw [pk_eq a v y hy, pks_eq b l z hz]
          · cases h
        · cases h
    | _ => simp [pk] at h
  | .sl e, v, x, h => by
    cases v <;> first | (simp [pk] at h; done) | (simp [pk] at h; obtain ⟨h1, h2⟩ := h; subst h1; subst h2; rfl)
  | .arr n e, v, x, h => by
    cases v <;> first | (simp [pk] at h; done) | (simp [pk] at h; obtain ⟨h0, h1, h2⟩ := h; subst h0; subst h1; subst h2; rfl)
  | .opq z, v, x, h => by cases v <;> simp [pk] at h
theorem pks_eq : ∀ (e : Ty) (l : List AV) (x : e.den), pks e l = some x → l = fieldsOf e x
  | .pair a b, l, x, h => by
    cases l with
    | nil => simp [pks] at h
    | cons v l =>
      simp only [pks] at h
      split at h
      · rename_i y hy
        split at h
        · rename_i z hz
          cases h
          show v :: l = unpack a y :: fieldsOf b z
          rw [pk_eq a v y hy, pks_eq b l z hz]
        · cases h
      · cases h
  | .unit, l, x, h => by
    cases l with
    | nil => rfl
    | cons _ _ => simp [pks] at h
  | .int _, l, x, h => by cases l <;> simp [pks] at h
  | .bool, l, x, h => by cases l <;> simp [pks] at h
  | .str, l, x, h => by cases l <;> simp [pks] at h
  | .sl _, l, x, h => by cases l <;> simp [pks] at h
  | .arr _ _, l, x, h => by cases l <;> simp [pks] at h
  | .opq _, l, x, h => by cases l <;> simp [pks] at h
end
def noOpq : Ty → Bool
  | .pair a b => noOpq a && noOpq b
  | .opq _ => false
  | _ => true
theorem pure_unpack : ∀ (e : Ty) (x : e.den), noOpq e = true → pureAV (unpack e x) = true ∧ pureAV.pures (fieldsOf e x) = true
  | .int _, _, _ => ⟨rfl, rfl⟩
  | .bool, _, _ => ⟨rfl, rfl⟩
  | .str, _, _ => ⟨rfl, rfl⟩
  | .unit, _, _ => ⟨rfl, rfl⟩
  | .sl _, _, _ => ⟨rfl, rfl⟩
  | .arr _ _, _, _ => ⟨rfl, rfl⟩
  | .opq _, _, h => by cases h
  | .pair a b, x, h => by
    have h : (noOpq a && noOpq b) = true := h
    rw [Bool.and_eq_true] at h
    have h1 := (pure_unpack a x.1 h.1).1
    have h2 := (pure_unpack b x.2 h.2).2
    have : (pureAV (unpack a x.1) && pureAV.pures (fieldsOf b x.2)) = true := by rw [h1, h2]; rfl
    exact ⟨this, this⟩
theorem wf_unpack : ∀ (e : Ty) (x : e.den), chain e → wfs (fieldsOf e x) → WfT e → wfD e x
  | .unit, _, _, _, _ => trivial
  | .pair a b, x, _, h, hw => ⟨wf1 a x.1 h.1 hw.1, wf_unpack b x.2 hw.2.1 h.2 hw.2.2⟩
where wf1 : ∀ (e : Ty) (x : e.den), wfAV (unpack e x) → WfT e → wfD e x
  | .int _, _, h, _ => h
  | .bool, _, _, _ => trivial
  | .str, _, h, _ => h
  | .unit, _, _, _ => trivial
  | .sl _, _, h, _ => h
  | .arr _ _, _, h, _ => h
  | .opq _, _, _, _ => trivial
  | .pair a b, x, h, hw => ⟨wf1 a x.1 h.1 hw.1, wf_unpack b x.2 hw.2.1 h.2 hw.2.2⟩
def chainB : Ty → Bool
  | .unit | .pair _ _ => true
  | _ => false
def wfTB : Ty → Bool
  | .pair a b => wfTB a && chainB b && wfTB b
  | .sl e => wfTB e
  | .arr _ e => wfTB e
  | _ => true
theorem chainB_ok : ∀ {e : Ty}, chainB e = true → chain e
  | .unit, _ => trivial
  | .pair _ _, _ => trivial
  | .int _, h => by cases h
  | .bool, h => by cases h
  | .str, h => by cases h
  | .sl _, h => by cases h
  | .arr _ _, h => by cases h
  | .opq _, h => by cases h
theorem wfTB_ok : ∀ {e : Ty}, wfTB e = true → WfT e
  | .pair a b, h => by
    have h : (wfTB a && chainB b && wfTB b) = true := h
    rw [Bool.and_eq_true, Bool.and_eq_true] at h
    exact ⟨wfTB_ok h.1.1, chainB_ok h.1.2, wfTB_ok h.2⟩
  | .sl e, h => wfTB_ok (e := e) h
  | .arr _ e, h => wfTB_ok (e := e) h
  | .int _, _ => trivial
  | .bool, _ => trivial
  | .str, _ => trivial
  | .unit, _ => trivial
  | .opq _, _ => trivial

/-- A Lean function, as the contract of a Go function of data. T: the arguments' types in a row. -/
def liftF {ρ : Type} (T : Ty) (u : ρ → AV) (f : T.den → Option ρ) (as : List AV) : Option AV :=
  match pks T as with
  | some x => match f x with
    | some r => some (u r)
    | none => none
  | none => none
theorem callK_lift {ρ : Type} {T : Ty} {u : ρ → AV} {f : T.den → Option ρ} {as : List AV} {k : AV → Prop} {x : T.den} {v : ρ} (h1 : pks T as = some x) (h2 : f x = some v) (h3 : k (u v)) : callK (liftF T u f as) k := by
  refine callK_mk (r := u v) ?_ h3
  unfold liftF
  rw [h1]
  simp only
  rw [h2]
/-- The same, by a function's other name. -/
theorem callK_liftG {ρ : Type} {T : Ty} {u : ρ → AV} {f F : T.den → Option ρ} {as : List AV} {k : AV → Prop} {x : T.den} {v : ρ} (hG : ∀ x, f x = F x) (h1 : pks T as = some x) (h2 : F x = some v) (h3 : k (u v)) : callK (liftF T u f as) k := callK_lift h1 ((hG x).trans h2) h3
/-- Several results. -/
def unpR (T : Ty) (r : T.den) : AV := .tup (fieldsOf T r)

theorem lift_con {P : Program} {E : Env} {g : FuncId} {fn : Func} {c : Code} {nt : Nat} {rs : List ResultVar} {ts : List Nat} {ρ : Type} {T : Ty} {u : ρ → AV} {f : T.den → Option ρ} (hE : EnvC E P) (hP : PrOk P) (hf : P.funcs[g]? = some fn) (hb : fn.body = some c) (hnm : (fn.name == "runtime.NumGoroutine") = false) (hnt : fn.ntmps = nt) (hrs : fn.results.toList = rs)
    (hT : (chainB T && wfTB T) = true) (hu : ∀ r, pureR (u r) = true)
    (hF : ∀ x r, wfD T x → f x = some r → fnVC E nt rs ts c (fieldsOf T x) (u r)) : PCon P g (liftF T u f) := by
  rw [Bool.and_eq_true] at hT
  refine fn_con_wf hE hP hf hb hnm hnt hrs (ts := ts) fun as r hw h => ?_
  unfold liftF at h
  split at h
  · rename_i x hx
    split at h
    · rename_i v hv
      cases h
      obtain rfl := pks_eq T as x hx
      exact ⟨hu v, hF x v (wf_unpack T x (chainB_ok hT.1) hw (wfTB_ok hT.2)) hv⟩
    · cases h
  · cases h
theorem lift_conR {P : Program} {E : Env} {g : FuncId} {fn : Func} {c : Code} {nt : Nat} {rs : List ResultVar} {ts : List Nat} {ρ : Type} {T : Ty} {u : ρ → AV} {f : T.den → Option ρ} (hE : EnvC E P) (hP : PrOk P) (hf : P.funcs[g]? = some fn) (hb : fn.body = some c) (hnm : (fn.name == "runtime.NumGoroutine") = false) (hnt : fn.ntmps = nt) (hrs : fn.results.toList = rs)
    (hT : (chainB T && wfTB T) = true) (hu : ∀ r, pureR (u r) = true)
    (hF : ∀ x r, wfD T x → f x = some r → fnR E nt rs ts c (fieldsOf T x) (u r)) : PCon P g (liftF T u f) :=
  lift_con hE hP hf hb hnm hnt hrs hT hu fun x r hw h => by rw [← fnR_eq]; exact hF x r hw h
theorem proc_conR {E : Env} {P : Program} {g : FuncId} {fn : Func} {c : Code} {nt : Nat} {rs : List ResultVar} (hE : EnvC E P) (hP : PrOk P) (hf : P.funcs[g]? = some fn) (hb : fn.body = some c) (hnm : (fn.name == "runtime.NumGoroutine") = false) (hnt : fn.ntmps = nt) (hrs : fn.results.toList = rs) :
    SCon P g (procR E.noY nt rs c) := by rw [procR_eq]; exact proc_con hE hP hf hb hnm hnt hrs
theorem it_conR {E : Env} {P : Program} {g : FuncId} {fn : Func} {c : Code} {nt : Nat} {rs : List ResultVar} (hE : EnvC E P) (hP : PrOk P) (hf : P.funcs[g]? = some fn) (hb : fn.body = some c) (hnm : (fn.name == "runtime.NumGoroutine") = false) (hnt : fn.ntmps = nt) (hrs : fn.results.toList = rs) :
    ICon P g (itR E nt rs c) := by rw [itR_eq]; exact it_con hE hP hf hb hnm hnt hrs
theorem pureR_one {e : Ty} (h : noOpq e = true) (r : e.den) : pureR (unpack e r) = true := by
  have := (pure_unpack e r h).1
  cases hv : unpack e r <;> rw [hv] at this <;> first | exact this | cases this
theorem pureR_many {e : Ty} (h : noOpq e = true) (r : e.den) : pureR (unpR e r) = true := (pure_unpack e r h).2
end Go.Proofs.YtoihmfgkmndjfaaV
