/- Typed data out of values, and what is written: the words that the operations that write lean on. -/
import Derived.Test.YtejedlpnejjnbaaVcJ
import Derived.Deep.AppendSrc
set_option linter.unusedVariables false
set_option linter.unusedSimpArgs false
namespace Go.Proofs.YtejedlpnejjnbaaV
open Go.RowKit

theorem castL_eq {a : Ty} (h : a = a) (xs : List a.den) : castL h xs = xs := rfl

/-- Values of one cell. -/
theorem Enc_one {ok : Nat → Prop} {w : World} : ∀ (e : Ty) (x : e.den) (vs : List Value), Enc ok w e x vs → ∀ u ∈ vs, u.oneCell' = true
  | .int k, n, vs, h, u, hu => by obtain ⟨rfl, _⟩ := h; simp at hu; subst hu; rfl
  | .bool, b, vs, h, u, hu => by have h : vs = _ := h; subst h; simp at hu; subst hu; rfl
  | .str, s, vs, h, u, hu => by obtain ⟨rfl, _⟩ := h; simp at hu; subst hu; rfl
  | .unit, _, vs, h, u, hu => by have h : vs = [] := h; subst h; simp at hu
  | .pair a b, x, vs, h, u, hu => by
    obtain ⟨p, q, rfl, h1, h2⟩ := h
    rcases List.mem_append.1 hu with h | h
    · exact Enc_one a _ _ h1 u h
    · exact Enc_one b _ _ h2 u h
  | .sl e, xs, vs, h, u, hu => by obtain ⟨A, c, rfl, _⟩ := h; simp at hu; subst hu; rfl
  | .arr n e, xs, vs, h, u, hu => by
    have key : ∀ (l : List e.den) (vs : List Value), EncL (Enc ok w e) l vs → ∀ u ∈ vs, u.oneCell' = true := by
      intro l
      induction l with
      | nil => intro vs h u hu; have h : vs = [] := h; subst h; simp at hu
      | cons x l ih =>
        intro vs h u hu
        obtain ⟨p, q, rfl, h1, h2⟩ := h
        rcases List.mem_append.1 hu with h | h
        · exact Enc_one e _ _ h1 u h
        · exact ih _ h2 u h
    exact key _ _ h.2 u hu
  | .opq _, _, vs, h, u, hu => h.elim
theorem EncL_one {ok : Nat → Prop} {w : World} {e : Ty} : ∀ (l : List e.den) (vs : List Value), EncL (Enc ok w e) l vs → ∀ u ∈ vs, u.oneCell' = true
  | [], vs, h, u, hu => by have h : vs = [] := h; subst h; simp at hu
  | x :: l, vs, h, u, hu => by
    obtain ⟨p, q, rfl, h1, h2⟩ := h
    rcases List.mem_append.1 hu with h | h
    · exact Enc_one e _ _ h1 u h
    · exact EncL_one l _ h2 u h
theorem EncL_append {α : Type} {E : α → List Value → Prop} : ∀ (xs ys : List α) (u v : List Value), EncL E xs u → EncL E ys v → EncL E (xs ++ ys) (u ++ v)
  | [], ys, u, v, h1, h2 => by have h1 : u = [] := h1; subst h1; exact h2
  | x :: xs, ys, u, v, h1, h2 => by
    obtain ⟨p, q, rfl, h3, h4⟩ := h1
    exact ⟨p, q ++ v, by simp, h3, EncL_append xs ys q v h4 h2⟩
/-- From element by element to the whole. -/
theorem EncL_of {α : Type} {E : α → List Value → Prop} {m : Nat} : ∀ (xs : List α) (cell : Nat → Option Value), (∀ i (h : i < xs.length), ∃ cs : List Value, cs.length = m ∧ (∀ j, j < m → cell (i * m + j) = cs[j]?) ∧ E xs[i] cs) →
    ∃ vs : List Value, EncL E xs vs ∧ vs.length = xs.length * m ∧ ∀ j, j < vs.length → cell j = vs[j]?
  | [], cell, h => ⟨[], rfl, by simp, fun j hj => by simp at hj⟩
  | x :: xs, cell, h => by
    obtain ⟨cs, h1, h2, h3⟩ := h 0 (by simp)
    obtain ⟨vs, g1, g2, g3⟩ := EncL_of xs (fun k => cell (m + k)) (fun i hi => by
      obtain ⟨cs, h1, h2, h3⟩ := h (i + 1) (by simpa using hi)
      exact ⟨cs, h1, fun j hj => by rw [← h2 j hj]; congr 1; rw [Nat.add_mul]; omega, h3⟩)
    refine ⟨cs ++ vs, ⟨cs, vs, rfl, h3, g1⟩, by rw [List.length_append, h1, g2, List.length_cons, Nat.add_mul]; omega, fun j hj => ?_⟩
    rcases Nat.lt_or_ge j m with hjm | hjm
    · rw [List.getElem?_append_left (by omega), ← h2 j hjm]; congr 1; omega
    · rw [List.getElem?_append_right (by omega), h1, ← g3 (j - m) (by rw [List.length_append] at hj; omega)]
      congr 1; omega

section
variable {X : Fix} {ρ : Nat → Nat} {s : St} {a : Act} {w : World}

/-- A frozen block may be read by anybody. -/
theorem RR.ok_frozen (R : RR X ρ s a w) {id te : Nat} {e : Ty} {xs : List e.den} (hb : lkb s.hp id = .row te e xs true) (hne : xs ≠ []) : okC X ρ s.hp w (ρ id) := by
  have hl : live (lkb s.hp id) := by rw [hb]; exact hne
  obtain ⟨h1, h2⟩ := R.lt hl
  refine ⟨.inr h1, h2, fun id' hlw he => ?_⟩
  have := R.inj id' id (liveW_live hlw) hl he
  subst this
  rw [hb] at hlw; exact hlw

theorem own_sl (R : RR X ρ s a w) {id te : Nat} {e : Ty} {xs : List e.den} {f : Bool} (hb : lkb s.hp id = .row te e xs f) {l : List Value} (h : OwnV (cx X ρ s.hp w) id l) {ok : Nat → Prop}
    (hok : xs ≠ [] → ok (ρ id)) (hsub : ∀ b, okC X ρ s.hp w b → ok b) : ∃ A n, l = [.slice A xs.length n] ∧ Sl ok w e.size (Enc ok w e) xs A n := by
  unfold OwnV at h
  rw [show (cx X ρ s.hp w).hp = s.hp from rfl, hb] at h
  obtain ⟨A, n, g1, g2, g3, g4, g5⟩ := h
  refine ⟨A, n, g1, ?_, g2, g3, fun h1 _ => g4 h1, fun hne => ?_⟩
  · by_cases hx : xs = []
    · subst hx; simp
    · exact (g5 hx).2.1
  · obtain ⟨k1, k2, k3⟩ := g5 hne
    have hh := R.heap id
    rw [hb] at hh
    obtain ⟨_, hh⟩ := hh
    obtain ⟨q1, cs, q2, q3, q4⟩ := hh hne
    have q2 : w.heap[ρ id]? = some (.cells cs te (0, 0)) := q2
    have q4 : EncL (Enc (okC X ρ s.hp w) w e) xs (cs.toList.take (xs.length * e.size)) := q4
    refine ⟨ρ id, 0, k1, hok hne, fun i hi => ?_⟩
    obtain ⟨m, m1, m2, m3⟩ := EncL_at (fun x vs h => Enc_length e x vs h) xs _ q4 i hi
    refine ⟨m, m2, fun j hj => ?_, Enc_mono (fun b hb => ⟨hsub b hb, .refl _ _⟩) e _ _ m1⟩
    rw [← m3 j hj, cell_of_block q2, List.getElem?_take, if_pos (by
      have : i * e.size + e.size ≤ xs.length * e.size := by rw [← Nat.succ_mul]; exact Nat.mul_le_mul_right _ (by omega)
      omega)]
    simp

mutual
theorem pack_enc (R : RR X ρ s a w) : ∀ (e : Ty) (v : AV) (y : e.den) (l : List Value), pack s.hp e v = some y → CR (cx X ρ s.hp w) v l → Enc (okC X ρ s.hp w) w e y l
  | .int k, .int k' n, y, l, hp, h => by
    simp only [pack] at hp
    split at hp
    · rename_i hk; subst hk; cases hp; exact h
    · cases hp
  | .bool, .bool b, y, l, hp, h => by simp only [pack, Option.some.injEq] at hp; subst hp; exact h
  | .str, .str b, y, l, hp, h => by simp only [pack, Option.some.injEq] at hp; subst hp; exact h
  | .unit, .agg [], y, l, hp, h => h
  | .pair p q, .agg (v :: r), y, l, hp, h => by
    simp only [pack] at hp
    split at hp
    · rename_i x hx
      split at hp
      · rename_i z hz
        cases hp
        obtain ⟨u, t, rfl, h1, h2⟩ := h
        exact ⟨u, t, rfl, pack_enc R p v x u hx h1, packs_enc R q r z t hz h2⟩
      · cases hp
    · cases hp
  | .sl e, .ro e' xs, y, l, hp, h => by
    simp only [pack] at hp
    split at hp
    · rename_i he; subst he; cases hp; exact h
    · cases hp
  | .sl e, .con v, y, l, hp, h => by
    have hv : v = .slice none 0 0 ∧ y = [] := by
      cases v with
      | slice A n c =>
        cases A with
        | some A => simp [pack] at hp
        | none => cases n with
          | succ n => simp [pack] at hp
          | zero => cases c with
            | succ c => simp [pack] at hp
            | zero => simp only [pack, Option.some.injEq] at hp; exact ⟨rfl, hp.symm⟩
      | _ => simp [pack] at hp
    obtain ⟨rfl, rfl⟩ := hv
    obtain ⟨rfl, _⟩ := h
    exact ⟨none, 0, rfl, Nat.le_refl _, Nat.zero_le _, Nat.zero_le _, fun _ _ => rfl, fun hne => absurd rfl hne⟩
  | .sl e, .own id, y, l, hp, h => by
    simp only [pack] at hp
    split at hp
    · rename_i te e' xs hb
      split at hp
      · rename_i he
        subst he
        cases hp
        obtain ⟨A, n, g1, g2⟩ := own_sl R hb h (ok := okC X ρ s.hp w) (fun hne => R.ok_frozen hb hne) (fun _ h => h)
        exact ⟨A, n, g1, g2⟩
      · cases hp
    · cases hp
  | .arr n e, .arr n' e' xs, y, l, hp, h => by
    simp only [pack] at hp
    split at hp
    · rename_i he
      subst he
      split at hp
      · rename_i hn; subst hn; cases hp; exact h
      · cases hp
    · cases hp
theorem packs_enc (R : RR X ρ s a w) : ∀ (e : Ty) (vs : List AV) (y : e.den) (l : List Value), packs s.hp e vs = some y → CRs (cx X ρ s.hp w) vs l → Enc (okC X ρ s.hp w) w e y l
  | .pair p q, v :: r, y, l, hp, h => by
    simp only [packs] at hp
    split at hp
    · rename_i x hx
      split at hp
      · rename_i z hz
        cases hp
        obtain ⟨u, t, rfl, h1, h2⟩ := h
        exact ⟨u, t, rfl, pack_enc R p v x u hx h1, packs_enc R q r z t hz h2⟩
      · cases hp
    · cases hp
  | .unit, [], y, l, hp, h => h
end
end
end Go.Proofs.YtejedlpnejjnbaaV
