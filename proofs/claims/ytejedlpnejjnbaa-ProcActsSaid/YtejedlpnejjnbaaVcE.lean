/- The operations of the VC evaluator that write nothing, more: tests, conversions, fields, elements, loads, cuts. -/
import Derived.Test.YtejedlpnejjnbaaVcD
set_option linter.unusedVariables false
set_option linter.unusedSimpArgs false
namespace Go.Proofs.YtejedlpnejjnbaaV
open Go.RowKit

structure EnvT (E : Env) (P : Program) : Prop where
  tt : ∀ t e, lkT E.tt t = some e → TyOk P e t
  et : ∀ t te, lkE E.et t = some te → P.underlying t = some (.slice te)

section
variable {E : Env} {X : Fix} {ρ : Nat → Nat} {s : St} {a : Act} {w : World} {C : AV → Prop} {o : Oper}

/-- '==' of structs and arrays, as the model tells it: proved apart. -/
def EqLaw (X : Fix) (c : Cx) : Prop := ∀ (e : Ty) (t : TypeId) (u v : AV) (x y : Value) (r : Bool) (w : World),
  TyOk X.P e t → fits e u = true → fits e v = true → aggTy e = true → depthT e ≤ 100 → VR c u x → VR c v y → eqAV u v = some r →
  (Op.equal t x y).run X.P w = .ok r w ∧ ∀ op (p q : Operand), (eqGuard op t p q x y).run X.P w = .ok () w

theorem run_equalIn_bool {P : Program} {w : World} {t : TypeId} (d : Nat) (p q : Bool) (h : P.underlying t = some .bool) : (Op.equalIn (d + 1) t (.bool p) (.bool q)).run P w = .ok (p == q) w := by
  simp [Op.equalIn, Sem.run_bind, run_underlying h]
theorem run_equalIn_ptr_nil {P : Program} {w : World} {t u : TypeId} (d : Nat) (a : Addr) (h : P.underlying t = some (.pointer u)) : (Op.equalIn (d + 1) t (.pointer (some a)) (.pointer none)).run P w = .ok false w := by
  simp [Op.equalIn, Sem.run_bind, run_underlying h]
theorem run_equalIn_nil_nil {P : Program} {w : World} {t u : TypeId} (d : Nat) (h : P.underlying t = some (.pointer u)) : (Op.equalIn (d + 1) t (.pointer none) (.pointer none)).run P w = .ok true w := by
  simp [Op.equalIn, Sem.run_bind, run_underlying h]
theorem run_equalIn_slice_nil {P : Program} {w : World} {t e : TypeId} (d : Nat) (A : Option Addr) (n c : Nat) (h : P.underlying t = some (.slice e)) : (Op.equalIn (d + 1) t (.slice A n c) (.slice none 0 0)).run P w = .ok A.isNone w := by
  cases A <;> simp [Op.equalIn, Sem.run_bind, run_underlying h]
theorem run_equal_bool {P : Program} {w : World} {t : TypeId} (p q : Bool) (h : P.underlying t = some .bool) : (Op.equal t (.bool p) (.bool q)).run P w = .ok (p == q) w := run_equalIn_bool 9999 p q h
theorem run_equal_ptr_nil {P : Program} {w : World} {t u : TypeId} (a : Addr) (h : P.underlying t = some (.pointer u)) : (Op.equal t (.pointer (some a)) (.pointer none)).run P w = .ok false w := run_equalIn_ptr_nil 9999 a h
theorem run_equal_nil_nil {P : Program} {w : World} {t u : TypeId} (h : P.underlying t = some (.pointer u)) : (Op.equal t (.pointer none) (.pointer none)).run P w = .ok true w := run_equalIn_nil_nil 9999 h
theorem run_equal_slice_nil {P : Program} {w : World} {t e : TypeId} (A : Option Addr) (n c : Nat) (h : P.underlying t = some (.slice e)) : (Op.equal t (.slice A n c) (.slice none 0 0)).run P w = .ok A.isNone w := run_equalIn_slice_nil 9999 A n c h

theorem isSl_ty {P : Program} {t : TypeId} {E : Env} (hE : EnvT E P) (h : isSl (lkT E.tt t) = true) : ∃ te, P.underlying t = some (.slice te) := by
  cases hl : lkT E.tt t with
  | none => rw [hl] at h; cases h
  | some e =>
    rw [hl] at h
    cases e <;> try cases h
    obtain ⟨_, te, h2, _⟩ := hE.tt t _ hl
    exact ⟨te, h2⟩
theorem isPt_ty {P : Program} {t : TypeId} {E : Env} (hE : EnvT E P) (h : isPt (lkT E.tt t) = true) : ∃ te, P.underlying t = some (.pointer te) := by
  cases hl : lkT E.tt t with
  | none => rw [hl] at h; cases h
  | some e =>
    rw [hl] at h
    cases e <;> try cases h
    rename_i z
    cases z with
    | succ z => cases h
    | zero =>
      obtain ⟨_, d, h2, _, h3, _⟩ := hE.tt t _ hl
      obtain ⟨u, rfl⟩ := h3 rfl
      exact ⟨u, h2⟩
theorem isFnT_ty {P : Program} {t : TypeId} {E : Env} (hE : EnvT E P) (h : isFnT (lkT E.tt t) = true) : ∃ a b c, P.underlying t = some (.func a b c) := by
  cases hl : lkT E.tt t with
  | none => rw [hl] at h; cases h
  | some e =>
    rw [hl] at h
    cases e <;> try cases h
    rename_i z
    cases z with
    | zero => cases h
    | succ z => cases z with
      | succ z => cases h
      | zero =>
        obtain ⟨_, d, h2, _, _, h3⟩ := hE.tt t _ hl
        obtain ⟨a, b, c, rfl⟩ := h3 rfl
        exact ⟨a, b, c, h2⟩
theorem run_equalIn_fn_nil {P : Program} {w : World} {t : TypeId} {p q : Array TypeId} {v : Bool} (n : Nat) (f : Fn) (a c : Array Value) (h : P.underlying t = some (.func p q v)) : (Op.equalIn (n + 1) t (.func f a c) .nilFunc).run P w = .ok false w := by
  simp [Op.equalIn, run_underlying h]
theorem run_equal_fn_nil {P : Program} {w : World} {t : TypeId} {p q : Array TypeId} {v : Bool} (f : Fn) (a c : Array Value) (h : P.underlying t = some (.func p q v)) : (Op.equal t (.func f a c) .nilFunc).run P w = .ok false w := run_equalIn_fn_nil 9999 f a c h

theorem ex_binOp {op : BinOp} {t t' : TypeId} {x y : Operand} (hE : EnvT E X.P) (hq : EqLaw X (cx X ρ s.hp w)) (R : RR X ρ s a w) (ho : o.op = .binOp op t x y t') (h : pv E s.hp (opn s.fr) (.binOp op t x y t') C) :
    ∃ v z, C v ∧ Up X.P a o z w ∧ VR (cx X ρ s.hp w) v z := by
  simp only [pv] at h
  have hx := VR_opn R x
  have hy := VR_opn R y
  -- what is to be shown of the two values
  suffices H : ∃ v z, C v ∧ (∀ w : World, (eqGuard op t x y (a.eval x) (a.eval y)).run X.P w = .ok () w) ∧ (∀ w : World, (binOp op t (a.eval x) (a.eval y)).run X.P w = .ok z w) ∧ VR (cx X ρ s.hp w) v z by
    obtain ⟨v, z, h1, h2, h3, h4⟩ := H
    exact ⟨v, z, h1, fun w' _ => by simp [execOp, ho, Sem.run_bind, h2, h3], h4⟩
  generalize opn s.fr x = u at h hx
  generalize opn s.fr y = v at h hy
  generalize a.eval x = p at *
  generalize a.eval y = q at *
  unfold binAV at h
  split at h
  · -- whole numbers
    rename_i ka m kb n
    obtain ⟨rfl, wx⟩ := VR_int hx
    obtain ⟨rfl, wy⟩ := VR_int hy
    have hg := fun w : World => run_eqGuard_no (P := X.P) w op t x y (.int ka m) (.int kb n) (by simp) (by simp)
    split at h
    · obtain ⟨v, z, h1, h2, h3⟩ := run_shiftOp (P := X.P) w _ _ _ _ _ t C (cx X ρ s.hp w) wx h
      exact ⟨v, z, h1, hg, h2, h3⟩
    · obtain ⟨v, z, h1, h2, h3⟩ := run_shiftOp (P := X.P) w _ _ _ _ _ t C (cx X ρ s.hp w) wx h
      exact ⟨v, z, h1, hg, h2, h3⟩
    · by_cases e : ka = kb
      · subst e
        rw [decide_eq_true (rfl : ka = ka)] at h
        have h : intOp ka m n op C := h
        obtain ⟨v, z, h1, h2, h3⟩ := run_intOp (P := X.P) w _ _ _ _ t C (cx X ρ s.hp w) wx wy h
        exact ⟨v, z, h1, hg, h2, h3⟩
      · rw [decide_eq_false e] at h; exact h.elim
  · obtain rfl := VR_bool hx
    obtain rfl := VR_bool hy
    rename_i p q
    split at h
    · rename_i ht
      have hu := (hE.tt t _ ht).2
      have hg := fun w : World => run_eqGuard_no (P := X.P) w op t x y (.bool p) (.bool q) (by simp) (by simp)
      cases op <;> simp only [boolOp] at h <;> try exact h.elim
      · exact ⟨_, .bool (p == q), h, hg, fun w => by simp [binOp, Sem.run_bind, run_equal_bool p q hu], mkVR_bool _⟩
      · exact ⟨_, .bool (!(p == q)), h, hg, fun w => by simp [binOp, Sem.run_bind, run_equal_bool p q hu], mkVR_bool _⟩
    · exact h.elim
  · obtain ⟨rfl, wx⟩ := VR_str hx
    obtain ⟨rfl, wy⟩ := VR_str hy
    rename_i p q
    have hg := fun w : World => run_eqGuard_no (P := X.P) w op t x y (.string p) (.string q) (by simp) (by simp)
    cases op <;> simp only [strOp] at h <;> try exact h.elim
    · have hm : ¬ (((p.size + q.size : Nat) : Int) > IntKind.i64.max) := by
        simp only [IntKind.max, IntKind.signed, IntKind.bits]; have := h.1; simp; omega
      refine ⟨_, .string (p ++ q), h.2, hg, fun w => by simp only [binOp, Op.stringOp]; rw [if_neg hm]; rfl, ⟨⟨rfl, ?_⟩, rfl⟩⟩
      have := h.1
      simp only [ByteArray.size_append, maxLen]; omega
    · exact ⟨_, .bool (p.toList == q.toList), h, hg, fun w => by simp [binOp, Op.stringOp], mkVR_bool _⟩
    · exact ⟨_, .bool (!(p.toList == q.toList)), h, hg, fun w => by simp [binOp, Op.stringOp], mkVR_bool _⟩
  · rename_i l l'
    have key : ∀ (D : Bool → Prop), eqOp (lkT E.tt t) (.agg l) (.agg l') D → ∃ r, D r ∧ (∀ w : World, (eqGuard op t x y p q).run X.P w = .ok () w) ∧ (∀ w : World, (Op.equal t p q).run X.P w = .ok r w) := by
      intro D hD
      unfold eqOp at hD
      split at hD
      · rename_i e r ht he
        cases hf : (fits e (.agg l) && fits e (.agg l') && Nat.ble (depthT e) 100) with
        | false => rw [hf] at hD; exact hD.elim
        | true =>
          rw [hf] at hD
          rw [Bool.and_eq_true, Bool.and_eq_true] at hf
          have ha : aggTy e = true := by cases e <;> first | rfl | (have := hf.1.1; simp [fits] at this)
          have := fun w : World => hq e t _ _ p q r w (hE.tt t _ ht) hf.1.1 hf.1.2 ha (Nat.le_of_ble_eq_true hf.2) hx hy he
          exact ⟨r, hD, fun w => (this w).2 _ _ _, fun w => (this w).1⟩
      · exact hD.elim
    obtain ⟨xs, rfl, _⟩ := VR_agg hx
    obtain ⟨ys, rfl, _⟩ := VR_agg hy
    split at h
    · obtain ⟨r, h1, h2, h3⟩ := key _ h
      exact ⟨_, .bool r, h1, h2, fun w => by simp [binOp, Sem.run_bind, h3], mkVR_bool _⟩
    · obtain ⟨r, h1, h2, h3⟩ := key _ h
      exact ⟨_, .bool (!r), h1, h2, fun w => by simp [binOp, Sem.run_bind, h3], mkVR_bool _⟩
    · exact h.elim
  · rename_i n e xs n' e' ys
    have key : ∀ (D : Bool → Prop), eqOp (lkT E.tt t) (.arr n e xs) (.arr n' e' ys) D → ∃ r, D r ∧ (∀ w : World, (eqGuard op t x y p q).run X.P w = .ok () w) ∧ (∀ w : World, (Op.equal t p q).run X.P w = .ok r w) := by
      intro D hD
      unfold eqOp at hD
      split at hD
      · rename_i et r ht he
        cases hf : (fits et (.arr n e xs) && fits et (.arr n' e' ys) && Nat.ble (depthT et) 100) with
        | false => rw [hf] at hD; exact hD.elim
        | true =>
          rw [hf] at hD
          rw [Bool.and_eq_true, Bool.and_eq_true] at hf
          have ha : aggTy et = true := by cases et <;> first | rfl | (have := hf.1.1; simp [fits] at this)
          have := fun w : World => hq et t _ _ p q r w (hE.tt t _ ht) hf.1.1 hf.1.2 ha (Nat.le_of_ble_eq_true hf.2) hx hy he
          exact ⟨r, hD, fun w => (this w).2 _ _ _, fun w => (this w).1⟩
      · exact hD.elim
    obtain ⟨xs, rfl, _⟩ := VR_arr hx
    obtain ⟨ys, rfl, _⟩ := VR_arr hy
    split at h
    · obtain ⟨r, h1, h2, h3⟩ := key _ h
      exact ⟨_, .bool r, h1, h2, fun w => by simp [binOp, Sem.run_bind, h3], mkVR_bool _⟩
    · obtain ⟨r, h1, h2, h3⟩ := key _ h
      exact ⟨_, .bool (!r), h1, h2, fun w => by simp [binOp, Sem.run_bind, h3], mkVR_bool _⟩
    · exact h.elim
  · rename_i e0 xs
    cases ht : isSl (lkT E.tt t) with
    | false => rw [ht] at h; exact h.elim
    | true =>
      rw [ht] at h
      obtain ⟨te, hu⟩ := isSl_ty hE ht
      obtain ⟨A, n, rfl, hs⟩ := VR_ro hx
      obtain ⟨rfl, _⟩ := VR_con hy
      have hg := fun w : World => run_eqGuard_no (P := X.P) w op t x y (.slice A xs.length n) (.slice none 0 0) (by simp) (by simp)
      have hA : xs ≠ [] → A.isNone = false := fun hne => by obtain ⟨b, o, rfl, _⟩ := hs.2.2.2.2 hne; rfl
      cases op <;> try exact (show False from h).elim
      · exact ⟨_, .bool A.isNone, h A.isNone hA, hg, fun w => by simp [binOp, Sem.run_bind, run_equal_slice_nil A xs.length n hu], mkVR_bool _⟩
      · exact ⟨_, .bool (!A.isNone), h (!A.isNone) (fun hne => by rw [hA hne]; rfl), hg, fun w => by simp [binOp, Sem.run_bind, run_equal_slice_nil A xs.length n hu], mkVR_bool _⟩
  · cases ht : isSl (lkT E.tt t) with
    | false => rw [ht] at h; exact h.elim
    | true =>
      rw [ht] at h
      obtain ⟨te, hu⟩ := isSl_ty hE ht
      obtain ⟨rfl, _⟩ := VR_con hx
      obtain ⟨rfl, _⟩ := VR_con hy
      have hg := fun w : World => run_eqGuard_no (P := X.P) w op t x y (.slice none 0 0) (.slice none 0 0) (by simp) (by simp)
      cases op <;> try exact (show False from h).elim
      · exact ⟨_, .bool true, h, hg, fun w => by simp [binOp, Sem.run_bind, run_equal_slice_nil none 0 0 hu], mkVR_bool _⟩
      · exact ⟨_, .bool false, h, hg, fun w => by simp [binOp, Sem.run_bind, run_equal_slice_nil none 0 0 hu], mkVR_bool _⟩
  · cases ht : isPt (lkT E.tt t) with
    | false => rw [ht] at h; exact h.elim
    | true =>
      rw [ht] at h
      obtain ⟨te, hu⟩ := isPt_ty hE ht
      obtain ⟨off, _, _, rfl⟩ := VR_ptr hx
      obtain ⟨rfl, _⟩ := VR_con hy
      have hg := fun w : World => run_eqGuard_no (P := X.P) w op t x y (.pointer (some ⟨(cx X ρ s.hp w).ρ ‹_›, off, none⟩)) (.pointer none) (by simp) (by simp)
      cases op <;> try exact (show False from h).elim
      · exact ⟨_, .bool false, h, hg, fun w => by simp [binOp, Sem.run_bind, run_equal_ptr_nil _ hu], mkVR_bool _⟩
      · exact ⟨_, .bool true, h, hg, fun w => by simp [binOp, Sem.run_bind, run_equal_ptr_nil _ hu], mkVR_bool _⟩
  · cases ht : isPt (lkT E.tt t) with
    | false => rw [ht] at h; exact h.elim
    | true =>
      rw [ht] at h
      obtain ⟨te, hu⟩ := isPt_ty hE ht
      obtain ⟨rfl, _⟩ := VR_con hx
      obtain ⟨rfl, _⟩ := VR_con hy
      have hg := fun w : World => run_eqGuard_no (P := X.P) w op t x y (.pointer none) (.pointer none) (by simp) (by simp)
      cases op <;> try exact (show False from h).elim
      · exact ⟨_, .bool true, h, hg, fun w => by simp [binOp, Sem.run_bind, run_equal_nil_nil hu], mkVR_bool _⟩
      · exact ⟨_, .bool false, h, hg, fun w => by simp [binOp, Sem.run_bind, run_equal_nil_nil hu], mkVR_bool _⟩
  · rename_i f0 a0 c0
    cases ht : isFnT (lkT E.tt t) with
    | false => rw [ht] at h; exact h.elim
    | true =>
      rw [ht] at h
      obtain ⟨p, q, r, hu⟩ := isFnT_ty hE ht
      obtain ⟨a', d', rfl, _⟩ := VR_fn hx
      obtain ⟨rfl, _⟩ := VR_con hy
      have hg := fun w : World => run_eqGuard_no (P := X.P) w op t x y (.func f0 a' d') .nilFunc (by simp) (by simp)
      cases op <;> try exact (show False from h).elim
      · exact ⟨_, .bool false, h, hg, fun w => by simp [binOp, Sem.run_bind, run_equal_fn_nil f0 a' d' hu], mkVR_bool _⟩
      · exact ⟨_, .bool true, h, hg, fun w => by simp [binOp, Sem.run_bind, run_equal_fn_nil f0 a' d' hu], mkVR_bool _⟩
  · exact h.elim
end
end Go.Proofs.YtejedlpnejjnbaaV
