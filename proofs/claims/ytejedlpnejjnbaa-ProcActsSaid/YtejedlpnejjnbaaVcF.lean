/- Typed data and values: what is unpacked reads as the data did; fields, elements and paths lie where the types say. -/
import Derived.Test.YtejedlpnejjnbaaVcE
set_option linter.unusedVariables false
set_option linter.unusedSimpArgs false
namespace Go.Proofs.YtejedlpnejjnbaaV
open Go.RowKit

mutual
theorem TyOk.wf {P : Program} : ∀ (e : Ty) (t : TypeId), TyOk P e t → WfT e
  | .int k, t, _ => trivial
  | .bool, t, _ => trivial
  | .str, t, _ => trivial
  | .unit, t, _ => trivial
  | .opq _, t, _ => trivial
  | .sl e, t, h => by obtain ⟨_, te, _, h⟩ := h; exact TyOk.wf e te h
  | .arr n e, t, h => by obtain ⟨_, te, _, h⟩ := h; exact TyOk.wf e te h
  | .pair a b, t, h => by
    obtain ⟨_, fs, _, _, f, r, _, _, _, h1, h2⟩ := h
    exact ⟨TyOk.wf a _ h1, FsOk.chain b _ _ h2, FsOk.wf b _ _ h2⟩
theorem FsOk.chain {P : Program} : ∀ (e : Ty) (fs : List Field) (o : Nat), FsOk P e fs o → chain e
  | .pair a b, fs, o, _ => trivial
  | .unit, fs, o, _ => trivial
theorem FsOk.wf {P : Program} : ∀ (e : Ty) (fs : List Field) (o : Nat), FsOk P e fs o → WfT e
  | .pair a b, fs, o, h => by
    obtain ⟨f, r, _, _, _, h1, h2⟩ := h
    exact ⟨TyOk.wf a _ h1, FsOk.chain b _ _ h2, FsOk.wf b _ _ h2⟩
  | .unit, fs, o, _ => trivial
end

mutual
theorem CR_unpack (c : Cx) : ∀ (e : Ty) (x : e.den) (vs : List Value), WfT e → Enc c.ok c.w e x vs → CR c (unpack e x) vs
  | .int k, n, vs, _, h => h
  | .bool, b, vs, _, h => h
  | .str, s, vs, _, h => h
  | .unit, _, vs, _, h => h
  | .pair a b, x, vs, hw, h => by
    obtain ⟨u, v, rfl, h1, h2⟩ := h
    exact ⟨u, v, rfl, CR_unpack c a x.1 u hw.1 h1, CRs_fieldsOf c b x.2 v hw.2.1 hw.2.2 h2⟩
  | .sl e, xs, vs, _, h => h
  | .arr n e, xs, vs, _, h => h
  | .opq _, _, vs, _, h => h.elim
theorem CRs_fieldsOf (c : Cx) : ∀ (e : Ty) (x : e.den) (vs : List Value), chain e → WfT e → Enc c.ok c.w e x vs → CRs c (fieldsOf e x) vs
  | .pair a b, x, vs, _, hw, h => by
    obtain ⟨u, v, rfl, h1, h2⟩ := h
    exact ⟨u, v, rfl, CR_unpack c a x.1 u hw.1 h1, CRs_fieldsOf c b x.2 v hw.2.1 hw.2.2 h2⟩
  | .unit, _, vs, _, _, h => h
end

theorem aggAV_unpack : ∀ (e : Ty) (x : e.den), aggAV (unpack e x) = aggTy e := by
  intro e x; cases e <;> rfl

mutual
theorem CR_length {c : Cx} : ∀ (e : Ty) (v : AV) (vs : List Value), Shp e v → CR c v vs → vs.length = e.size
  | .int k, .int k' n, vs, _, h => by obtain ⟨rfl, _⟩ := h; rfl
  | .bool, .bool b, vs, _, h => by have h : vs = _ := h; subst h; rfl
  | .str, .str s, vs, _, h => by obtain ⟨rfl, _⟩ := h; rfl
  | .sl e, .ro e' xs, vs, _, h => Enc_length (.sl e') xs vs h
  | .sl e, .con v, vs, _, h => by obtain ⟨rfl, _⟩ := h; rfl
  | .sl e, .own id, vs, _, h => by
    have h : OwnV c id vs := h
    unfold OwnV at h
    split at h
    · obtain ⟨A, n, rfl, _⟩ := h; rfl
    · exact h.elim
  | .sl e, .vsl id n, vs, _, h => by obtain ⟨_, _, rfl⟩ := h; rfl
  | .sl e, .dead, vs, _, h => by obtain ⟨x, rfl⟩ := h; rfl
  | .unit, .agg [], vs, _, h => by have h : vs = [] := h; subst h; rfl
  | .pair a b, .agg (v :: l), vs, hs, h => by
    obtain ⟨u, z, rfl, h1, h2⟩ := h
    rw [List.length_append, CR_length a v u hs.1 h1, CRs_length b l z hs.2 h2]; rfl
  | .arr n e, .arr n' e' xs, vs, hs, h => by obtain ⟨rfl, rfl⟩ := hs; exact Enc_length (.arr n' e') xs vs h
  | .opq _, .ptr _ _, vs, _, h => by obtain ⟨off, t, _, rfl⟩ := h; rfl
  | .opq _, .fn _ _ _, vs, _, h => by obtain ⟨a, d, rfl, _⟩ := h; rfl
  | .opq _, .con v, vs, _, h => by obtain ⟨rfl, _⟩ := h; rfl
  | .opq _, .dead, vs, _, h => by obtain ⟨x, rfl⟩ := h; rfl
theorem CRs_length {c : Cx} : ∀ (e : Ty) (l : List AV) (vs : List Value), Shps e l → CRs c l vs → vs.length = e.size
  | .pair a b, v :: l, vs, hs, h => by
    obtain ⟨u, z, rfl, h1, h2⟩ := h
    rw [List.length_append, CR_length a v u hs.1 h1, CRs_length b l z hs.2 h2]; rfl
  | .unit, [], vs, _, h => by have h : vs = [] := h; subst h; rfl
end

mutual
theorem Shp_of_fits : ∀ (e : Ty) (v : AV), fits e v = true → Shp e v
  | .int k, .int k' n, h => by have h : (k == k') = true := h; exact (beq_iff_eq.1 h).symm
  | .bool, .bool b, _ => trivial
  | .str, .str s, _ => trivial
  | .sl e, .ro e' xs, h => by have h : decide (e' = e) = true := h; exact (of_decide_eq_true h : e' = e)
  | .sl e, .con _, _ => trivial
  | .sl e, .own _, _ => trivial
  | .sl e, .vsl _ _, _ => trivial
  | .unit, .agg [], _ => trivial
  | .pair a b, .agg (v :: l), h => by
    have h : (fits a v && fitss b l) = true := h
    rw [Bool.and_eq_true] at h
    exact ⟨Shp_of_fits a v h.1, Shps_of_fitss b l h.2⟩
  | .arr n e, .arr n' e' xs, h => by
    have h : (n' == n && decide (e' = e)) = true := h
    rw [Bool.and_eq_true] at h
    exact ⟨beq_iff_eq.1 h.1, of_decide_eq_true h.2⟩
  | .opq _, .ptr _ _, _ => trivial
  | .opq _, .fn _ _ _, _ => trivial
  | .opq _, .con _, _ => trivial
theorem Shps_of_fitss : ∀ (e : Ty) (l : List AV), fitss e l = true → Shps e l
  | .pair a b, v :: l, h => by
    have h : (fits a v && fitss b l) = true := h
    rw [Bool.and_eq_true] at h
    exact ⟨Shp_of_fits a v h.1, Shps_of_fitss b l h.2⟩
  | .unit, [], _ => trivial
end

mutual
theorem Shp_unpack : ∀ (e : Ty) (x : e.den), WfT e → Shp e (unpack e x)
  | .int k, n, _ => rfl
  | .bool, b, _ => trivial
  | .str, s, _ => trivial
  | .unit, _, _ => trivial
  | .pair a b, x, hw => ⟨Shp_unpack a x.1 hw.1, Shps_fieldsOf b x.2 hw.2.1 hw.2.2⟩
  | .sl e, xs, _ => rfl
  | .arr n e, xs, _ => ⟨rfl, rfl⟩
  | .opq _, _, _ => trivial
theorem Shps_fieldsOf : ∀ (e : Ty) (x : e.den), chain e → WfT e → Shps e (fieldsOf e x)
  | .pair a b, x, _, hw => ⟨Shp_unpack a x.1 hw.1, Shps_fieldsOf b x.2 hw.2.1 hw.2.2⟩
  | .unit, _, _, _ => trivial
end

/-! ### Paths -/
theorem EncL_at {α : Type} {E : α → List Value → Prop} {m : Nat} (h : ∀ x vs, E x vs → vs.length = m) : ∀ (xs : List α) (vs : List Value), EncL E xs vs → ∀ i (hi : i < xs.length),
    ∃ l, E xs[i] l ∧ l.length = m ∧ ∀ j, j < m → vs[i * m + j]? = l[j]?
  | [], vs, e, i, hi => by simp at hi
  | x :: xs, vs, e, i, hi => by
    obtain ⟨u, v, rfl, hu, hv⟩ := e
    have hl := h _ _ hu
    cases i with
    | zero =>
      refine ⟨u, hu, hl, fun j hj => ?_⟩
      rw [Nat.zero_mul, Nat.zero_add, List.getElem?_append_left (by omega)]
    | succ i =>
      obtain ⟨l, h1, h2, h3⟩ := EncL_at h xs v hv i (by simpa using hi)
      refine ⟨l, h1, h2, fun j hj => ?_⟩
      rw [List.getElem?_append_right (by rw [hl, Nat.add_mul]; omega), hl, show (i + 1) * m + j - m = i * m + j by rw [Nat.add_mul]; omega]
      exact h3 j hj

theorem flds {c : Cx} : ∀ (e : Ty) (l : List AV) (vs : List Value) (i o : Nat) (t : Ty) (v : AV), Shps e l → WfT e → CRs c l vs → fldT e i = some (o, t) → l[i]? = some v →
    Shp t v ∧ WfT t ∧ ∃ m : List Value, CR c v m ∧ m.length = t.size ∧ ∀ j, j < t.size → vs[o + j]? = m[j]?
  | .pair a b, u :: l, vs, 0, o, t, v, hs, hw, hc, hf, hv => by
    have hf : some (0, a) = some (o, t) := hf
    have hv : some u = some v := hv
    cases hf; cases hv
    obtain ⟨p, q, rfl, h1, h2⟩ := hc
    have hl := CR_length _ _ _ hs.1 h1
    exact ⟨hs.1, hw.1, p, h1, hl, fun j hj => by rw [Nat.zero_add, List.getElem?_append_left (by omega)]⟩
  | .pair a b, u :: l, vs, i + 1, o, t, v, hs, hw, hc, hf, hv => by
    obtain ⟨p, q, rfl, h1, h2⟩ := hc
    have hl := CR_length _ _ _ hs.1 h1
    simp only [fldT] at hf
    split at hf
    · rename_i o' t' hf'
      cases hf
      obtain ⟨g1, g2, m, g3, g4, g5⟩ := flds b l q i o' t v hs.2 hw.2.2 h2 hf' (by simpa using hv)
      refine ⟨g1, g2, m, g3, g4, fun j hj => ?_⟩
      rw [List.getElem?_append_right (by omega), hl, show a.size + o' + j - a.size = o' + j by omega]
      exact g5 j hj
    · cases hf
  | .unit, [], vs, i, o, t, v, hs, hw, hc, hf, hv => by cases hv

theorem getA_cells {c : Cx} : ∀ (p : List Step) (e : Ty) (v : AV) (vs : List Value) (off : Nat) (t : Ty) (u : AV), Shp e v → WfT e → CR c v vs → pathT e p = some (off, t) → getA v p = some u →
    Shp t u ∧ WfT t ∧ ∃ m : List Value, CR c u m ∧ m.length = t.size ∧ ∀ j, j < t.size → vs[off + j]? = m[j]?
  | [], e, v, vs, off, t, u, hs, hw, hc, hp, hg => by
    simp only [pathT, Option.some.injEq, Prod.mk.injEq] at hp
    simp only [getA, Option.some.injEq] at hg
    obtain ⟨rfl, rfl⟩ := hp
    subst hg
    exact ⟨hs, hw, vs, hc, CR_length _ _ _ hs hc, fun j hj => by rw [Nat.zero_add]⟩
  | .fld i :: p, e, v, vs, off, t, u, hs, hw, hc, hp, hg => by
    simp only [pathT] at hp
    split at hp
    · rename_i o1 t1 hf
      split at hp
      · rename_i o2 t2 hp2
        simp only [Option.some.injEq, Prod.mk.injEq] at hp
        obtain ⟨rfl, rfl⟩ := hp
        cases v <;> simp only [getA] at hg <;> try cases hg
        rename_i l
        split at hg
        · rename_i v1 hv1
          have hss : Shps e l := by
            cases e <;> cases l <;> first | exact hs | (simp [fldT] at hf; done) | exact hs.elim
          obtain ⟨g1, g2, m, g3, g4, g5⟩ := flds e l vs i o1 t1 v1 hss hw hc hf hv1
          obtain ⟨k1, k2, m', k3, k4, k5⟩ := getA_cells p t1 v1 m o2 _ u g1 g2 g3 hp2 hg
          refine ⟨k1, k2, m', k3, k4, fun j hj => ?_⟩
          rw [← k5 j hj]
          have hj' : o2 + j < t1.size := by
            rcases Nat.lt_or_ge (o2 + j) m.length with h | h
            · omega
            · have h3 := k5 j hj
              rw [List.getElem?_eq_none h, List.getElem?_eq_getElem (by omega)] at h3
              cases h3
          rw [← g5 (o2 + j) hj', Nat.add_assoc]
        · cases hg
      · cases hp
    · cases hp
  | .at i :: p, e, v, vs, off, t, u, hs, hw, hc, hp, hg => by
    cases e <;> simp only [pathT] at hp <;> try cases hp
    rename_i n e
    split at hp
    · rename_i hr
      split at hp
      · rename_i o2 t2 hp2
        simp only [Option.some.injEq, Prod.mk.injEq] at hp
        obtain ⟨rfl, rfl⟩ := hp
        cases v <;> simp only [getA] at hg <;> try cases hg
        rename_i n' e' xs
        obtain ⟨rfl, rfl⟩ := hs
        obtain ⟨hn, hE⟩ := hc
        have hi : i.toNat < xs.length := by omega
        obtain ⟨l, h1, h2, h3⟩ := EncL_at (fun x vs h => Enc_length e' x vs h) xs vs hE i.toNat hi
        have hx : xs.getD i.toNat e'.dfl = xs[i.toNat] := by simp [List.getD_eq_getElem?_getD, List.getElem?_eq_getElem hi]
        rw [hx] at hg
        obtain ⟨k1, k2, m', k3, k4, k5⟩ := getA_cells p e' _ l o2 _ u (Shp_unpack e' _ hw) hw (CR_unpack c e' _ l hw h1) hp2 hg
        refine ⟨k1, k2, m', k3, k4, fun j hj => ?_⟩
        rw [← k5 j hj]
        have hj' : o2 + j < e'.size := by
          rcases Nat.lt_or_ge (o2 + j) l.length with h | h
          · omega
          · have h3 := k5 j hj
            rw [List.getElem?_eq_none h, List.getElem?_eq_getElem (by omega)] at h3
            cases h3
        rw [← h3 (o2 + j) hj', Nat.add_assoc]
      · cases hp
    · cases hp
end Go.Proofs.YtejedlpnejjnbaaV
