/- The operations of the VC evaluator that write nothing, the rest: addresses, loads, cuts, lengths, conversions. -/
import Derived.Test.YtejedlpnejjnbaaVcF
set_option linter.unusedVariables false
set_option linter.unusedSimpArgs false
namespace Go.Proofs.YtejedlpnejjnbaaV
open Go.RowKit

theorem ptyT_of_pathT : ∀ (p : List Step) (e : Ty) (off : Nat) (t : Ty), pathT e p = some (off, t) → ptyT e p = some t
  | [], e, off, t, h => by simp only [pathT, Option.some.injEq, Prod.mk.injEq] at h; simp [ptyT, h.2]
  | .fld i :: p, e, off, t, h => by
    simp only [pathT] at h
    split at h
    · rename_i o u hf
      split at h
      · rename_i o' v hp
        simp only [Option.some.injEq, Prod.mk.injEq] at h
        obtain ⟨_, rfl⟩ := h
        have : ∀ (e : Ty) (i o : Nat) (u : Ty), fldT e i = some (o, u) → ftyT e i = some u := by
          intro e
          induction e with
          | pair a b _ ih =>
            intro i o u h
            cases i with
            | zero => simp only [fldT, Option.some.injEq, Prod.mk.injEq] at h; simp [ftyT, h.2]
            | succ i =>
              simp only [fldT] at h
              split at h
              · rename_i o' t' h'
                simp only [Option.some.injEq, Prod.mk.injEq] at h
                obtain ⟨_, rfl⟩ := h
                exact ih i _ _ h'
              · cases h
          | _ => intro i o u h; simp [fldT] at h
        simp only [ptyT, this _ _ _ _ hf]
        exact ptyT_of_pathT p u _ _ hp
      · cases h
    · cases h
  | .at i :: p, e, off, t, h => by
    cases e <;> simp only [pathT] at h <;> try cases h
    split at h
    · split at h
      · rename_i o' v hp
        simp only [Option.some.injEq, Prod.mk.injEq] at h
        obtain ⟨_, rfl⟩ := h
        simp only [ptyT]
        exact ptyT_of_pathT p _ _ _ hp
      · cases h
    · cases h
theorem ptyB_of_pathB {b : Blk} {p : List Step} {off : Nat} {t : Ty} (h : pathB b p = some (off, t)) : ptyB b p = some t := by
  cases b with
  | none => simp [pathB] at h
  | var e v f => exact ptyT_of_pathT p e off t h
  | row te e xs f =>
    cases p with
    | nil => simp [pathB] at h
    | cons s p =>
      cases s with
      | fld i => simp [pathB] at h
      | «at» i =>
        simp only [pathB] at h
        split at h
        · split at h
          · rename_i o' v hp
            simp only [Option.some.injEq, Prod.mk.injEq] at h
            obtain ⟨_, rfl⟩ := h
            exact ptyT_of_pathT p _ _ _ hp
          · cases h
        · cases h

theorem pathT_snoc (q : Step) : ∀ (p : List Step) (e : Ty) (off : Nat) (t : Ty), pathT e p = some (off, t) → ∀ o u, pathT t [q] = some (o, u) → pathT e (p ++ [q]) = some (off + o, u)
  | [], e, off, t, h, o, u, hq => by
    simp only [pathT, Option.some.injEq, Prod.mk.injEq] at h
    obtain ⟨rfl, rfl⟩ := h
    rw [List.nil_append, hq, Nat.zero_add]
  | .fld i :: p, e, off, t, h, o, u, hq => by
    simp only [pathT] at h
    split at h
    · rename_i o1 t1 hf
      split at h
      · rename_i o' v hp
        simp only [Option.some.injEq, Prod.mk.injEq] at h
        obtain ⟨rfl, rfl⟩ := h
        rw [List.cons_append]
        simp only [pathT, hf, pathT_snoc q p t1 o' _ hp o u hq]
        rw [Nat.add_assoc]
      · cases h
    · cases h
  | .at i :: p, e, off, t, h, o, u, hq => by
    cases e <;> simp only [pathT] at h <;> try cases h
    split at h
    · rename_i hr
      split at h
      · rename_i o' v hp
        simp only [Option.some.injEq, Prod.mk.injEq] at h
        obtain ⟨rfl, rfl⟩ := h
        rw [List.cons_append]
        simp only [pathT, pathT_snoc q p _ o' _ hp o u hq, if_pos hr]
        rw [Nat.add_assoc]
      · cases h
    · cases h
theorem pathB_snoc {b : Blk} {q : Step} {p : List Step} {off : Nat} {t : Ty} (h : pathB b p = some (off, t)) {o : Nat} {u : Ty} (hq : pathT t [q] = some (o, u)) : pathB b (p ++ [q]) = some (off + o, u) := by
  cases b with
  | none => simp [pathB] at h
  | var e v f => exact pathT_snoc q p e off t h o u hq
  | row te e xs f =>
    cases p with
    | nil => simp [pathB] at h
    | cons s p =>
      cases s with
      | fld i => simp [pathB] at h
      | «at» i =>
        simp only [pathB] at h
        split at h
        · rename_i hr
          split at h
          · rename_i o' v hp
            simp only [Option.some.injEq, Prod.mk.injEq] at h
            obtain ⟨rfl, rfl⟩ := h
            rw [List.cons_append]
            simp only [pathB, pathT_snoc q p _ o' _ hp o u hq, if_pos hr]
            rw [Nat.add_assoc]
          · cases h
        · cases h

/-- A struct type's field, by its place. -/
theorem FsOk_at {P : Program} : ∀ (e : Ty) (fs : List Field) (o i : Nat) (off : Nat) (t : Ty), FsOk P e fs o → fldT e i = some (off, t) →
    ∃ f, fs[i]? = some f ∧ f.offset = o + off ∧ TyOk P t f.type
  | .pair a b, fs, o, 0, off, t, h, hf => by
    obtain ⟨f, r, rfl, h1, _, h2, _⟩ := h
    simp only [fldT, Option.some.injEq, Prod.mk.injEq] at hf
    obtain ⟨rfl, rfl⟩ := hf
    exact ⟨f, rfl, h1, h2⟩
  | .pair a b, fs, o, i + 1, off, t, h, hf => by
    obtain ⟨f, r, rfl, h1, _, _, h2⟩ := h
    simp only [fldT] at hf
    split at hf
    · rename_i o' t' hf'
      simp only [Option.some.injEq, Prod.mk.injEq] at hf
      obtain ⟨rfl, rfl⟩ := hf
      obtain ⟨g, g1, g2, g3⟩ := FsOk_at b r (o + a.size) i o' _ h2 hf'
      exact ⟨g, g1, by rw [g2, Nat.add_assoc], g3⟩
    · cases hf
theorem TyOk_at {P : Program} {e : Ty} {t : TypeId} {i off : Nat} {u : Ty} (h : TyOk P e t) (hf : fldT e i = some (off, u)) :
    ∃ fs f, P.underlying t = some (.struct fs) ∧ fs[i]? = some f ∧ f.offset = off ∧ TyOk P u f.type := by
  cases e with
  | pair a b =>
    obtain ⟨_, fs, h1, _, f, r, h3, h4, h5, h6, h7⟩ := h
    have hF : FsOk P (.pair a b) fs.toList 0 := ⟨f, r, h3, h4, h5, h6, by rw [Nat.zero_add]; exact h7⟩
    obtain ⟨g, g1, g2, g3⟩ := FsOk_at _ _ 0 i off u hF hf
    exact ⟨fs, g, h1, by simpa using g1, by omega, g3⟩
  | _ => simp [fldT] at hf

theorem ftyT_fldT : ∀ (e : Ty) (i : Nat) (u : Ty), ftyT e i = some u → ∃ o, fldT e i = some (o, u)
  | .pair a b, 0, u, h => by simp only [ftyT, Option.some.injEq] at h; subst h; exact ⟨0, rfl⟩
  | .pair a b, i + 1, u, h => by
    obtain ⟨o, ho⟩ := ftyT_fldT b i u h
    exact ⟨a.size + o, by simp [fldT, ho]⟩
  | .int _, i, u, h => by cases h
  | .bool, i, u, h => by cases h
  | .str, i, u, h => by cases h
  | .unit, i, u, h => by cases h
  | .sl _, i, u, h => by cases h
  | .arr _ _, i, u, h => by cases h
  | .opq _, i, u, h => by cases h

theorem run_sizeOf_ty {P : Program} {e : Ty} {t : TypeId} (h : TyOk P e t) (w : World) : (sizeOf t).run P w = .ok e.size w := by
  obtain ⟨i, h1, h2, _⟩ := h.base
  simp [sizeOf, typeInfo, Sem.run_bind, h1, h2]
theorem run_isAgg_ty {P : Program} {e : Ty} {t : TypeId} (h : TyOk P e t) (w : World) : (Go.isAgg t).run P w = .ok (aggTy e) w := by
  obtain ⟨d, h1, h2⟩ := h.row
  unfold Go.isAgg
  rw [Sem.run_bind, run_underlying h1 w, ← h2]
  cases d <;> simp
theorem info_size {P : Program} {e : Ty} {t : TypeId} (h : TyOk P e t) : (P.info? t).map (·.size) = some e.size := by
  obtain ⟨i, h1, h2, _⟩ := h.base
  simp [h1, h2]

/-- A variable of this type, whose cells are these, read. -/
theorem run_loadVar_ty {P : Program} {e : Ty} {t : TypeId} (h : TyOk P e t) (w : World) (b o : Nat) (l : List Value) (hl : l.length = e.size) (hr : ∀ j, j < e.size → w.cell? ⟨b, o + j, none⟩ = l[j]?) :
    (loadVar t ⟨b, o, none⟩).run P w = .ok (if aggTy e then .agg l.toArray else l.headD undef) w := by
  cases ha : aggTy e with
  | true =>
    obtain ⟨d, h1, h2⟩ := h.row
    rw [run_loadVar_mid w b o t l d (fun j v hj => ?_) h1 (by rw [h2, ha]) (by rw [info_size h, hl])]
    · rfl
    · have hlt : j < l.length := by
        rcases Nat.lt_or_ge j l.length with h | h
        · exact h
        · rw [List.getElem?_eq_none h] at hj; cases hj
      rw [hr j (by omega)]; exact hj
  | false =>
    have hs : e.size = 1 := by cases e <;> first | rfl | cases ha
    have h0 := hr 0 (by omega)
    cases l with
    | nil => simp at hl; omega
    | cons x r =>
      have h0 : w.cell? ⟨b, o, none⟩ = some x := by simpa using h0
      simp [loadVar, Sem.run_bind, run_isAgg_ty h, ha, load, Sem.run, h0]

theorem simpleV_leaf {v : Value} (h : simpleV v) : vAgg v = false := by
  cases v <;> first | rfl | exact h.elim

theorem VR_of_CR {c : Cx} : ∀ {e : Ty} {v : AV} {l : List Value}, Shp e v → CR c v l → VR c v (if aggTy e then .agg l.toArray else l.headD undef)
  | .int k, .int k' n, l, _, h => by obtain ⟨rfl, hw⟩ := h; exact ⟨⟨rfl, hw⟩, rfl⟩
  | .bool, .bool b, l, _, h => by have h : l = _ := h; subst h; exact ⟨rfl, rfl⟩
  | .str, .str s, l, _, h => by obtain ⟨rfl, hw⟩ := h; exact ⟨⟨rfl, hw⟩, rfl⟩
  | .sl e, .ro e' xs, l, _, h => by obtain ⟨A, n, rfl, hs⟩ := h; exact ⟨⟨A, n, rfl, hs⟩, rfl⟩
  | .sl e, .con v, l, _, h => by
    obtain ⟨rfl, hv⟩ := h
    have hl := simpleV_leaf hv
    refine ⟨⟨?_, hv⟩, hl.symm⟩
    show (v.cells).toList = [v]
    cases v <;> first | rfl | cases hl
  | .sl e, .own id, l, _, h => by
    have h' : OwnV c id l := h
    unfold OwnV at h'
    split at h'
    · obtain ⟨A, n, rfl, _⟩ := h'; exact ⟨h, rfl⟩
    · exact h'.elim
  | .sl e, .vsl id n, l, _, h => by obtain ⟨h1, h2, rfl⟩ := h; exact ⟨⟨h1, h2, rfl⟩, rfl⟩
  | .sl e, .dead, l, _, h => trivial
  | .unit, .agg [], l, _, h => ⟨by simpa [aggTy, Value.cells] using h, rfl⟩
  | .pair a b, .agg (v :: r), l, _, h => ⟨by simpa [aggTy, Value.cells] using h, rfl⟩
  | .arr n e, .arr n' e' xs, l, _, h => ⟨by simpa [aggTy, Value.cells] using h, rfl⟩
  | .opq _, .ptr _ _, l, _, h => by obtain ⟨off, t, h1, rfl⟩ := h; exact ⟨⟨off, t, h1, rfl⟩, rfl⟩
  | .opq _, .fn _ _ _, l, _, h => by obtain ⟨a, d, rfl, h1⟩ := h; exact ⟨⟨a, d, rfl, h1⟩, rfl⟩
  | .opq _, .con v, l, _, h => by
    obtain ⟨rfl, hv⟩ := h
    have hl := simpleV_leaf hv
    refine ⟨⟨?_, hv⟩, hl.symm⟩
    show (v.cells).toList = [v]
    cases v <;> first | rfl | cases hl
  | .opq _, .dead, l, _, h => trivial
end Go.Proofs.YtejedlpnejjnbaaV
