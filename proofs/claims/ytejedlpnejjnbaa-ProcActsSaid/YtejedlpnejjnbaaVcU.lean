/- Structs and arrays out of parts. -/
import Derived.Test.YtejedlpnejjnbaaVcQ
import Derived.Laws.Tables
set_option linter.unusedVariables false
set_option linter.unusedSimpArgs false
namespace Go.Proofs.YtejedlpnejjnbaaV
open Go.RowKit

theorem fill_step (place : Nat → Option (Nat × Nat)) (cells : Array Value) (i : Nat) (v : Value) (rest : List (Nat × Value)) (off size : Nat) (A M B : List Value) (hp : place i = some (off, size)) (hc : cells.toList = A ++ M ++ B) (hA : A.length = off) (hM : M.length = size) (hv : v.cells.size = size) :
    Instr.fill place cells ((i, v) :: rest) = Instr.fill place (A ++ v.cells.toList ++ B).toArray rest := by
  have hsz : cells.size = A.length + M.length + B.length := by
    have : cells.toList.length = cells.size := Array.length_toList
    rw [hc] at this; simp at this; omega
  conv => lhs; unfold Instr.fill
  simp only [hp]
  rw [if_neg (by simp; omega)]
  congr 1
  have e : v.cells.zipIdx.foldl (fun cs (x : Value × Nat) => cs.setIfInBounds (off + x.2) x.1) cells = (v.cells.toList.zipIdx 0).foldl (fun cs (x : Value × Nat) => cs.setIfInBounds (off + x.2) x.1) cells := by
    rw [← Array.foldl_toList]; simp
  have e2 : (v.cells.zipIdx.foldl (fun cs x => match x with | (c, j) => cs.setIfInBounds (off + j) c) cells) = (v.cells.toList.zipIdx 0).foldl (fun cs (x : Value × Nat) => cs.setIfInBounds (off + x.2) x.1) cells := e
  rw [e2]
  obtain ⟨g1, g2⟩ := Great.foldl_set off v.cells.toList 0 cells
  apply Array.ext'
  apply List.ext_getElem?
  intro k
  rw [Array.getElem?_toList, g2 k]
  have hvl : v.cells.toList.length = size := by simpa using hv
  show _ = (A ++ v.cells.toList ++ B)[k]?
  by_cases h : off + 0 ≤ k ∧ k < off + 0 + v.cells.toList.length ∧ k < cells.size
  · rw [if_pos h, List.append_assoc, List.getElem?_append_right (by omega), List.getElem?_append_left (by omega)]
    congr 1; omega
  · rw [if_neg h, ← Array.getElem?_toList, hc]
    by_cases h1 : k < A.length
    · rw [List.append_assoc, List.append_assoc, List.getElem?_append_left h1, List.getElem?_append_left h1]
    · rw [List.getElem?_append_right (by rw [List.length_append]; omega), List.getElem?_append_right (by rw [List.length_append]; omega), List.length_append, List.length_append, hvl, hM]

def placesT : Ty → Nat → List (Nat × Nat)
  | .pair a b, o => (o, a.size) :: placesT b (o + a.size)
  | _, _ => []
theorem placesT_at : ∀ (e : Ty) (b i o : Nat) (t : Ty), fldT e i = some (o, t) → (placesT e b)[i]? = some (b + o, t.size)
  | .pair x y, b, 0, o, t, h => by
    simp only [fldT, Option.some.injEq, Prod.mk.injEq] at h
    obtain ⟨rfl, rfl⟩ := h
    rfl
  | .pair x y, b, i + 1, o, t, h => by
    simp only [fldT] at h
    split at h
    · rename_i o' t' h'
      simp only [Option.some.injEq, Prod.mk.injEq] at h
      obtain ⟨rfl, rfl⟩ := h
      have := placesT_at y (b + x.size) i o' _ h'
      show (placesT y (b + x.size))[i]? = _
      rw [this, Nat.add_assoc]
    · cases h
  | .int _, _, _, _, _, h => by simp [fldT] at h
  | .bool, _, _, _, _, h => by simp [fldT] at h
  | .str, _, _, _, _, h => by simp [fldT] at h
  | .unit, _, _, _, _, h => by simp [fldT] at h
  | .sl _, _, _, _, _, h => by simp [fldT] at h
  | .arr _ _, _, _, _, _, h => by simp [fldT] at h
  | .opq _, _, _, _, _, h => by simp [fldT] at h
theorem places_FsOk {P : Program} : ∀ (e : Ty) (fs : List Field) (o : Nat), FsOk P e fs o → fs.mapM (fun f => (P.info? f.type).map fun i => (f.offset, i.size)) = some (placesT e o)
  | .pair a b, fs, o, h => by
    obtain ⟨f, r, rfl, h1, _, h2, h3⟩ := h
    have hs := info_size h2
    cases hi : P.info? f.type with
    | none => rw [hi] at hs; cases hs
    | some i =>
      rw [hi] at hs
      simp at hs
      simp [List.mapM_cons, hi, h1, hs, places_FsOk b r _ h3, placesT]
  | .unit, fs, o, h => by
    have h : fs = [] := h
    subst h; rfl

section
variable {E : Env} {X : Fix} {ρ : Nat → Nat} {s : St} {a : Act} {w : World} {C : AV → Prop} {o : Oper}

theorem putParts_fill (R : RR X ρ s a w) {e : Ty} (hW : WfT e) {place : Nat → Option (Nat × Nat)} (hpl : ∀ i o t, fldT e i = some (o, t) → place i = some (o, t.size)) : ∀ (parts : List (Nat × Operand)) (l l' : List AV) (cells : Array Value), Shps e l → CRs (cx X ρ s.hp w) l cells.toList →
    putParts e l (parts.map fun p => (p.1, opn s.fr p.2)) = some l' → ∃ cells', Instr.fill place cells (parts.map fun p => (p.1, a.eval p.2)) = some cells' ∧ Shps e l' ∧ CRs (cx X ρ s.hp w) l' cells'.toList
  | [], l, l', cells, h1, h2, h => by
    simp only [List.map_nil, putParts, Option.some.injEq] at h
    subst h
    exact ⟨cells, rfl, h1, h2⟩
  | (i, x) :: parts, l, l', cells, h1, h2, h => by
    simp only [List.map_cons, putParts] at h
    split at h
    · rename_i t u ht hu
      cases hf : fits t (opn s.fr x) with
      | false => rw [hf] at h; cases h
      | true =>
        rw [hf] at h
        have h : putParts e (l.set i (opn s.fr x)) (parts.map fun p => (p.1, opn s.fr p.2)) = some l' := h
        obtain ⟨off, ho⟩ := ftyT_fldT e i t ht
        obtain ⟨_, _, A, M, B, g1, g2, g3, g4⟩ := flds_split e l _ i off t u h1 hW h2 ho hu
        have hM := CR_length t u M (by
          have := flds_split e l _ i off t u h1 hW h2 ho hu
          exact this.1) g3
        have hv := cells_of_VR hf (VR_opn R x)
        have hsh := Shp_of_fits t _ hf
        have hlen := CR_length t _ _ hsh hv
        obtain ⟨k1, k2⟩ := g4 _ _ hsh hv
        have hst := fill_step place cells i (a.eval x) (parts.map fun p => (p.1, a.eval p.2)) off t.size A M B (hpl i off t ho) g1 g2 hM (by simpa using hlen)
        rw [List.map_cons, hst]
        exact putParts_fill R hW hpl parts _ l' _ k1 k2 h
    · cases h

theorem arrParts_fill (R : RR X ρ s a w) {e : Ty} : ∀ (parts : List (Nat × Operand)) (xs ys : List e.den) (cells : Array Value), EncL (Enc (okC X ρ s.hp w) w e) xs cells.toList →
    arrParts s.hp e xs (parts.map fun p => (p.1, opn s.fr p.2)) = some ys → ∃ cells', Instr.fill (fun i => some (i * e.size, e.size)) cells (parts.map fun p => (p.1, a.eval p.2)) = some cells' ∧ ys.length = xs.length ∧ EncL (Enc (okC X ρ s.hp w) w e) ys cells'.toList
  | [], xs, ys, cells, h1, h => by
    simp only [List.map_nil, arrParts, Option.some.injEq] at h
    subst h
    exact ⟨cells, rfl, rfl, h1⟩
  | (i, x) :: parts, xs, ys, cells, h1, h => by
    simp only [List.map_cons, arrParts] at h
    split at h
    · rename_i y hy
      cases hi : Nat.ble (i + 1) xs.length with
      | false => rw [hi] at h; cases h
      | true =>
        rw [hi] at h
        have h : arrParts s.hp e (xs.set i y) (parts.map fun p => (p.1, opn s.fr p.2)) = some ys := h
        have hlt : i < xs.length := Nat.le_of_ble_eq_true hi
        obtain ⟨A, M, B, g1, g2, g3, g4⟩ := EncL_split (fun x vs h => Enc_length e x vs h) xs _ h1 i hlt
        have hM := Enc_length e _ _ g3
        have hv := pack_cells R hy (VR_opn R x)
        have hst := fill_step (fun i => some (i * e.size, e.size)) cells i (a.eval x) (parts.map fun p => (p.1, a.eval p.2)) (i * e.size) e.size A M B rfl g1 g2 hM (by
          have := Enc_length e _ _ hv
          simpa using this)
        rw [List.map_cons, hst]
        obtain ⟨cells', k1, k2, k3⟩ := arrParts_fill R parts _ ys _ (g4 y _ hv) h
        exact ⟨cells', k1, by rw [k2, List.length_set], k3⟩
    · cases h

theorem ex_build {t : TypeId} {parts : Array (Nat × Operand)} (hE : EnvT E X.P) (R : RR X ρ s a w) (ho : o.op = .build t parts) (h : pv E s.hp (opn s.fr) (.build t parts) C) :
    ∃ v z, C v ∧ Up X.P a o z w ∧ VR (cx X ρ s.hp w) v z := by
  simp only [pv] at h
  have fin : ∀ cells : Array Value, X.P.built t (parts.map fun (i, x) => (i, a.eval x)).toList = some cells → Up X.P a o (.agg cells) w := by
    intro cells hb w' _
    have := run_build (P := X.P) w' t (parts.map fun (i, x) => (i, a.eval x)) cells hb
    simp only [execOp, ho, Sem.run_bind, this, Result.andThen_ok, Sem.run_pure]
  have hpl : (parts.map fun (i, x) => (i, a.eval x)).toList = parts.toList.map fun p => (p.1, a.eval p.2) := by
    rw [Array.toList_map]
  rw [hpl] at fin
  cases ht : lkT E.tt t with
  | none => rw [ht] at h; exact h.elim
  | some e =>
    rw [ht] at h
    have hT := hE.tt t _ ht
    have hW := TyOk.wf _ _ hT
    obtain ⟨i, i1, i2, i3, i4⟩ := hT.base
    have struct : buildS e (parts.toList.map fun p => (p.1, opn s.fr p.2)) C →
        (∃ fs, X.P.underlying t = some (.struct fs) ∧ FsOk X.P e fs.toList 0) → ∃ v z, C v ∧ Up X.P a o z w ∧ VR (cx X ρ s.hp w) v z := by
      intro h ⟨fs, hu, hF⟩
      unfold buildS at h
      obtain ⟨hz, h⟩ := cond_elim h
      split at h
      · rename_i l hl
        split at h
        · rename_i l' hl'
          have hc := CR_zero (cx X ρ s.hp w) e hz hW
          have hs := Shp_zero e hW
          rw [hl] at hc hs
          have hss : Shps e l := by
            cases e <;> cases l <;> first | exact hs | exact hs.elim
          have hpm := places_FsOk e fs.toList 0 hF
          obtain ⟨cells', k1, k2, k3⟩ := putParts_fill R hW (place := fun i => ((placesT e 0).toArray)[i]?) (fun i o t h => by
            have := placesT_at e 0 i o t h
            rw [Nat.zero_add] at this
            simpa using this) parts.toList l l' (zval e).cells hss (by rw [zval_cells]; exact hc) hl'
          refine ⟨_, _, h, fin cells' ?_, ⟨k3, rfl⟩⟩
          unfold Program.built
          rw [i1, hu]
          simp only [i3, hpm]
          exact k1
        · exact h.elim
      · exact h.elim
    cases e with
    | pair x y =>
      obtain ⟨_, fs, h1, _, f, r, h3, h4, h5, h6, h7⟩ := hT
      exact struct h ⟨fs, h1, f, r, h3, h4, h5, h6, by rw [Nat.zero_add]; exact h7⟩
    | unit =>
      obtain ⟨_, fs, h1, h2, _⟩ := hT
      exact struct h ⟨fs, h1, h2⟩
    | arr n e =>
      obtain ⟨te, hu, hTe⟩ := TyOk_arr hT
      obtain ⟨ie, j1, j2, j3, j4⟩ := hTe.base
      obtain ⟨hp, h⟩ := cond_elim h
      split at h
      · rename_i xs hxs
        obtain ⟨cells', k1, k2, k3⟩ := arrParts_fill R parts.toList _ xs (zval (.arr n e)).cells (by
          rw [zval_cells]
          exact EncL_replicate (Enc_dfl (okC X ρ s.hp w) w e hp) n) hxs
        refine ⟨_, _, h, fin cells' ?_, ⟨⟨by rw [k2, List.length_replicate], k3⟩, rfl⟩⟩
        unfold Program.built
        rw [i1, hu]
        simp only [i3, j1, j2]
        exact k1
      · exact h.elim
    | _ => exact h.elim
end
end Go.Proofs.YtejedlpnejjnbaaV
