/- Zero values; a value at a path's end replaced; cells written over. -/
import Derived.Test.YtejedlpnejjnbaaVcK
import Derived.Great.BuildSlice
import Derived.Laws.CopyRow
import Derived.Laws.MakeOwn
set_option linter.unusedVariables false
set_option linter.unusedSimpArgs false
namespace Go.Proofs.YtejedlpnejjnbaaV
open Go.RowKit

/-! ### Zero values -/
theorem EncL_replicate {α : Type} {E : α → List Value → Prop} {x : α} {vs : List Value} (h : E x vs) : ∀ n : Nat, EncL E (List.replicate n x) (List.replicate n vs).flatten
  | 0 => by simp [EncL]
  | n + 1 => by
    rw [List.replicate_succ, List.replicate_succ, List.flatten_cons]
    exact ⟨vs, _, rfl, h, EncL_replicate h n⟩
theorem Enc_dfl (ok : Nat → Prop) (w : World) : ∀ e : Ty, plainTy e = true → Enc ok w e e.dfl (zcs e)
  | .int k, _ => ⟨rfl, by cases k <;> decide⟩
  | .bool, _ => rfl
  | .str, _ => ⟨rfl, by show (0 : Nat) ≤ maxLen; omega⟩
  | .unit, _ => rfl
  | .pair a b, h => by
    have h : (plainTy a && plainTy b) = true := h
    rw [Bool.and_eq_true] at h
    exact ⟨_, _, rfl, Enc_dfl ok w a h.1, Enc_dfl ok w b h.2⟩
  | .sl e, _ => ⟨none, 0, rfl, Nat.le_refl _, Nat.zero_le _, Nat.zero_le _, fun _ _ => rfl, fun hne => absurd rfl hne⟩
  | .arr n e, h => ⟨List.length_replicate .., EncL_replicate (Enc_dfl ok w e h) n⟩
  | .opq _, h => by cases h

mutual
theorem CR_zero (c : Cx) : ∀ e : Ty, zok e = true → WfT e → CR c (zeroAV e) (zcs e)
  | .int k, _, _ => ⟨rfl, by cases k <;> decide⟩
  | .bool, _, _ => rfl
  | .str, _, _ => ⟨rfl, by show (0 : Nat) ≤ maxLen; omega⟩
  | .unit, _, _ => rfl
  | .pair a b, h, hw => by
    have h : (zok a && zok b) = true := h
    rw [Bool.and_eq_true] at h
    exact ⟨_, _, rfl, CR_zero c a h.1 hw.1, CRs_zero c b h.2 hw.2.1 hw.2.2⟩
  | .sl e, _, _ => ⟨rfl, trivial⟩
  | .arr n e, h, _ => ⟨List.length_replicate .., EncL_replicate (Enc_dfl c.ok c.w e h) n⟩
  | .opq 0, _, _ => ⟨rfl, trivial⟩
  | .opq 1, _, _ => ⟨rfl, trivial⟩
  | .opq (n + 2), _, _ => ⟨_, rfl⟩
theorem CRs_zero (c : Cx) : ∀ e : Ty, zok e = true → chain e → WfT e → CRs c (zeroAV.zeroFs e) (zcs e)
  | .pair a b, h, _, hw => by
    have h : (zok a && zok b) = true := h
    rw [Bool.and_eq_true] at h
    exact ⟨_, _, rfl, CR_zero c a h.1 hw.1, CRs_zero c b h.2 hw.2.1 hw.2.2⟩
  | .unit, _, _, _ => rfl
end
mutual
theorem Shp_zero : ∀ e : Ty, WfT e → Shp e (zeroAV e)
  | .int k, _ => rfl
  | .bool, _ => trivial
  | .str, _ => trivial
  | .unit, _ => trivial
  | .pair a b, hw => ⟨Shp_zero a hw.1, Shps_zero b hw.2.1 hw.2.2⟩
  | .sl e, _ => trivial
  | .arr n e, _ => ⟨rfl, rfl⟩
  | .opq 0, _ => trivial
  | .opq 1, _ => trivial
  | .opq (n + 2), _ => trivial
theorem Shps_zero : ∀ e : Ty, chain e → WfT e → Shps e (zeroAV.zeroFs e)
  | .pair a b, _, hw => ⟨Shp_zero a hw.1, Shps_zero b hw.2.1 hw.2.2⟩
  | .unit, _, _ => trivial
end
theorem zcs_length : ∀ e : Ty, (zcs e).length = e.size
  | .int _ => rfl
  | .bool => rfl
  | .str => rfl
  | .sl _ => rfl
  | .unit => rfl
  | .pair a b => by show (zcs a ++ zcs b).length = a.size + b.size; rw [List.length_append, zcs_length a, zcs_length b]
  | .arr n e => by
    show (List.replicate n (zcs e)).flatten.length = n * e.size
    rw [List.length_flatten, List.map_replicate, List.sum_replicate_nat, zcs_length e]
  | .opq 0 => rfl
  | .opq 1 => rfl
  | .opq (n + 2) => rfl
theorem zval_cells (e : Ty) : (zval e).cells = (zcs e).toArray := by
  unfold zval
  cases h : aggTy e with
  | true => rfl
  | false =>
    cases e with
    | pair _ _ => cases h
    | unit => cases h
    | arr _ _ => cases h
    | opq z => match z with
      | 0 => rfl
      | 1 => rfl
      | n + 2 => rfl
    | _ => rfl

/-! ### Replacing -/
theorem EncL_split {α : Type} {E : α → List Value → Prop} {m : Nat} (h : ∀ x vs, E x vs → vs.length = m) : ∀ (xs : List α) (cs : List Value), EncL E xs cs → ∀ i (hi : i < xs.length),
    ∃ A M B, cs = A ++ M ++ B ∧ A.length = i * m ∧ E xs[i] M ∧ ∀ y vs, E y vs → EncL E (xs.set i y) (A ++ vs ++ B)
  | [], cs, e, i, hi => by simp at hi
  | x :: xs, cs, e, 0, hi => by
    obtain ⟨u, v, rfl, hu, hv⟩ := e
    exact ⟨[], u, v, rfl, by simp, hu, fun y vs hy => ⟨vs, v, rfl, hy, hv⟩⟩
  | x :: xs, cs, e, i + 1, hi => by
    obtain ⟨u, v, rfl, hu, hv⟩ := e
    obtain ⟨A, M, B, rfl, h1, h2, h3⟩ := EncL_split h xs v hv i (by simpa using hi)
    exact ⟨u ++ A, M, B, by simp, by rw [List.length_append, h _ _ hu, h1, Nat.add_mul]; omega, h2, fun y vs hy => ⟨u, A ++ vs ++ B, by simp, hu, h3 y vs hy⟩⟩

theorem flds_split {c : Cx} : ∀ (e : Ty) (l : List AV) (cs : List Value) (i o : Nat) (t : Ty) (v : AV), Shps e l → WfT e → CRs c l cs → fldT e i = some (o, t) → l[i]? = some v →
    Shp t v ∧ WfT t ∧ ∃ A M B, cs = A ++ M ++ B ∧ A.length = o ∧ CR c v M ∧ ∀ v' vs, Shp t v' → CR c v' vs → Shps e (l.set i v') ∧ CRs c (l.set i v') (A ++ vs ++ B)
  | .pair a b, u :: l, cs, 0, o, t, v, hs, hw, hc, hf, hv => by
    have hf : some (0, a) = some (o, t) := hf
    have hv : some u = some v := hv
    cases hf; cases hv
    obtain ⟨p, q, rfl, h1, h2⟩ := hc
    exact ⟨hs.1, hw.1, [], p, q, rfl, rfl, h1, fun v' vs hs' hc' => ⟨⟨hs', hs.2⟩, vs, q, rfl, hc', h2⟩⟩
  | .pair a b, u :: l, cs, i + 1, o, t, v, hs, hw, hc, hf, hv => by
    obtain ⟨p, q, rfl, h1, h2⟩ := hc
    have hl := CR_length _ _ _ hs.1 h1
    simp only [fldT] at hf
    split at hf
    · rename_i o' t' hf'
      cases hf
      obtain ⟨g1, g2, A, M, B, rfl, g3, g4, g5⟩ := flds_split b l q i o' t v hs.2 hw.2.2 h2 hf' (by simpa using hv)
      refine ⟨g1, g2, p ++ A, M, B, by simp, by rw [List.length_append, hl, g3], g4, fun v' vs hs' hc' => ?_⟩
      obtain ⟨k1, k2⟩ := g5 v' vs hs' hc'
      exact ⟨⟨hs.1, k1⟩, p, A ++ vs ++ B, by simp, h1, k2⟩
    · cases hf
  | .unit, [], vs, i, o, t, v, hs, hw, hc, hf, hv => by cases hv

theorem CR_arr_of {c : Cx} {n : Nat} {e : Ty} {xs : List e.den} {cs : List Value} (h1 : xs.length = n) (h2 : EncL (Enc c.ok c.w e) xs cs) : CR c (.arr n e xs) cs := ⟨h1, h2⟩

section
variable {X : Fix} {ρ : Nat → Nat} {s : St} {a : Act} {w : World}

theorem setA_cells (R : RR X ρ s a w) : ∀ (p : List Step) (e : Ty) (v : AV) (cs : List Value) (off : Nat) (t : Ty) (u v' : AV) (vs : List Value),
    Shp e v → WfT e → CR (cx X ρ s.hp w) v cs → pathT e p = some (off, t) → setA s.hp v p u = some v' → Shp t u → CR (cx X ρ s.hp w) u vs →
    ∃ A M B, cs = A ++ M ++ B ∧ A.length = off ∧ M.length = t.size ∧ Shp e v' ∧ CR (cx X ρ s.hp w) v' (A ++ vs ++ B)
  | [], e, v, cs, off, t, u, v', vs, hs, hw, hc, hp, hg, hsu, hcu => by
    simp only [pathT, Option.some.injEq, Prod.mk.injEq] at hp
    obtain ⟨rfl, rfl⟩ := hp
    have hg : some u = some v' := by unfold setA at hg; exact hg
    cases hg
    exact ⟨[], cs, [], by simp, rfl, CR_length _ _ _ hs hc, hsu, by simpa using hcu⟩
  | .fld i :: p, e, v, cs, off, t, u, v', vs, hs, hw, hc, hp, hg, hsu, hcu => by
    simp only [pathT] at hp
    split at hp
    · rename_i o1 t1 hf
      split at hp
      · rename_i o2 t2 hp2
        simp only [Option.some.injEq, Prod.mk.injEq] at hp
        obtain ⟨rfl, rfl⟩ := hp
        cases v <;> simp only [setA] at hg <;> try cases hg
        rename_i l
        split at hg
        · rename_i v1 hv1
          split at hg
          · rename_i v2 hv2
            cases hg
            have hss : Shps e l := by
              cases e <;> cases l <;> first | exact hs | (simp [fldT] at hf; done) | exact hs.elim
            obtain ⟨g1, g2, A, M, B, rfl, g3, g4, g5⟩ := flds_split e l cs i o1 t1 v1 hss hw hc hf hv1
            obtain ⟨A', M', B', rfl, k1, k2, k3, k4⟩ := setA_cells R p t1 v1 M o2 _ u v2 vs g1 g2 g4 hp2 hv2 hsu hcu
            obtain ⟨q1, q2⟩ := g5 v2 _ k3 k4
            refine ⟨A ++ A', M', B' ++ B, by simp, by rw [List.length_append, g3, k1], k2, ?_, ?_⟩
            · cases e <;> first
                | (simp [fldT] at hf; done)
                | skip
              cases hl2 : l.set i v2 with
              | nil => rw [hl2] at q1; exact q1.elim
              | cons z r => rw [hl2] at q1; exact q1
            · have : A ++ A' ++ vs ++ (B' ++ B) = A ++ (A' ++ vs ++ B') ++ B := by simp
              rw [this]; exact q2
          · cases hg
        · cases hg
      · cases hp
    · cases hp
  | .at i :: p, e, v, cs, off, t, u, v', vs, hs, hw, hc, hp, hg, hsu, hcu => by
    cases e <;> simp only [pathT] at hp <;> try cases hp
    rename_i n e
    split at hp
    · rename_i hr
      split at hp
      · rename_i o2 t2 hp2
        simp only [Option.some.injEq, Prod.mk.injEq] at hp
        obtain ⟨rfl, rfl⟩ := hp
        cases v <;> simp only [setA] at hg <;> try cases hg
        rename_i n' e' xs
        obtain ⟨rfl, rfl⟩ := hs
        obtain ⟨hn, hE⟩ := hc
        have hi : i.toNat < xs.length := by omega
        split at hg
        · rename_i v1 hv1
          split at hg
          · rename_i y hy
            cases hg
            obtain ⟨A, M, B, rfl, h1, h2, h3⟩ := EncL_split (fun x vs h => Enc_length e' x vs h) xs cs hE i.toNat hi
            have hx : xs.getD i.toNat e'.dfl = xs[i.toNat] := by simp [List.getD_eq_getElem?_getD, List.getElem?_eq_getElem hi]
            rw [hx] at hv1
            obtain ⟨A', M', B', rfl, k1, k2, k3, k4⟩ := setA_cells R p e' _ M o2 _ u v1 vs (Shp_unpack e' _ hw) hw (CR_unpack _ e' _ M hw h2) hp2 hv1 hsu hcu
            have k5 := pack_enc R e' v1 y _ hy k4
            refine ⟨A ++ A', M', B' ++ B, by simp, by rw [List.length_append, h1, k1], k2, ⟨rfl, rfl⟩, ?_⟩
            have : A ++ A' ++ vs ++ (B' ++ B) = A ++ (A' ++ vs ++ B') ++ B := by simp
            rw [this]
            exact ⟨by rw [List.length_set]; exact hn, h3 y _ k5⟩
          · cases hg
        · cases hg
      · cases hp
    · cases hp

/-! ### Cells written over -/
theorem cellsN_of {b : Nat} {cs : Array Value} {T : TypeId} {fz : Nat × Nat} (h : w.heap[b]? = some (.cells cs T fz)) : cellsN w b = cs.size := by
  unfold cellsN; rw [h]
theorem setCells_eq {g : Nat} {T : TypeId} {fz : Nat × Nat} : ∀ (vs M A B : List Value) (w : World) (cur : Array Value), w.heap[g]? = some (.cells cur T fz) → cur.toList = A ++ M ++ B → vs.length = M.length →
    w.setCells g A.length vs = w.setRow g (A ++ vs ++ B).toArray
  | [], M, A, B, w, cur, hg, hc, hl => by
    obtain rfl : M = [] := List.eq_nil_of_length_eq_zero hl.symm
    show w = _
    have : (A ++ [] ++ B).toArray = cur := by rw [← hc]
    rw [this]
    have hlt : g < w.heap.size := (Array.getElem?_eq_some_iff.1 hg).1
    have hv : w.heap[g] = .cells cur T fz := (Array.getElem?_eq_some_iff.1 hg).2
    have : (w.setRow g cur).heap = w.heap := by
      apply Array.ext
      · simp
      · intro i h1 h2
        by_cases he : i = g
        · subst he
          have := setRow_heap w i cur cur T fz hg
          rw [(Array.getElem?_eq_some_iff.1 this).2, hv]
        · have := setRow_other w g i cur he
          rw [Array.getElem?_eq_getElem h1, Array.getElem?_eq_getElem h2] at this
          exact Option.some.inj this
    have h2 : w.setRow g cur = { w with heap := (w.setRow g cur).heap } := rfl
    rw [h2, this]
  | v :: vs, [], A, B, w, cur, hg, hc, hl => by simp at hl
  | v :: vs, m :: M, A, B, w, cur, hg, hc, hl => by
    show (w.setCell ⟨g, A.length, none⟩ v).setCells g (A.length + 1) vs = _
    rw [setCell_eq_setRow w g A.length cur T fz v hg]
    have hg' := setRow_heap w g cur (cur.setIfInBounds A.length v) T fz hg
    have hc' : (cur.setIfInBounds A.length v).toList = (A ++ [v]) ++ M ++ B := by
      rw [Array.toList_setIfInBounds, hc]
      simp [List.set_append]
    have ih := setCells_eq vs M (A ++ [v]) B _ _ hg' hc' (by simpa using hl)
    rw [List.length_append, List.length_singleton] at ih
    rw [ih, setRow_setRow]
    congr 2
    simp

theorem Below_setRow {B : Nat} {w0 : World} (h : Below B w0 w) {g : Nat} (hB : B ≤ g) (cs : Array Value) : Below B w0 (w.setRow g cs) :=
  ⟨h.os, h.tape, h.output, by rw [setRow_size]; exact h.size, fun k hk => by rw [setRow_other w g k cs (by omega)]; exact h.block k hk⟩

mutual
/-- Cells of what fits are one cell each. -/
theorem CR_one (c : Cx) : ∀ (e : Ty) (v : AV) (vs : List Value), fits e v = true → CR c v vs → ∀ u ∈ vs, u.oneCell' = true
  | .int k, .int k' n, vs, _, h, u, hu => by obtain ⟨rfl, _⟩ := h; simp at hu; subst hu; rfl
  | .bool, .bool b, vs, _, h, u, hu => by have h : vs = _ := h; subst h; simp at hu; subst hu; rfl
  | .str, .str s, vs, _, h, u, hu => by obtain ⟨rfl, _⟩ := h; simp at hu; subst hu; rfl
  | .sl e, .ro e' xs, vs, _, h, u, hu => Enc_one (.sl e') xs vs h u hu
  | .sl e, .con v, vs, hf, h, u, hu => by
    obtain ⟨rfl, hv⟩ := h
    simp at hu; subst hu
    cases u <;> first | rfl | exact hv.elim
  | .sl e, .own id, vs, _, h, u, hu => by
    have h : OwnV c id vs := h
    unfold OwnV at h
    split at h
    · obtain ⟨A, n, rfl, _⟩ := h; simp at hu; subst hu; rfl
    · exact h.elim
  | .sl e, .vsl id n, vs, _, h, u, hu => by obtain ⟨_, _, rfl⟩ := h; simp at hu; subst hu; rfl
  | .unit, .agg [], vs, _, h, u, hu => by have h : vs = [] := h; subst h; simp at hu
  | .pair a b, .agg (v :: l), vs, hf, h, u, hu => by
    have hf : (fits a v && fitss b l) = true := hf
    rw [Bool.and_eq_true] at hf
    obtain ⟨p, q, rfl, h1, h2⟩ := h
    rcases List.mem_append.1 hu with h | h
    · exact CR_one c a v p hf.1 h1 u h
    · exact CRs_one c b l q hf.2 h2 u h
  | .arr n e, .arr n' e' xs, vs, _, h, u, hu => EncL_one xs vs h.2 u hu
  | .opq _, .ptr _ _, vs, _, h, u, hu => by obtain ⟨off, t, _, rfl⟩ := h; simp at hu; subst hu; rfl
  | .opq _, .fn _ _ _, vs, _, h, u, hu => by obtain ⟨a, d, rfl, _⟩ := h; simp at hu; subst hu; rfl
  | .opq _, .con v, vs, _, h, u, hu => by
    obtain ⟨rfl, hv⟩ := h
    simp at hu; subst hu
    cases u <;> first | rfl | exact hv.elim
theorem CRs_one (c : Cx) : ∀ (e : Ty) (l : List AV) (vs : List Value), fitss e l = true → CRs c l vs → ∀ u ∈ vs, u.oneCell' = true
  | .pair a b, v :: l, vs, hf, h, u, hu => by
    have hf : (fits a v && fitss b l) = true := hf
    rw [Bool.and_eq_true] at hf
    obtain ⟨p, q, rfl, h1, h2⟩ := h
    rcases List.mem_append.1 hu with h | h
    · exact CR_one c a v p hf.1 h1 u h
    · exact CRs_one c b l q hf.2 h2 u h
  | .unit, [], vs, _, h, u, hu => by have h : vs = [] := h; subst h; simp at hu
end
end
end Go.Proofs.YtejedlpnejjnbaaV
