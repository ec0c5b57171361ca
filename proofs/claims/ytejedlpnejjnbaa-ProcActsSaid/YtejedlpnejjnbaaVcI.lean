/- The operations of the VC evaluator that write nothing, the last ones: loads, cuts, lengths, least and greatest, conversions. -/
import Derived.Test.YtejedlpnejjnbaaVcH
set_option linter.unusedVariables false
set_option linter.unusedSimpArgs false
namespace Go.Proofs.YtejedlpnejjnbaaV
open Go.RowKit

theorem run_loadAt {P : Program} {w : World} {t : TypeId} {b o : Nat} {v : Value} (h : (loadVar t ⟨b, o, none⟩).run P w = .ok v w) : (Instr.loadAt t (.pointer (some ⟨b, o, none⟩))).run P w = .ok v w := by
  simp only [Instr.loadAt, Instr.sureAddr, Sem.run_bind, Sem.run_pure, Result.andThen_ok, h]

theorem cell_of_block {w : World} {b : Nat} {cs : Array Value} {T : TypeId} {fz : Nat × Nat} (h : w.heap[b]? = some (.cells cs T fz)) (o : Nat) : w.cell? ⟨b, o, none⟩ = cs[o]? := by
  simp [World.cell?, h]

theorem cell_up {w w' : World} (hB : Below w.heap.size w w') {b o : Nat} {sp : Option Nat} {v : Value} (h : w.cell? ⟨b, o, sp⟩ = some v) : w'.cell? ⟨b, o, sp⟩ = some v := by
  by_cases hlt : b < w.heap.size
  · rw [cell_same (hB.block b hlt)]; exact h
  · have hn : w.heap[b]? = none := Array.getElem?_eq_none (by omega)
    simp [World.cell?, hn] at h
theorem cells_up {w w' : World} (hB : Below w.heap.size w w') {b o n : Nat} {m : List Value} (hl : m.length = n) (h : ∀ j, j < n → w.cell? ⟨b, o + j, none⟩ = m[j]?) : ∀ j, j < n → w'.cell? ⟨b, o + j, none⟩ = m[j]? := fun j hj => by
  have h1 := h j hj
  rw [List.getElem?_eq_getElem (by omega)] at h1 ⊢
  exact cell_up hB h1

theorem cells_upB {w w' : World} {b o n : Nat} (hB : b < w.heap.size → w'.heap[b]? = w.heap[b]?) {m : List Value} (hl : m.length = n) (h : ∀ j, j < n → w.cell? ⟨b, o + j, none⟩ = m[j]?) : ∀ j, j < n → w'.cell? ⟨b, o + j, none⟩ = m[j]? := fun j hj => by
  have h1 := h j hj
  rw [List.getElem?_eq_getElem (by omega)] at h1 ⊢
  by_cases hlt : b < w.heap.size
  · rw [cell_same (hB hlt)]; exact h1
  · have hn : w.heap[b]? = none := Array.getElem?_eq_none (by omega)
    simp [World.cell?, hn] at h1
section
variable {E : Env} {X : Fix} {ρ : Nat → Nat} {s : St} {a : Act} {w : World} {C : AV → Prop} {o : Oper}

/-- What lies at a path's end in a block. -/
theorem getB_cells {id : Nat} {b : Blk} {p : List Step} {off : Nat} {t : Ty} {u : AV} (hb : HB X (cx X ρ s.hp w) id b) (hp : pathB b p = some (off, t)) (hg : getB b p = some u) :
    Shp t u ∧ WfT t ∧ ∃ m : List Value, CR (cx X ρ s.hp w) u m ∧ m.length = t.size ∧ ∀ j, j < t.size → w.cell? ⟨ρ id, off + j, none⟩ = m[j]? := by
  cases b with
  | none => simp [pathB] at hp
  | var e v f =>
    obtain ⟨h1, cs, T, h2, h3, h4, h5⟩ := hb
    have h2 : w.heap[ρ id]? = some (.cells cs T (0, 0)) := h2
    obtain ⟨g1, g2, m, g3, g4, g5⟩ := getA_cells p e v _ off t u h4 h5 h3 hp hg
    exact ⟨g1, g2, m, g3, g4, fun j hj => by rw [cell_of_block h2, ← g5 j hj]; simp⟩
  | row te e xs f =>
    cases p with
    | nil => simp [pathB] at hp
    | cons st p =>
      cases st with
      | fld i => simp [pathB] at hp
      | «at» i =>
        obtain ⟨hW, hb⟩ := hb
        simp only [pathB] at hp
        split at hp
        · rename_i hr
          split at hp
          · rename_i o2 t2 hp2
            simp only [Option.some.injEq, Prod.mk.injEq] at hp
            obtain ⟨rfl, rfl⟩ := hp
            have hi : i.toNat < xs.length := by omega
            have hne : xs ≠ [] := fun e => by subst e; simp at hi
            obtain ⟨h1, cs, h2, hsz, h3⟩ := hb hne
            have h2 : w.heap[ρ id]? = some (.cells cs te (0, 0)) := h2
            obtain ⟨l, h4, hl0, h5'⟩ := EncL_at (fun x vs h => Enc_length e x vs h) xs _ h3 i.toNat hi
            have h5 : ∀ j, j < e.size → cs[i.toNat * e.size + j]? = l[j]? := fun j hj => by
              rw [← h5' j hj, List.getElem?_take, if_pos (by
                have : i.toNat * e.size + e.size ≤ xs.length * e.size := by rw [← Nat.succ_mul]; exact Nat.mul_le_mul_right _ (by omega)
                omega)]
              simp
            have hl := Enc_length _ _ _ h4
            have hx : xs.getD i.toNat e.dfl = xs[i.toNat] := by simp [List.getD_eq_getElem?_getD, List.getElem?_eq_getElem hi]
            simp only [getB, hx] at hg
            obtain ⟨k1, k2, m', k3, k4, k5⟩ := getA_cells p e _ l o2 _ u (Shp_unpack e _ hW) hW (CR_unpack _ e _ l hW h4) hp2 hg
            refine ⟨k1, k2, m', k3, k4, fun j hj => ?_⟩
            rw [← k5 j hj]
            have hj' : o2 + j < e.size := by
              rcases Nat.lt_or_ge (o2 + j) l.length with h | h
              · omega
              · have h3 := k5 j hj
                rw [List.getElem?_eq_none h, List.getElem?_eq_getElem (by omega)] at h3
                cases h3
            rw [cell_of_block h2, ← h5 (o2 + j) hj', Nat.add_assoc]
          · cases hp
        · cases hp

theorem ex_load {t : TypeId} {x : Operand} (hE : EnvT E X.P) (R : RR X ρ s a w) (ho : o.op = .load t x) (h : pv E s.hp (opn s.fr) (.load t x) C) :
    ∃ v z, C v ∧ Up X.P a o z w ∧ VR (cx X ρ s.hp w) v z := by
  simp only [pv] at h
  have hx := VR_opn R x
  generalize opn s.fr x = va at h hx
  split at h
  · rename_i id p
    split at h
    · rename_i u hg
      split at h
      · rename_i e ht
        obtain ⟨h3, hC⟩ := cond_elim h
        obtain ⟨off, t', k1, k2⟩ := VR_ptr hx
        obtain ⟨g1, g2, m, g3, g4, g5⟩ := getB_cells (R.heap id) k1 hg
        have hs := Shp_of_fits _ _ h3
        have hl := CR_length _ _ _ hs g3
        refine ⟨u, _, hC, ?_, VR_of_CR hs g3⟩
        intro w' hw'
        simp only [execOp, ho, k2, Sem.run_bind]
        rw [show (cx X ρ s.hp w).ρ id = ρ id from rfl, run_loadAt (run_loadVar_ty (hE.tt t _ ht) w' (ρ id) off m hl (cells_upB (fun hlt => hw' _ (by simp [loadB, ho, k2]; rfl) hlt) hl (fun j hj => g5 j (by omega))))]
        rfl
      · exact h.elim
    · exact h.elim
  · rename_i e y
    split at h
    · rename_i e' ht
      obtain ⟨h3, hC⟩ := cond_elim h
      obtain rfl := of_decide_eq_true h3
      obtain ⟨b, off, k2, k4, cs, k5, k6, k7⟩ := VR_rop hx
      have hT := hE.tt t _ ht
      have hW := TyOk.wf _ _ hT
      refine ⟨_, _, hC, ?_, VR_of_CR (Shp_unpack _ y hW) (CR_unpack _ _ y cs hW k7)⟩
      intro w' hw'
      simp only [execOp, ho, k2, Sem.run_bind]
      rw [run_loadAt (run_loadVar_ty hT w' b off cs k5 (cells_upB (fun hlt => hw' _ (by simp [loadB, ho, k2]) hlt) k5 k6))]
      rfl
    · exact h.elim
  · exact h.elim

theorem ex_convert {src dst : TypeId} {x : Operand} (hE : EnvT E X.P) (R : RR X ρ s a w) (ho : o.op = .convert src dst x) (h : pv E s.hp (opn s.fr) (.convert src dst x) C) :
    ∃ v z, C v ∧ Up X.P a o z w ∧ VR (cx X ρ s.hp w) v z := by
  simp only [pv] at h
  have hx := VR_opn R x
  generalize opn s.fr x = va at h hx
  split at h
  · rename_i k kd k' n h1 h2
    obtain ⟨ex, wx⟩ := VR_int hx
    have u1 := (hE.tt _ _ h1).2
    have u2 := (hE.tt _ _ h2).2
    exact ⟨_, .int kd (kd.wrap n), h, fun w' _ => by simp [execOp, ho, ex, convert, Sem.run_bind, run_underlying u1, run_underlying u2, Conv.intToInt], mkVR_int (wf_wrap _ _)⟩
  · rename_i str h1 h2
    obtain ⟨ex, wx⟩ := VR_str hx
    have u1 := (hE.tt _ _ h1).2
    have u2 := (hE.tt _ _ h2).2
    exact ⟨_, .string str, h, fun w' _ => by simp [execOp, ho, ex, convert, Sem.run_bind, run_underlying u1, run_underlying u2], ⟨⟨rfl, wx⟩, rfl⟩⟩
  · exact h.elim

theorem run_sliceBound {P : Program} (w : World) (k : IntKind) (i : Int) (y : Nat) (c : BoundsCode) (h0 : 0 ≤ i) (h1 : i ≤ y) : (Instr.sliceBound (.int k i) y c).run P w = .ok i.toNat w := by
  simp [Instr.sliceBound, asIntOf, Sem.run_bind, h0, h1]

theorem run_sliceBounds {P : Program} (w : World) (isS : Bool) (len cap : Nat) (lo hi : Option Value) (l h : Int)
    (hl : match lo with | some v => ∃ k, v = .int k l | none => l = 0) (hh : match hi with | some v => ∃ k, v = .int k h | none => h = len)
    (h0 : 0 ≤ l) (h1 : l ≤ h) (h2 : h ≤ len) (h3 : len ≤ cap) : (Instr.sliceBounds isS len cap lo hi none).run P w = .ok (l.toNat, h.toNat, cap) w := by
  cases lo with
  | none =>
    obtain rfl : l = 0 := hl
    cases hi with
    | none => obtain rfl : h = len := hh; simp [Instr.sliceBounds, Sem.run_bind]
    | some v => obtain ⟨k, rfl⟩ := hh; simp [Instr.sliceBounds, Sem.run_bind, run_sliceBound w k h cap _ (by omega) (by omega)]
  | some u =>
    obtain ⟨k', rfl⟩ := hl
    cases hi with
    | none => obtain rfl : h = len := hh; simp [Instr.sliceBounds, Sem.run_bind, run_sliceBound w k' l len _ (by omega) (by omega)]
    | some v => obtain ⟨k, rfl⟩ := hh; simp [Instr.sliceBounds, Sem.run_bind, run_sliceBound w k h cap _ (by omega) (by omega), run_sliceBound w k' l h.toNat _ (by omega) (by omega)]

theorem bound_of {oo : Option Operand} {d : AV} {k : IntKind} {l : Int} (R : RR X ρ s a w) (h : (match oo with | some q => opn s.fr q | none => d) = .int k l) :
    match oo.map a.eval with | some v => ∃ k, v = .int k l | none => d = .int k l := by
  cases oo with
  | none => exact h
  | some q =>
    have := VR_opn R q
    have h : opn s.fr q = .int k l := h
    rw [h] at this
    exact ⟨k, (VR_int this).1⟩

/-- A frozen block may be read by anybody. -/
theorem RR.ok_fz (R : RR X ρ s a w) {id off : Nat} {p : List Step} {t : Ty} (hf : isFz (lkb s.hp id) = true) (hp : pathB (lkb s.hp id) p = some (off, t)) : okC X ρ s.hp w (ρ id) := by
  have hh := R.heap id
  have hl : live (lkb s.hp id) ∧ ¬ liveW (lkb s.hp id) := by
    cases hb : lkb s.hp id with
    | none => rw [hb] at hf; cases hf
    | var e v f => rw [hb] at hf; have hf : f = true := hf; subst hf; exact ⟨trivial, fun h => h⟩
    | row te e xs f =>
      rw [hb] at hf hp
      have hf : f = true := hf
      subst hf
      refine ⟨fun h0 => ?_, fun h => h⟩
      subst h0
      cases p with
      | nil => simp [pathB] at hp
      | cons st p =>
        cases st with
        | fld i => simp [pathB] at hp
        | «at» i => simp [pathB] at hp; omega
  have hlt : X.base ≤ ρ id ∧ ρ id < w.heap.size := by
    cases hb : lkb s.hp id with
    | none => rw [hb] at hf; cases hf
    | var e v f =>
      rw [hb] at hh
      obtain ⟨h1, cs, T, h2, _⟩ := hh
      exact ⟨h1, (Array.getElem?_eq_some_iff.1 h2).1⟩
    | row te e xs f =>
      rw [hb] at hh hl
      obtain ⟨h1, cs, h2, _⟩ := hh.2 hl.1
      exact ⟨h1, (Array.getElem?_eq_some_iff.1 h2).1⟩
  refine ⟨.inr hlt.1, hlt.2, fun id' hlw he => ?_⟩
  have := R.inj id' id (liveW_live hlw) hl.1 he
  subst this
  exact hl.2 hlw
theorem ex_slice {t : TypeId} {x : Operand} {lo hi : Option Operand} (hE : EnvT E X.P) (R : RR X ρ s a w) (ho : o.op = .slice t x lo hi none) (h : pv E s.hp (opn s.fr) (.slice t x lo hi none) C) :
    ∃ v z, C v ∧ Up X.P a o z w ∧ VR (cx X ρ s.hp w) v z := by
  simp only [pv] at h
  have hx := VR_opn R x
  generalize opn s.fr x = va at h hx
  split at h
  · rename_i str
    split at h
    · rename_i kl l kh hh ht el eh
      obtain ⟨⟨h0, h1, h2⟩, hC⟩ := h
      obtain ⟨ex, wx⟩ := VR_str hx
      have hu := (hE.tt t _ ht).2
      have bl := bound_of R el
      have bh := bound_of R eh
      have hb := fun w : World => run_sliceBounds (P := X.P) w false str.size str.size (lo.map a.eval) (hi.map a.eval) l hh
        (by cases lo <;> first | (simp only [Option.map_none] at bl ⊢; injection bl; omega) | exact bl)
        (by cases hi <;> first | (simp only [Option.map_none] at bh ⊢; injection bh; omega) | exact bh) h0 h1 h2 (Nat.le_refl _)
      refine ⟨_, .string (str.extract l.toNat hh.toNat), hC, ?_, ⟨⟨rfl, ?_⟩, rfl⟩⟩
      · intro w' hw'
        simp only [execOp, ho, ex, Instr.sliceAt, Instr.slice, Sem.run_bind, run_underlying hu, Result.andThen_ok, Option.map_none, Option.isSome_none, Bool.false_eq_true, if_false, Sem.run_pure, hb]
      · have : (str.extract l.toNat hh.toNat).size ≤ str.size := by simp [ByteArray.size_extract]; omega
        omega
    · exact h.elim
  · rename_i e xs
    split at h
    · rename_i e' kl l kh hh ht el eh
      obtain ⟨h3, hC⟩ := cond_elim h
      obtain rfl := of_decide_eq_true h3
      obtain ⟨⟨h0, h1, h2⟩, hC⟩ := hC
      obtain ⟨te, hu, hT⟩ := TyOk_sl (hE.tt t _ ht)
      obtain ⟨A, m, ex, hs⟩ := VR_ro hx
      obtain ⟨s1, s2, s2', s3, s4⟩ := hs
      have bl := bound_of R el
      have bh := bound_of R eh
      have hb := fun w : World => run_sliceBounds (P := X.P) w true xs.length m (lo.map a.eval) (hi.map a.eval) l hh
        (by cases lo <;> first | (simp only [Option.map_none] at bl ⊢; injection bl; omega) | exact bl)
        (by cases hi <;> first | (simp only [Option.map_none] at bh ⊢; injection bh; omega) | exact bh) h0 h1 h2 s1
      have hlen : ((xs.take hh.toNat).drop l.toNat).length = hh.toNat - l.toNat := by simp; omega
      refine ⟨_, .slice (if m = l.toNat then A else A.map (·.add (l.toNat * e'.size))) (hh.toNat - l.toNat) (m - l.toNat), hC, ?_, ?_⟩
      · intro w' hw'
        simp only [execOp, ho, ex, Instr.sliceAt, Instr.slice, Sem.run_bind, run_underlying hu, Result.andThen_ok, Option.map_none, hb, run_sizeOf_ty hT, Sem.run_pure]
      · refine ⟨⟨_, m - l.toNat, by rw [hlen]; rfl, by rw [hlen]; omega, by omega, by rw [hlen]; omega, fun he hA => ?_, fun hne => ?_⟩, rfl⟩
        · by_cases hm : m = l.toNat
          · omega
          · rw [if_neg hm] at hA
            cases A with
            | none =>
              have hxn : xs = [] := by
                cases xs with
                | nil => rfl
                | cons y ys => obtain ⟨b, q, hAq, _⟩ := s4 (by simp); cases hAq
              have := s3 hxn rfl
              subst hxn
              simp at h2; omega
            | some A => cases hA
        · have hlt : l.toNat < hh.toNat := by
            rcases Nat.lt_or_ge l.toNat hh.toNat with h | h
            · exact h
            · exact absurd (List.eq_nil_of_length_eq_zero (by rw [hlen]; omega)) hne
          have hxn : xs ≠ [] := fun e => by subst e; simp at h2; omega
          obtain ⟨b, q, rfl, hb, hc⟩ := s4 hxn
          refine ⟨b, q + l.toNat * e'.size, by rw [if_neg (by omega)]; simp [Addr.add_mid], hb, fun i hi => ?_⟩
          have hi' : l.toNat + i < xs.length := by rw [hlen] at hi; omega
          obtain ⟨cs, q1, q2, q3⟩ := hc (l.toNat + i) hi'
          refine ⟨cs, q1, fun j hj => ?_, ?_⟩
          · rw [← q2 j hj, Nat.add_mul]; congr 2; omega
          · have : ((xs.take hh.toNat).drop l.toNat)[i] = xs[l.toNat + i] := by simp
            rw [this]; exact q3
    · exact h.elim
  · rename_i id p
    split at h
    · rename_i n' e' n e xs ht hg
      split at h
      · rename_i kl l kh hh el eh
        obtain ⟨h3, hC⟩ := cond_elim h
        simp only [Bool.and_eq_true] at h3
        obtain ⟨⟨⟨hf, h3⟩, h4⟩, h5⟩ := h3
        obtain rfl := of_decide_eq_true h3
        obtain rfl := Nat.eq_of_beq_eq_true h4
        have h5 := Nat.le_of_ble_eq_true h5
        obtain ⟨⟨h0, h1, h2⟩, hC⟩ := hC
        obtain ⟨te, hu, hT⟩ := TyOk_arr (hE.tt t _ ht)
        obtain ⟨off, t', k1, k2⟩ := VR_ptr hx
        obtain ⟨g1, g2, m, g3, g4, g5⟩ := getB_cells (R.heap id) k1 hg
        obtain ⟨hn, hEn⟩ : xs.length = n' ∧ EncL (Enc (okC X ρ s.hp w) w e') xs m := g3
        have bl := bound_of R el
        have bh := bound_of R eh
        have ht' : t' = .arr n' e' := by
          cases t' <;> first | exact g1.elim | (obtain ⟨rfl, rfl⟩ := g1; rfl)
        subst ht'
        have hok : okC X ρ s.hp w (ρ id) := R.ok_fz hf k1
        have hb := fun w : World => run_sliceBounds (P := X.P) w false n' n' (lo.map a.eval) (hi.map a.eval) l hh
          (by cases lo <;> first | (simp only [Option.map_none] at bl ⊢; injection bl; omega) | exact bl)
          (by cases hi <;> first | (simp only [Option.map_none] at bh ⊢; injection bh; omega) | exact bh) h0 h1 h2 (Nat.le_refl _)
        have hlen : ((xs.take hh.toNat).drop l.toNat).length = hh.toNat - l.toNat := by simp; omega
        have hmx : maxLen = 9223372036854775807 := rfl
        refine ⟨_, .slice (some (if n' = l.toNat then ⟨ρ id, off, none⟩ else (⟨ρ id, off, none⟩ : Addr).add (l.toNat * e'.size))) (hh.toNat - l.toNat) (n' - l.toNat), hC, ?_, ?_⟩
        · intro w' hw'
          simp only [execOp, ho, k2, Instr.sliceAt, Instr.sureAddr, Sem.run_bind, run_underlying hu, Result.andThen_ok, Option.map_none, hb, run_sizeOf_ty hT, Sem.run_pure]
          rfl
        · refine ⟨⟨_, n' - l.toNat, by rw [hlen]; rfl, by rw [hlen]; omega, by omega, by rw [hlen]; omega, fun he hA => by exact absurd hA (by simp), fun hne => ?_⟩, rfl⟩
          have hlt : l.toNat < hh.toNat := by
            rcases Nat.lt_or_ge l.toNat hh.toNat with h | h
            · exact h
            · exact absurd (List.eq_nil_of_length_eq_zero (by rw [hlen]; omega)) hne
          refine ⟨ρ id, off + l.toNat * e'.size, by rw [if_neg (by omega)]; simp [Addr.add_mid], hok, fun i hi => ?_⟩
          have hi' : l.toNat + i < xs.length := by rw [hlen] at hi; omega
          obtain ⟨cs, q1, q2, q3⟩ := EncL_at (fun x vs h => Enc_length e' x vs h) xs m hEn (l.toNat + i) hi'
          refine ⟨cs, q2, fun j hj => ?_, ?_⟩
          · rw [← q3 j hj, ← g5 _ (by
              show _ < n' * e'.size
              have : (l.toNat + i) * e'.size + e'.size ≤ n' * e'.size := by rw [← Nat.succ_mul]; exact Nat.mul_le_mul_right _ (by omega)
              omega), Nat.add_mul]
            congr 2; omega
          · have : ((xs.take hh.toNat).drop l.toNat)[i] = xs[l.toNat + i] := by simp
            rw [this]; exact q1
      · exact h.elim
    · exact h.elim
  · rename_i n e xs
    split at h
    · rename_i n' e' ht
      split at h
      · rename_i kl l kh hh el eh
        obtain ⟨h3, hC⟩ := cond_elim h
        simp only [Bool.and_eq_true] at h3
        obtain ⟨⟨h3, h4⟩, h5⟩ := h3
        obtain rfl := of_decide_eq_true h3
        obtain rfl := Nat.eq_of_beq_eq_true h4
        have h5 := Nat.le_of_ble_eq_true h5
        obtain ⟨⟨h0, h1, h2⟩, hC⟩ := hC
        obtain ⟨te, hu, hT⟩ := TyOk_arr (hE.tt t _ ht)
        obtain ⟨b, off, k2, hok, m, g4, g5, g6⟩ := VR_rop hx
        obtain ⟨hn, hEn⟩ : xs.length = n' ∧ EncL (Enc (okC X ρ s.hp w) w e') xs m := g6
        have bl := bound_of R el
        have bh := bound_of R eh
        have hb := fun w : World => run_sliceBounds (P := X.P) w false n' n' (lo.map a.eval) (hi.map a.eval) l hh
          (by cases lo <;> first | (simp only [Option.map_none] at bl ⊢; injection bl; omega) | exact bl)
          (by cases hi <;> first | (simp only [Option.map_none] at bh ⊢; injection bh; omega) | exact bh) h0 h1 h2 (Nat.le_refl _)
        have hlen : ((xs.take hh.toNat).drop l.toNat).length = hh.toNat - l.toNat := by simp; omega
        have hmx : maxLen = 9223372036854775807 := rfl
        refine ⟨_, .slice (some (if n' = l.toNat then ⟨b, off, none⟩ else (⟨b, off, none⟩ : Addr).add (l.toNat * e'.size))) (hh.toNat - l.toNat) (n' - l.toNat), hC, ?_, ?_⟩
        · intro w' hw'
          simp only [execOp, ho, k2, Instr.sliceAt, Instr.sureAddr, Sem.run_bind, run_underlying hu, Result.andThen_ok, Option.map_none, hb, run_sizeOf_ty hT, Sem.run_pure]
        · refine ⟨⟨_, n' - l.toNat, by rw [hlen]; rfl, by rw [hlen]; omega, by omega, by rw [hlen]; omega, fun he hA => by exact absurd hA (by simp), fun hne => ?_⟩, rfl⟩
          have hlt : l.toNat < hh.toNat := by
            rcases Nat.lt_or_ge l.toNat hh.toNat with h | h
            · exact h
            · exact absurd (List.eq_nil_of_length_eq_zero (by rw [hlen]; omega)) hne
          refine ⟨b, off + l.toNat * e'.size, by rw [if_neg (by omega)]; simp [Addr.add_mid], hok, fun i hi => ?_⟩
          have hi' : l.toNat + i < xs.length := by rw [hlen] at hi; omega
          obtain ⟨cs, q1, q2, q3⟩ := EncL_at (fun x vs h => Enc_length e' x vs h) xs m hEn (l.toNat + i) hi'
          refine ⟨cs, q2, fun j hj => ?_, ?_⟩
          · rw [← q3 j hj, ← g5 _ (by
              show _ < n' * e'.size
              have : (l.toNat + i) * e'.size + e'.size ≤ n' * e'.size := by rw [← Nat.succ_mul]; exact Nat.mul_le_mul_right _ (by omega)
              omega), Nat.add_mul]
            show w.cell? _ = w.cell? _
            congr 2; omega
          · have : ((xs.take hh.toNat).drop l.toNat)[i] = xs[l.toNat + i] := by simp
            rw [this]; exact q1
      · exact h.elim
    · exact h.elim
  · exact h.elim

theorem run_sliceBounds3 {P : Program} (w : World) (isS : Bool) (len cap : Nat) (lo : Option Value) (vh vm : Value) (l h m : Int)
    (hl : match lo with | some v => ∃ k, v = .int k l | none => l = 0) (hh : ∃ k, vh = .int k h) (hm : ∃ k, vm = .int k m)
    (h0 : 0 ≤ l) (h1 : l ≤ h) (h2 : h ≤ m) (h3 : m ≤ cap) : (Instr.sliceBounds isS len cap lo (some vh) (some vm)).run P w = .ok (l.toNat, h.toNat, m.toNat) w := by
  obtain ⟨k, rfl⟩ := hh
  obtain ⟨k2, rfl⟩ := hm
  cases lo with
  | none =>
    obtain rfl : l = 0 := hl
    simp [Instr.sliceBounds, Sem.run_bind, run_sliceBound w k2 m cap _ (by omega) (by omega), run_sliceBound w k h m.toNat _ (by omega) (by omega)]
  | some u =>
    obtain ⟨k', rfl⟩ := hl
    simp [Instr.sliceBounds, Sem.run_bind, run_sliceBound w k2 m cap _ (by omega) (by omega), run_sliceBound w k h m.toNat _ (by omega) (by omega), run_sliceBound w k' l h.toNat _ (by omega) (by omega)]
theorem ex_slice3 {t : TypeId} {x : Operand} {lo : Option Operand} {hq mq : Operand} (hE : EnvT E X.P) (R : RR X ρ s a w) (ho : o.op = .slice t x lo (some hq) (some mq)) (h : pv E s.hp (opn s.fr) (.slice t x lo (some hq) (some mq)) C) :
    ∃ v z, C v ∧ Up X.P a o z w ∧ VR (cx X ρ s.hp w) v z := by
  simp only [pv] at h
  have hx := VR_opn R x
  generalize opn s.fr x = va at h hx
  split at h
  · rename_i e xs
    split at h
    · rename_i e' kl l kh hh km mm ht el eh em
      obtain ⟨h3, hC⟩ := cond_elim h
      obtain rfl := of_decide_eq_true h3
      obtain ⟨⟨h0, h1, h2', h2m⟩, hC⟩ := hC
      have h2 : hh ≤ xs.length := Int.le_trans h2' h2m
      obtain ⟨te, hu, hT⟩ := TyOk_sl (hE.tt t _ ht)
      obtain ⟨A, m, ex, hs⟩ := VR_ro hx
      obtain ⟨s1, s2, s2', s3, s4⟩ := hs
      have bl := bound_of R el
      have bh : ∃ k, a.eval hq = .int k hh := by
        have := VR_opn R hq
        rw [eh] at this
        exact ⟨_, (VR_int this).1⟩
      have bm : ∃ k, a.eval mq = .int k mm := by
        have := VR_opn R mq
        rw [em] at this
        exact ⟨_, (VR_int this).1⟩
      have hb := fun w : World => run_sliceBounds3 (P := X.P) w true xs.length m (lo.map a.eval) (a.eval hq) (a.eval mq) l hh mm
        (by cases lo <;> first | (simp only [Option.map_none] at bl ⊢; injection bl; omega) | exact bl)
        bh bm h0 h1 h2' (by omega)
      have hlen : ((xs.take hh.toNat).drop l.toNat).length = hh.toNat - l.toNat := by simp; omega
      refine ⟨_, .slice (if mm.toNat = l.toNat then A else A.map (·.add (l.toNat * e'.size))) (hh.toNat - l.toNat) (mm.toNat - l.toNat), hC, ?_, ?_⟩
      · intro w' hw'
        simp only [execOp, ho, ex, Instr.sliceAt, Instr.slice, Sem.run_bind, run_underlying hu, Result.andThen_ok, Option.map_some, hb, run_sizeOf_ty hT, Sem.run_pure]
      · refine ⟨⟨_, mm.toNat - l.toNat, by rw [hlen]; rfl, by rw [hlen]; omega, by omega, by rw [hlen]; omega, fun he hA => ?_, fun hne => ?_⟩, rfl⟩
        · by_cases hm : mm.toNat = l.toNat
          · omega
          · rw [if_neg hm] at hA
            cases A with
            | none =>
              have hxn : xs = [] := by
                cases xs with
                | nil => rfl
                | cons y ys => obtain ⟨b, q, hAq, _⟩ := s4 (by simp); cases hAq
              subst hxn
              simp at h2m; omega
            | some A => cases hA
        · have hlt : l.toNat < hh.toNat := by
            rcases Nat.lt_or_ge l.toNat hh.toNat with h | h
            · exact h
            · exact absurd (List.eq_nil_of_length_eq_zero (by rw [hlen]; omega)) hne
          have hxn : xs ≠ [] := fun e => by subst e; simp at h2; omega
          obtain ⟨b, q, rfl, hb, hc⟩ := s4 hxn
          refine ⟨b, q + l.toNat * e'.size, by rw [if_neg (by omega)]; simp [Addr.add_mid], hb, fun i hi => ?_⟩
          have hi' : l.toNat + i < xs.length := by rw [hlen] at hi; omega
          obtain ⟨cs, q1, q2, q3⟩ := hc (l.toNat + i) hi'
          refine ⟨cs, q1, fun j hj => ?_, ?_⟩
          · rw [← q2 j hj, Nat.add_mul]; congr 2; omega
          · have : ((xs.take hh.toNat).drop l.toNat)[i] = xs[l.toNat + i] := by simp
            rw [this]; exact q3
    · exact h.elim
  · exact h.elim

theorem nat_wf {n : Nat} (h : n ≤ 9223372036854775807) : (Lit.int .i64 (n : Int)).wf = true := by
  simp [Lit.wf, IntKind.min, IntKind.max, IntKind.signed, IntKind.bits]; omega

theorem min_wf {k : IntKind} {m n : Int} (h1 : (Lit.int k m).wf = true) (h2 : (Lit.int k n).wf = true) : (Lit.int k (min m n)).wf = true ∧ (Lit.int k (max m n)).wf = true := by
  rw [Int.min_def, Int.max_def]; constructor <;> split <;> assumption

theorem min2_run {P : Program} (w : World) (k : IntKind) (m n : Int) : (Builtin.min2 (.int k m) (.int k n)).run P w = .ok (.int k (min m n)) w ∧ (Builtin.max2 (.int k m) (.int k n)).run P w = .ok (.int k (max m n)) w := by
  constructor
  · have : (if n < m then n else m) = min m n := by rw [Int.min_def]; split <;> split <;> omega
    simp [Builtin.min2, this]
  · have : (if m < n then n else m) = max m n := by rw [Int.max_def]; split <;> split <;> omega
    simp [Builtin.max2, this]

theorem ex_min {c : Call} (R : RR X ρ s a w) (ho : o.op = .call c) (hc : c.callee = .builtin .min ∨ c.callee = .builtin .max) (h : pv E s.hp (opn s.fr) (.call c) C) :
    ∃ v z, C v ∧ Up X.P a o z w ∧ VR (cx X ρ s.hp w) v z := by
  simp only [pv] at h
  rcases hc with hc | hc <;> rw [hc] at h <;> simp only at h
  all_goals
    split at h
    · rename_i x y hargs
      have hx := VR_opn R x
      have hy := VR_opn R y
      generalize opn s.fr x = va at h hx
      generalize opn s.fr y = vb at h hy
      split at h
      · rename_i ka m kb n
        obtain ⟨ex, wx⟩ := VR_int hx
        obtain ⟨ey, wy⟩ := VR_int hy
        obtain ⟨h3, hC⟩ := cond_elim h
        obtain rfl := of_decide_eq_true h3
        have hl : (c.args.map a.eval).toList = [.int ka m, .int ka n] := by simp [hargs, ex, ey]
        refine ⟨_, _, hC, ?_, mkVR_int (by first | exact (min_wf wx wy).1 | exact (min_wf wx wy).2)⟩
        have hr := And.intro (fun w : World => (min2_run (P := X.P) w ka m n).1) (fun w : World => (min2_run (P := X.P) w ka m n).2)
        intro w' hw'
        simp only [execOp, ho, resolve, hc, invoke, builtin, Builtin.min_, Builtin.max_, Sem.run_bind, Sem.run_pure, Result.andThen_ok, hl, List.foldlM_cons, List.foldlM_nil, hr.1, hr.2]
      · exact h.elim
    · exact h.elim

theorem ex_len {c : Call} (hE : EnvT E X.P) (R : RR X ρ s a w) (ho : o.op = .call c) (hc : c.callee = .builtin .len) (h : pv E s.hp (opn s.fr) (.call c) C) :
    ∃ v z, C v ∧ Up X.P a o z w ∧ VR (cx X ρ s.hp w) v z := by
  simp only [pv] at h
  rw [hc] at h; simp only at h
  split at h
  · rename_i x t hargs htys
    have hx := VR_opn R x
    generalize opn s.fr x = va at h hx
    split at h
    · rename_i n e hn ht
      obtain ⟨h3, hC⟩ := cond_elim h
      rw [Bool.and_eq_true] at h3
      obtain ⟨h3, h4⟩ := h3
      have hT := hE.tt t _ ht
      have hargs' : (c.args.map a.eval)[0]? = some (a.eval x) := by
        have : c.args = #[x] := by apply Array.ext'; simpa using hargs
        simp [this]
      have htys' : c.argTypes[0]? = some t := by
        have : c.argTypes = #[t] := by apply Array.ext'; simpa using htys
        simp [this]
      have key : ∀ z, (∀ w : World, (Builtin.len_ c.argTypes o.type (c.args.map a.eval)).run X.P w = .ok z w) → Up X.P a o z w := by
        intro z hz
        intro w' hw'
        simp only [execOp, ho, resolve, hc, invoke, builtin, Sem.run_bind, Sem.run_pure, Result.andThen_ok, hz]
      have hm : maxLen = 9223372036854775807 := rfl
      unfold lenAV at hn
      split at hn
      · rename_i e0 xs
        cases hn
        obtain ⟨A, m, ex, hs⟩ := VR_ro hx
        cases e <;> try (have h3 : false = true := h3; cases h3)
        obtain ⟨te, hu, _⟩ := TyOk_sl hT
        exact ⟨_, _, hC, key _ (fun w => by simp [Builtin.len_, htys', hargs', ex, Sem.run_bind, run_underlying hu, goInt]), mkVR_int (nat_wf (by have := hs.2.2.1; omega))⟩
      · rename_i id
        split at hn
        · rename_i te0 e0 xs f hb
          cases hn
          have hO := VR_own hx
          unfold OwnV at hO
          rw [show (cx X ρ s.hp w).hp = s.hp from rfl, hb] at hO
          obtain ⟨A, m, g1, g2, g2', g3, g4⟩ := hO
          have ex : a.eval x = .slice A xs.length m := by simpa using g1
          cases e <;> try (have h3 : false = true := h3; cases h3)
          · obtain ⟨te, hu, _⟩ := TyOk_sl hT
            exact ⟨_, _, hC, key _ (fun w => by simp [Builtin.len_, htys', hargs', ex, Sem.run_bind, run_underlying hu, goInt]), mkVR_int (nat_wf (by omega))⟩
        · cases hn
      · cases hn
        obtain ⟨ex, _⟩ := VR_con hx
        cases e <;> first | (have h4 : false = true := h4; cases h4; done) | (have h3 : false = true := h3; cases h3; done) | skip
        obtain ⟨te, hu, _⟩ := TyOk_sl hT
        exact ⟨_, _, hC, key _ (fun w => by simp [Builtin.len_, htys', hargs', ex, Sem.run_bind, run_underlying hu, goInt]), mkVR_int (nat_wf (n := 0) (by omega))⟩
      · rename_i str
        cases hn
        obtain ⟨ex, wx⟩ := VR_str hx
        cases e <;> try (have h3 : false = true := h3; cases h3)
        exact ⟨_, _, hC, key _ (fun w => by simp [Builtin.len_, htys', hargs', ex, Sem.run_bind, run_underlying hT.2, goInt]), mkVR_int (nat_wf (by omega))⟩
      · rename_i m e0 xs
        cases hn
        obtain ⟨cs, ex, _⟩ := VR_arr hx
        cases e <;> try (have h3 : false = true := h3; cases h3)
        rename_i n' e'
        have h3' : (m == n' && decide (e0 = e')) = true := h3
        rw [Bool.and_eq_true, beq_iff_eq] at h3'
        obtain ⟨te, hu, _⟩ := TyOk_arr hT
        obtain ⟨rfl, rfl⟩ : m = n' ∧ e0 = e' := ⟨h3'.1, of_decide_eq_true h3'.2⟩
        have h4 : Nat.ble m 65536 = true := h4
        have := Nat.le_of_ble_eq_true h4
        exact ⟨_, _, hC, key _ (fun w => by simp [Builtin.len_, htys', hargs', ex, Sem.run_bind, run_underlying hu, goInt]), mkVR_int (nat_wf (by omega))⟩
      · rename_i id m
        cases hn
        obtain ⟨_, hm2, ex⟩ := VR_vsl hx
        cases e <;> try (have h3 : false = true := h3; cases h3)
        obtain ⟨te, hu, _⟩ := TyOk_sl hT
        exact ⟨_, _, hC, key _ (fun w => by simp [Builtin.len_, htys', hargs', ex, Sem.run_bind, run_underlying hu, goInt]), mkVR_int (nat_wf (by omega))⟩
      · cases hn
    · exact h.elim
  · exact h.elim
end
end Go.Proofs.YtejedlpnejjnbaaV
