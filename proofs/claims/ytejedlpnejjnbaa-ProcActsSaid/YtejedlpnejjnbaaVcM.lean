/- The operations of the VC evaluator that make a block. -/
import Derived.Test.YtejedlpnejjnbaaVcL
set_option linter.unusedVariables false
set_option linter.unusedSimpArgs false
namespace Go.Proofs.YtejedlpnejjnbaaV
open Go.RowKit

section
variable {E : Env} {X : Fix} {ρ : Nat → Nat} {s : St} {a : Act} {w : World} {C : St → AV → Prop} {o : Oper} {d : Nat}

def upd (ρ : Nat → Nat) (d b : Nat) (i : Nat) : Nat := if i = d then b else ρ i
theorem upd_same (ρ : Nat → Nat) (d b : Nat) : upd ρ d b d = b := if_pos rfl
theorem upd_other {ρ : Nat → Nat} {d b i : Nat} (h : i ≠ d) : upd ρ d b i = ρ i := if_neg h

theorem heap_alloc_new (w : World) (ob : Obj) : (w.alloc ob).heap[w.heap.size]? = some ob := by
  show (w.heap.push ob)[w.heap.size]? = _
  simp

theorem RR.base_le (R : RR X ρ s a w) : X.base ≤ w.heap.size := R.below.size

/-- A block that is new: the step. -/
theorem RR.fresh (R : RR X ρ s a w) (d : Nat) (b : Blk) (ob : Obj) (w1 : World) (h1 : w1.heap = w.heap) (hB : Below X.base X.w0 w1)
    (hb : ∀ c', c' = cx X (upd ρ d w.heap.size) ((d, b) :: (s.clr d).hp) (w1.alloc ob) → Ext (· = d) (cx X ρ s.hp w) c' → (w1.alloc ob).heap[c'.ρ d]? = some ob → HB X c' d b) :
    Ext (· = d) (cx X ρ s.hp w) (cx X (upd ρ d w.heap.size) ((d, b) :: (s.clr d).hp) (w1.alloc ob)) ∧
    RR X (upd ρ d w.heap.size) ((s.clr d).putb d b) a (w1.alloc ob) := by
  have hsz : (w1.alloc ob).heap.size = w.heap.size + 1 := by
    show (w1.heap.push ob).size = _
    rw [h1]; simp
  refine RR.turnC (w' := w1.alloc ob) R d b (fun id h => upd_other h) (hB.alloc (by rw [h1]; exact R.base_le) ob) (by omega) (fun k hk _ => ?_) (fun _ => .inr (by rw [upd_same]; exact Nat.le_refl _)) (fun _ => by rw [upd_same, hsz]; omega) (fun c' hc hx => hb c' hc hx ?_)
  · rw [Below.heap_alloc w1 ob k (by rw [h1]; exact hk), h1]
  · subst hc
    show (w1.alloc ob).heap[upd ρ d w.heap.size d]? = _
    rw [upd_same, ← h1]; exact heap_alloc_new w1 ob

theorem ex_alloc {t : TypeId} (hE : EnvT E X.P) (R : RR X ρ s a w) (ho : o.op = .alloc t) (h : av E s (opn s.fr) d (.alloc t) C) :
    ∃ s' v z w' ρ', C s' v ∧ (execOp a.eval o).run X.P w = .ok (.value z) w' ∧ RR X ρ' s' a w' ∧ VR (cx X ρ' s'.hp w') v z ∧ (cls o = 2 → Below w.heap.size w w') := by
  simp only [av, clrK_eq, putbK_eq, frzK_eq] at h
  split at h
  · rename_i e ht
    obtain ⟨h1, hC⟩ := cond_elim h
    have hT := hE.tt t _ ht
    have hW := TyOk.wf _ _ hT
    obtain ⟨i, i1, i2, i3, i4⟩ := hT.base
    obtain ⟨hx, R'⟩ := R.fresh d (.var e (zeroAV e) false) (.cells (zval e).cells t) w rfl R.below (by
      intro c' hc hx hh
      subst hc
      refine ⟨?_, _, t, hh, ?_, Shp_zero e hW, hW⟩
      · show X.base ≤ upd ρ d w.heap.size d
        rw [upd_same]; exact R.base_le
      · rw [zval_cells]; exact CR_zero _ e h1 hW)
    refine ⟨_, _, .pointer (some ⟨w.heap.size, 0, none⟩), _, _, hC, ?_, R', ?_, fun _ => (Below.refl _ _).alloc (Nat.le_refl _) _⟩
    · simp [execOp, ho, Instr.alloc, Sem.run_bind, zeroValue, typeInfo, i1, i3, newVar, newRow]
    · refine ⟨⟨0, e, ?_, ?_⟩, rfl⟩
      · show pathB (lkb ((d, _) :: _) d) [] = _
        rw [lkb_cons, if_pos rfl]; rfl
      · show [_] = [Value.pointer (some ⟨upd ρ d w.heap.size d, 0, none⟩)]
        rw [upd_same]
  · exact h.elim

theorem isVar_killB (d : Nat) (b : Blk) : isVar (killB d b) = isVar b := by
  cases b with
  | none => rfl
  | var e v f => cases f <;> rfl
  | row te e xs f => rfl
theorem clr_lkb (s : St) (d i : Nat) (b : Blk) (h : i ≠ d) : live (lkb ((s.clr d).putb d b).hp i) = live (lkb s.hp i) ∧ isVar (lkb ((s.clr d).putb d b).hp i) = isVar (lkb s.hp i) := by
  have h1 : lkb ((s.clr d).putb d b).hp i = lkb (s.clr d).hp i := by
    show lkb ((d, b) :: (s.clr d).hp) i = _
    rw [lkb_cons, if_neg (fun e => h e.symm)]
  rw [h1]
  unfold St.clr
  split
  · exact ⟨rfl, rfl⟩
  · rw [show (s.kill d).hp = killH d s.hp from rfl, lkb_killH]
    exact ⟨(live_killB _ _).1, isVar_killB _ _⟩
/-- A variable that is new: what else is there stays. -/
theorem ex_alloc2 {t : TypeId} (hE : EnvT E X.P) (R : RR X ρ s a w) (ho : o.op = .alloc t) (h : av E s (opn s.fr) d (.alloc t) C) :
    ∃ s' v z w', C s' v ∧ (execOp a.eval o).run X.P w = .ok (.value z) w' ∧ RR X (upd ρ d w.heap.size) s' a w' ∧ VR (cx X (upd ρ d w.heap.size) s'.hp w') v z ∧ Below w.heap.size w w' ∧ ∀ i, i ≠ d → live (lkb s'.hp i) = live (lkb s.hp i) ∧ isVar (lkb s'.hp i) = isVar (lkb s.hp i) := by
  simp only [av, clrK_eq, putbK_eq, frzK_eq] at h
  split at h
  · rename_i e ht
    obtain ⟨h1, hC⟩ := cond_elim h
    have hT := hE.tt t _ ht
    have hW := TyOk.wf _ _ hT
    obtain ⟨i, i1, i2, i3, i4⟩ := hT.base
    obtain ⟨hx, R'⟩ := R.fresh d (.var e (zeroAV e) false) (.cells (zval e).cells t) w rfl R.below (by
      intro c' hc hx hh
      subst hc
      refine ⟨?_, _, t, hh, ?_, Shp_zero e hW, hW⟩
      · show X.base ≤ upd ρ d w.heap.size d
        rw [upd_same]; exact R.base_le
      · rw [zval_cells]; exact CR_zero _ e h1 hW)
    refine ⟨_, _, .pointer (some ⟨w.heap.size, 0, none⟩), _, hC, ?_, R', ?_, (Below.refl _ _).alloc (Nat.le_refl _) _, fun i hi => clr_lkb s d i _ hi⟩
    · simp [execOp, ho, Instr.alloc, Sem.run_bind, zeroValue, typeInfo, i1, i3, newVar, newRow]
    · refine ⟨⟨0, e, ?_, ?_⟩, rfl⟩
      · show pathB (lkb ((d, _) :: _) d) [] = _
        rw [lkb_cons, if_pos rfl]; rfl
      · show [_] = [Value.pointer (some ⟨upd ρ d w.heap.size d, 0, none⟩)]
        rw [upd_same]
  · exact h.elim

theorem cells_of_VR {c : Cx} {e : Ty} {v : AV} {x : Value} (hf : fits e v = true) (h : VR c v x) : CR c v x.cells.toList := by
  cases v <;> first | exact h.1 | (cases e <;> cases hf)

theorem ex_box {t : TypeId} {y : Operand} (hE : EnvT E X.P) (R : RR X ρ s a w) (ho : o.op = .box t y) (h : av E s (opn s.fr) d (.box t y) C) :
    ∃ s' v z w' ρ', C s' v ∧ (execOp a.eval o).run X.P w = .ok (.value z) w' ∧ RR X ρ' s' a w' ∧ VR (cx X ρ' s'.hp w') v z ∧ (cls o = 2 → Below w.heap.size w w') := by
  simp only [av, clrK_eq, putbK_eq, frzK_eq] at h
  split at h
  · rename_i e ht
    obtain ⟨h1, hC⟩ := cond_elim h
    have hT := hE.tt t _ ht
    have hW := TyOk.wf _ _ hT
    have hv := cells_of_VR h1 (VR_opn R y)
    obtain ⟨hx, R'⟩ := R.fresh d (.var e (kill d (opn s.fr y)) false) (.cells (a.eval y).cells t) w rfl R.below (by
      intro c' hc hx hh
      refine ⟨?_, _, t, by subst hc; exact hh, CR_ext hx _ _ (kill_free d _) (CR_kill _ d _ _ hv), Shp_kill d e _ (Shp_of_fits e _ h1), hW⟩
      subst hc
      show X.base ≤ upd ρ d w.heap.size d
      rw [upd_same]; exact R.base_le)
    refine ⟨_, _, .pointer (some ⟨w.heap.size, 0, none⟩), _, _, hC, ?_, R', ?_, fun _ => (Below.refl _ _).alloc (Nat.le_refl _) _⟩
    · simp only [execOp, ho, Instr.box, Sem.run_bind, Sem.run_pure, Result.andThen_ok, newVar, newRow, run_newObj_alloc]
    · refine ⟨⟨0, e, ?_, ?_⟩, rfl⟩
      · show pathB (lkb ((d, _) :: _) d) [] = _
        rw [lkb_cons, if_pos rfl]; rfl
      · show [_] = [Value.pointer (some ⟨upd ρ d w.heap.size d, 0, none⟩)]
        rw [upd_same]
  · exact h.elim

theorem heap_cx {c' : Cx} {ρ' : Nat → Nat} {hp : List (Nat × Blk)} {w' : World} {d : Nat} {cs : Array Value} {te : TypeId} (hc : c' = cx X ρ' hp w') (hh : w'.heap[c'.ρ d]? = some (.cells cs te)) : c'.w.heap[c'.ρ d]? = some (.cells cs te (0, 0)) := by
  subst hc; exact hh

/-- The slice over a row that is known. -/
theorem VR_own_of {c : Cx} {d te n : Nat} {e : Ty} {xs : List e.den} {f : Bool} {A : Option Addr} (hb : lkb c.hp d = .row te e xs f) (h1 : n ≤ maxLen) (h2 : xs.length ≤ 140737488355328) (h3 : xs = [] → n = 0)
    (h4 : xs ≠ [] → A = some ⟨c.ρ d, 0, none⟩ ∧ xs.length ≤ n ∧ cellsN c.w (c.ρ d) = n * e.size) : VR c (.own d) (.slice A xs.length n) := by
  refine ⟨?_, rfl⟩
  show OwnV c d _
  unfold OwnV
  rw [hb]
  exact ⟨A, n, rfl, h1, h2, h3, h4⟩

/-- A row that is new, and the slice over it. -/
theorem RR.newRow (R : RR X ρ s a w) (d te : Nat) (e : Ty) (xs : List e.den) (cells : Array Value) (w1 : World) (h1 : w1.heap = w.heap) (hB : Below X.base X.w0 w1) (hW : WfT e) (n : Nat)
    (hn : xs.length ≤ n) (hm : n ≤ maxLen) (hl : xs.length ≤ 140737488355328) (h0 : xs = [] → n = 0) (hsz : cells.size = n * e.size)
    (hE : EncL (Enc (okC X ρ s.hp w) w e) xs (cells.toList.take (xs.length * e.size))) :
    RR X (upd ρ d w.heap.size) ((s.clr d).putb d (.row te e xs false)) a (w1.alloc (.cells cells te)) ∧
    VR (cx X (upd ρ d w.heap.size) ((s.clr d).putb d (.row te e xs false)).hp (w1.alloc (.cells cells te))) (.own d) (.slice (some ⟨w.heap.size, 0, none⟩) xs.length n) := by
  obtain ⟨hx, R'⟩ := R.fresh d (.row te e xs false) (.cells cells te) w1 h1 hB (by
    intro c' hc hx hh
    refine ⟨hW, fun _ => ⟨?_, _, heap_cx hc hh, ?_, ?_⟩⟩
    · subst hc
      show X.base ≤ upd ρ d w.heap.size d
      rw [upd_same]; exact R.base_le
    · rw [hsz]; exact Nat.mul_le_mul_right _ hn
    · exact EncL_mono (fun x vs h => Enc_mono hx.ok e x vs h) _ _ hE)
  refine ⟨R', ?_⟩
  have hlk : lkb ((d, Blk.row te e xs false) :: (s.clr d).hp) d = .row te e xs false := by rw [lkb_cons, if_pos rfl]
  refine VR_own_of (c := cx X (upd ρ d w.heap.size) ((d, Blk.row te e xs false) :: (s.clr d).hp) (w1.alloc (.cells cells te))) hlk hm hl h0 (fun hne => ⟨?_, hn, ?_⟩)
  · show _ = some (⟨upd ρ d w.heap.size d, 0, none⟩ : Addr); rw [upd_same]
  · show cellsN (w1.alloc (.cells cells te)) (upd ρ d w.heap.size d) = _
    rw [upd_same, ← h1, cellsN_of (heap_alloc_new w1 _), hsz]

theorem madeCells_rep (z : List Value) (m n : Nat) (hz : z.length = m) : (madeCells z.toArray (n * m)).toList = (List.replicate n z).flatten := by
  apply List.ext_getElem?
  intro j
  unfold madeCells
  rw [Array.toList_map, List.getElem?_map, Array.toList_range]
  have hlen : (List.replicate n z).flatten.length = n * m := by rw [List.length_flatten, List.map_replicate, List.sum_replicate_nat, hz]
  by_cases hj : j < n * m
  · rw [List.getElem?_range hj]
    have hm : 0 < m := by
      rcases Nat.eq_zero_or_pos m with h | h
      · subst h; simp at hj
      · exact h
    have key : ∀ (n j : Nat), j < n * m → (List.replicate n z).flatten[j]? = z[j % m]? := by
      intro n
      induction n with
      | zero => intro j hj; simp at hj
      | succ n ih =>
        intro j hj
        rw [List.replicate_succ, List.flatten_cons]
        by_cases h : j < m
        · rw [List.getElem?_append_left (by omega), Nat.mod_eq_of_lt h]
        · rw [List.getElem?_append_right (by omega), hz, ih (j - m) (by rw [Nat.add_mul] at hj; omega)]
          congr 1
          exact (Nat.mod_eq_sub_mod (by omega)).symm
    rw [key n j hj]
    have hlt : j % m < z.length := by rw [hz]; exact Nat.mod_lt _ hm
    simp [hz, List.getElem?_eq_getElem hlt, getElem!_pos, hlt]
  · rw [List.getElem?_eq_none (by simp; omega), List.getElem?_eq_none (by omega)]; rfl

theorem ex_makeSlice {t : TypeId} {l c : Operand} (hE : EnvT E X.P) (R : RR X ρ s a w) (ho : o.op = .makeSlice t l c) (h : av E s (opn s.fr) d (.makeSlice t l c) C) :
    ∃ s' v z w' ρ', C s' v ∧ (execOp a.eval o).run X.P w = .ok (.value z) w' ∧ RR X ρ' s' a w' ∧ VR (cx X ρ' s'.hp w') v z ∧ (cls o = 2 → Below w.heap.size w w') := by
  simp only [av, clrK_eq, putbK_eq, frzK_eq] at h
  have hl := VR_opn R l
  have hc := VR_opn R c
  generalize opn s.fr l = vl at h hl
  generalize opn s.fr c = vc at h hc
  split at h
  · rename_i e te k n k' m ht het
    obtain ⟨h1, ⟨rfl, h2, h3⟩, hC⟩ := cond_elim h
    rw [Bool.and_eq_true] at h1
    obtain ⟨h1, hp⟩ := h1
    obtain ⟨el, wl⟩ := VR_int hl
    obtain ⟨ec, wc⟩ := VR_int hc
    obtain ⟨te', hu, hT⟩ := TyOk_sl (hE.tt t _ ht)
    have hu2 := hE.et t te het
    obtain rfl : te' = te := by rw [hu] at hu2; cases hu2; rfl
    have hW := TyOk.wf _ _ hT
    obtain ⟨i, i1, i2, i3, i4⟩ := hT.base
    have hb : (i.bytes : Int) * n ≤ 281474976710656 := by
      have : (i.bytes : Int) * n ≤ 32768 * 4294967296 := Int.mul_le_mul (by omega) h3 h2 (by omega)
      omega
    have hr := run_make (P := X.P) w t te' i (zval e) hu i1 i3 k k' n n h2 (Int.le_refl _) hb (by omega)
    have hcells : (madeCells (zval e).cells (n.toNat * i.size)).toList = (List.replicate n.toNat (zcs e)).flatten := by
      rw [zval_cells, i2]; exact madeCells_rep _ _ _ (zcs_length e)
    have hsize : (madeCells (zval e).cells (n.toNat * i.size)).size = n.toNat * e.size := by rw [size_madeCells, i2]
    have hlen : (List.replicate n.toNat e.dfl).length = n.toNat := List.length_replicate ..
    obtain ⟨R', hv⟩ := R.newRow d te' e (List.replicate n.toNat e.dfl) (madeCells (zval e).cells (n.toNat * i.size)) w rfl R.below hW n.toNat (by omega) (by have : maxLen = 9223372036854775807 := rfl; omega) (by omega)
      (fun h0 => by have := congrArg List.length h0; rw [hlen] at this; exact this) hsize (by
        rw [hcells, hlen, List.take_of_length_le (by rw [List.length_flatten, List.map_replicate, List.sum_replicate_nat, zcs_length]; exact Nat.le_refl _)]
        exact EncL_replicate (Enc_dfl _ _ e hp) _)
    rw [hlen] at hv
    refine ⟨_, _, .slice (some ⟨w.heap.size, 0, none⟩) n.toNat n.toNat, _, _, hC, ?_, R', hv, fun _ => (Below.refl _ _).alloc (Nat.le_refl _) _⟩
    simp only [execOp, ho, el, ec, Sem.run_bind, hr, Result.andThen_ok, Sem.run_pure]
  · exact h.elim
end
end Go.Proofs.YtejedlpnejjnbaaV
