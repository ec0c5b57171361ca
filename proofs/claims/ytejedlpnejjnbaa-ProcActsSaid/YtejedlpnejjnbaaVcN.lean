/- The operations of the VC evaluator that make a block, more: slices out of parts; what is appended. -/
import Derived.Test.YtejedlpnejjnbaaVcM
set_option linter.unusedVariables false
set_option linter.unusedSimpArgs false
namespace Go.Proofs.YtejedlpnejjnbaaV
open Go.RowKit

theorem flatten_at {α : Type} (m : Nat) (hm : 0 < m) : ∀ (l : List (List α)), (∀ x ∈ l, x.length = m) → ∀ k, k < l.length * m → l.flatten[k]? = (l[k / m]?).bind (fun x => x[k % m]?)
  | [], _, k, hk => by simp at hk
  | x :: l, h, k, hk => by
    have hx := h x (by simp)
    rw [List.flatten_cons]
    by_cases hlt : k < m
    · rw [List.getElem?_append_left (by omega), Nat.div_eq_of_lt hlt, Nat.mod_eq_of_lt hlt]; rfl
    · have ih := flatten_at m hm l (fun y hy => h y (by simp [hy])) (k - m) (by rw [List.length_cons, Nat.add_mul] at hk; omega)
      rw [List.getElem?_append_right (by omega), hx, ih]
      have e1 : k / m = (k - m) / m + 1 := by
        have : k = (k - m) + m := by omega
        conv => lhs; rw [this]
        exact Nat.add_div_right _ hm
      have e2 : k % m = (k - m) % m := Nat.mod_eq_sub_mod (by omega)
      rw [e1, List.getElem?_cons_succ, e2]

theorem zip_parts {α β : Type} (f : α → β) : ∀ (l : List (Nat × α)) (i n : Nat), l.map (·.1) = List.range' i n → l.map (fun p => (p.1, f p.2)) = ((l.map fun p => f p.2).zipIdx i).map fun x => (x.2, x.1)
  | [], _, _, _ => rfl
  | (j, y) :: l, i, 0, h => by simp at h
  | (j, y) :: l, i, n + 1, h => by
    rw [List.range'_succ] at h
    simp only [List.map_cons, List.cons.injEq] at h
    obtain ⟨rfl, h⟩ := h
    simp only [List.map_cons, List.zipIdx_cons]
    rw [← zip_parts f l (j + 1) n h]

section
variable {E : Env} {X : Fix} {ρ : Nat → Nat} {s : St} {a : Act} {w : World} {C : St → AV → Prop} {o : Oper} {d : Nat}

theorem pack_cells (R : RR X ρ s a w) {e : Ty} {v : AV} {y : e.den} {x : Value} (h : pack s.hp e v = some y) (hv : VR (cx X ρ s.hp w) v x) : Enc (okC X ρ s.hp w) w e y x.cells.toList := by
  refine pack_enc R e v y _ h ?_
  cases v <;> first
    | exact hv.1
    | (cases e <;> simp [pack] at h)

theorem packAll_enc (R : RR X ρ s a w) {e : Ty} (f : Operand → AV) (g : Operand → Value) (hfg : ∀ q, VR (cx X ρ s.hp w) (f q) (g q)) : ∀ (l : List Operand) (ys : List e.den), packAll s.hp e (l.map f) = some ys →
    ys.length = l.length ∧ EncL (Enc (okC X ρ s.hp w) w e) ys (l.map fun q => (g q).cells.toList).flatten
  | [], ys, h => by
    simp only [List.map_nil, packAll, Option.some.injEq] at h
    subst h; exact ⟨rfl, rfl⟩
  | q :: l, ys, h => by
    simp only [List.map_cons, packAll] at h
    split at h
    · rename_i y hy
      split at h
      · rename_i zs hz
        cases h
        obtain ⟨h1, h2⟩ := packAll_enc R f g hfg l zs hz
        exact ⟨by simp [h1], _, _, by rw [List.map_cons, List.flatten_cons], pack_cells R hy (hfg q), h2⟩
      · cases h
    · cases h

theorem run_buildSlice_nil {P : Program} (w : World) (t e : TypeId) (i : TypeInfo) (hu : P.underlying t = some (.slice e)) (hi : P.info? e = some i) :
    (Instr.buildSlice t 0 #[]).run P w = .ok (.slice (some ⟨w.heap.size, 0, none⟩) 0 0) (w.alloc (.cells #[] e)) := by
  simp [Instr.buildSlice, run_underlying hu, sizeOf, typeInfo, hi, newRow, Instr.fill, Array.range_zero']

theorem buildSlice_run {P : Program} {w : World} {t te' : TypeId} {len : Nat} {parts : Array (Nat × Operand)} {ev : Operand → Value} {e : Ty} (hu : P.underlying t = some (.slice te')) (hT : TyOk P e te')
    (h1 : parts.toList.map (·.1) = List.range len) (h2 : len * e.size ≤ 65536) (h3 : 1 ≤ e.size) (hcs : ∀ v ∈ (parts.toList.map (·.2)).map ev, v.cells.size = e.size) :
    ∃ cells : Array Value, (Instr.buildSlice t len (parts.map fun (i, x) => (i, ev x))).run P w = .ok (.slice (some ⟨w.heap.size, 0, none⟩) len len) (w.alloc (.cells cells te')) ∧
      cells.size = len * e.size ∧ cells.toList = ((parts.toList.map (·.2)).map fun q => (ev q).cells.toList).flatten := by
  obtain ⟨i, i1, i2, i3, i4⟩ := hT.base
  have hpl0 : (parts.toList.map (·.2)).length = len := by
    rw [List.length_map]
    have := congrArg List.length h1
    simpa using this
  have hpe : (parts.map fun (i, x) => (i, ev x)).toList = (((parts.toList.map (·.2)).map ev).zipIdx 0).map fun x => (x.2, x.1) := by
    rw [Array.toList_map, List.map_map]
    have := zip_parts ev parts.toList 0 len (by rw [h1, List.range_eq_range'])
    exact this
  have hvl : ((parts.toList.map (·.2)).map ev).length = len := by rw [List.length_map, hpl0]
  by_cases hz : len = 0
  · subst hz
    have hpn : parts.toList = [] := by
      have := congrArg List.length h1
      exact List.eq_nil_of_length_eq_zero (by simpa using this)
    have hpn' : parts = #[] := by apply Array.ext'; exact hpn
    subst hpn'
    exact ⟨#[], by rw [Array.map_empty]; exact run_buildSlice_nil w t te' i hu i1, by simp, rfl⟩
  · have hfd := Great.fill_dense (s := e.size) (by omega) ((parts.toList.map (·.2)).map ev) 0 ((Array.range (len * i.size)).map ((zval e).cells[· % (zval e).cells.size]!)) hcs (by rw [hvl, i2]; simp)
    obtain ⟨r, r1, r2, r3⟩ := hfd
    refine ⟨r, ?_, by rw [r2, i2]; simp, ?_⟩
    · refine run_buildSlice w t te' len _ r i (zval e) hu i1 i3 ?_ ?_ ?_
      · rw [i2]; omega
      · rw [i2]
        intro h0
        rcases Nat.mul_eq_zero.1 h0 with h0 | h0 <;> omega
      · rw [hpe, i2]
        rw [i2] at r1
        exact r1
    · have hl2 : ((parts.toList.map (·.2)).map fun q => (ev q).cells.toList).length = len := by rw [List.length_map, hpl0]
      apply List.ext_getElem?
      intro k
      have hrk := r3 k
      rw [hvl] at hrk
      rw [Array.getElem?_toList, hrk]
      by_cases hk : k < len * e.size
      · rw [if_pos ⟨by omega, by rw [Nat.zero_add]; exact hk⟩, flatten_at e.size (by omega) _ (by
          intro x hx
          obtain ⟨q, hq, rfl⟩ := List.mem_map.1 hx
          have := hcs (ev q) (List.mem_map.2 ⟨q, hq, rfl⟩)
          simpa using this) k (by rw [hl2]; exact hk)]
        rw [Nat.sub_zero]
        have e1 : ((parts.toList.map (·.2)).map ev)[k / e.size]? = ((parts.toList.map (·.2))[k / e.size]?).map ev := List.getElem?_map ..
        have e2 : ((parts.toList.map (·.2)).map fun q => (ev q).cells.toList)[k / e.size]? = ((parts.toList.map (·.2))[k / e.size]?).map fun q => (ev q).cells.toList := List.getElem?_map ..
        rw [e1, e2]
        cases hq : (parts.toList.map (·.2))[k / e.size]? with
        | none => rfl
        | some q => show (ev q).cells[k % e.size]? = (ev q).cells.toList[k % e.size]?; simp
      · rw [if_neg (by rw [Nat.zero_add]; omega), Array.getElem?_eq_none (by simp [i2]; omega), List.getElem?_eq_none]
        rw [List.length_flatten]
        have : (((parts.toList.map (·.2)).map fun q => (ev q).cells.toList).map List.length) = List.replicate len e.size := by
          apply List.eq_replicate_iff.2
          refine ⟨by rw [List.length_map, hl2], fun x hx => ?_⟩
          obtain ⟨y, hy, rfl⟩ := List.mem_map.1 hx
          obtain ⟨q, hq, rfl⟩ := List.mem_map.1 hy
          have := hcs (ev q) (List.mem_map.2 ⟨q, hq, rfl⟩)
          simpa using this
        rw [this, List.sum_replicate_nat]
        omega
  theorem ptrs_cells {c : Cx} (f : Operand → AV) (g : Operand → Value) (hfg : ∀ q, VR c (f q) (g q)) : ∀ (l : List Operand), ptrsOk (l.map f) = true →
    CRs c (l.map f) (l.map fun q => (g q).cells.toList).flatten ∧ Shps (opqs l.length) (l.map f) ∧ ∀ v ∈ l.map g, v.cells.size = 1
  | [], _ => ⟨rfl, trivial, fun v h => by cases h⟩
  | q :: l, h => by
    have h : ((match f q with | .ptr _ _ => true | .con (.pointer none) => true | _ => false) && ptrsOk (l.map f)) = true := h
    rw [Bool.and_eq_true] at h
    obtain ⟨h1, h2⟩ := h
    obtain ⟨g1, g2, g3⟩ := ptrs_cells f g hfg l h2
    have hv := hfg q
    have key : CR c (f q) (g q).cells.toList ∧ Shp (.opq 0) (f q) ∧ (g q).cells.size = 1 := by
      split at h1
      · rename_i id p hq
        rw [hq] at hv ⊢
        obtain ⟨off, u, k1, k2⟩ := VR_ptr hv
        exact ⟨hv.1, trivial, by rw [k2]; rfl⟩
      · rename_i hq
        rw [hq] at hv ⊢
        obtain ⟨k1, _⟩ := VR_con hv
        exact ⟨hv.1, trivial, by rw [k1]; rfl⟩
      · cases h1
    refine ⟨⟨_, _, by rw [List.map_cons, List.flatten_cons], key.1, g1⟩, ⟨key.2.1, g2⟩, fun v hv => ?_⟩
    rcases List.mem_cons.1 hv with rfl | hv
    · exact key.2.2
    · exact g3 v hv
theorem wf_opqs : ∀ n, WfT (opqs n) ∧ chain (opqs n)
  | 0 => ⟨trivial, trivial⟩
  | n + 1 => ⟨⟨trivial, (wf_opqs n).2, (wf_opqs n).1⟩, trivial⟩
theorem ex_buildSlice {t : TypeId} {len : Nat} {parts : Array (Nat × Operand)} (hE : EnvT E X.P) (R : RR X ρ s a w) (ho : o.op = .buildSlice t len parts) (h : av E s (opn s.fr) d (.buildSlice t len parts) C) :
    ∃ s' v z w' ρ', C s' v ∧ (execOp a.eval o).run X.P w = .ok (.value z) w' ∧ RR X ρ' s' a w' ∧ VR (cx X ρ' s'.hp w') v z ∧ (cls o = 2 → Below w.heap.size w w') := by
  simp only [av, clrK_eq, putbK_eq, frzK_eq] at h
  split at h
  · rename_i e te ht het
    obtain ⟨te', hu, hT⟩ := TyOk_sl (hE.tt t _ ht)
    have hu2 := hE.et t te het
    obtain rfl : te' = te := by rw [hu] at hu2; cases hu2; rfl
    have hW := TyOk.wf _ _ hT
    obtain ⟨i, i1, i2, i3, i4⟩ := hT.base
    split at h
    · rename_i xs hx
      obtain ⟨h1, hC⟩ := cond_elim h
      rw [Bool.and_eq_true, Bool.and_eq_true] at h1
      obtain ⟨⟨h1, h2⟩, h3⟩ := h1
      have h1 := of_decide_eq_true h1
      have h2 := Nat.le_of_ble_eq_true h2
      have h3 := Nat.le_of_ble_eq_true h3
      have h4 : len ≤ 65536 := Nat.le_trans (Nat.le_mul_of_pos_right len (by omega)) h2
      obtain ⟨hext, R1⟩ := R.freezes (owns.ownss (parts.toList.map fun p => opn s.fr p.2))
      have hfg : ∀ q, VR (cx X ρ (fzs s.hp (owns.ownss (parts.toList.map fun p => opn s.fr p.2))) w) (opn s.fr q) (a.eval q) := fun q => VR_opn R1 q
      have hpl : (parts.toList.map fun p => opn s.fr p.2) = (parts.toList.map (·.2)).map (opn s.fr) := by rw [List.map_map]; rfl
      rw [show packAll (fzs s.hp (owns.ownss (parts.toList.map fun p => opn s.fr p.2))) e (parts.toList.map fun p => opn s.fr p.2) = packAll (fzs s.hp (owns.ownss (parts.toList.map fun p => opn s.fr p.2))) e ((parts.toList.map (·.2)).map (opn s.fr)) by rw [← hpl]] at hx
      obtain ⟨g1, g2⟩ := packAll_enc R1 (opn s.fr) a.eval hfg _ xs hx
      have hlen : xs.length = len := by
        rw [g1, List.length_map]
        have := congrArg List.length h1
        simpa using this
      have hpe : (parts.map fun (i, x) => (i, a.eval x)).toList = (((parts.toList.map (·.2)).map a.eval).zipIdx 0).map fun x => (x.2, x.1) := by
        rw [Array.toList_map, List.map_map]
        have := zip_parts a.eval parts.toList 0 len (by rw [h1, List.range_eq_range'])
        exact this
      have hvl : ((parts.toList.map (·.2)).map a.eval).length = len := by rw [List.length_map, ← g1, hlen]
      have hcs : ∀ v ∈ (parts.toList.map (·.2)).map a.eval, v.cells.size = e.size := by
        have key : ∀ (l : List Operand) (ys : List e.den), packAll (fzs s.hp (owns.ownss (parts.toList.map fun p => opn s.fr p.2))) e (l.map (opn s.fr)) = some ys → ∀ v ∈ l.map a.eval, v.cells.size = e.size := by
          intro l
          induction l with
          | nil => intro ys _ v hv; simp at hv
          | cons q l ih =>
            intro ys hp v hv
            simp only [List.map_cons, packAll] at hp
            split at hp
            · rename_i y hy
              split at hp
              · rename_i zs hz
                simp only [List.map_cons, List.mem_cons] at hv
                rcases hv with rfl | hv
                · have := Enc_length _ _ _ (pack_cells R1 hy (hfg q))
                  simpa using this
                · exact ih zs hz v hv
              · cases hp
            · cases hp
        exact key _ _ hx
      -- the machine's row
      obtain ⟨cells, hrun, hsz, hcells⟩ := buildSlice_run (P := X.P) (w := w) (ev := a.eval) hu hT h1 h2 h3 hcs
      obtain ⟨R', hv⟩ := RR.newRow R1 d te' e xs cells w rfl R1.below hW len (by omega) (by have : maxLen = 9223372036854775807 := rfl; omega) (by omega) (fun h0 => by rw [← hlen, h0]; rfl) hsz (by
        rw [hcells, List.take_of_length_le]
        · exact g2
        · rw [EncL_length (fun x vs h => Enc_length e x vs h) xs _ g2]; exact Nat.le_refl _)
      rw [hlen] at hv
      refine ⟨_, _, .slice (some ⟨w.heap.size, 0, none⟩) len len, _, _, hC, ?_, R', hv, fun _ => (Below.refl _ _).alloc (Nat.le_refl _) _⟩
      simp only [execOp, ho, Sem.run_bind, hrun, Result.andThen_ok, Sem.run_pure]
    · obtain ⟨h0, h⟩ := cond_elim h
      obtain ⟨h1, hC⟩ := cond_elim h
      obtain rfl := of_decide_eq_true h0
      simp only [Bool.and_eq_true] at h1
      obtain ⟨⟨⟨h1, h2⟩, h3⟩, h4⟩ := h1
      have h1 := of_decide_eq_true h1
      have h2 := Nat.le_of_ble_eq_true h2
      have h3 := Nat.le_of_ble_eq_true h3
      have hpl : (parts.toList.map fun p => opn s.fr p.2) = (parts.toList.map (·.2)).map (opn s.fr) := by rw [List.map_map]; rfl
      have hpl0 : (parts.toList.map (·.2)).length = len := by
        rw [List.length_map]
        have := congrArg List.length h1
        simpa using this
      rw [hpl] at h4
      obtain ⟨g1, g2, g3⟩ := ptrs_cells (opn s.fr) a.eval (fun q => VR_opn R q) _ h4
      rw [hpl0] at g2
      obtain ⟨cells, hrun, hsz, hcells⟩ := buildSlice_run (P := X.P) (w := w) (ev := a.eval) hu hT h1 (by simp only [Ty.size]; omega) (by simp [Ty.size]) g3
      rw [hpl] at hC
      obtain ⟨hx, R'⟩ := R.fresh d (.var (opqs len) (.agg (kills d ((parts.toList.map (·.2)).map (opn s.fr)))) false) (.cells cells te') w rfl R.below (by
        intro c' hc hx hh
        refine ⟨?_, _, te', by subst hc; exact hh, CR_ext hx (.agg _) _ (kills_free d _) (CRs_kill _ d _ _ (by rw [hcells]; exact g1)), ?_, (wf_opqs len).1⟩
        · subst hc
          show X.base ≤ upd ρ d w.heap.size d
          rw [upd_same]; exact R.base_le
        · have := Shps_kill d _ _ g2
          match len, h2, this with
          | n + 1, _, this =>
            cases hl : kills d ((parts.toList.map (·.2)).map (opn s.fr)) with
            | nil => rw [hl] at this; exact this.elim
            | cons v l => rw [hl] at this; exact this)
      refine ⟨_, _, .slice (some ⟨w.heap.size, 0, none⟩) len len, _, _, hC, ?_, R', ?_, fun _ => (Below.refl _ _).alloc (Nat.le_refl _) _⟩
      · simp only [execOp, ho, Sem.run_bind, hrun, Result.andThen_ok, Sem.run_pure]
      · refine ⟨⟨⟨.agg (kills d ((parts.toList.map (·.2)).map (opn s.fr))), false, ?_⟩, h3, ?_⟩, rfl⟩
        · show lkb ((d, _) :: _) d = _
          rw [lkb_cons, if_pos rfl]
        · show [_] = [Value.slice (some ⟨upd ρ d w.heap.size d, 0, none⟩) len len]
          rw [upd_same]
  · exact h.elim
end
end Go.Proofs.YtejedlpnejjnbaaV
