/- The operations of the VC evaluator that write nothing, at the machine: addresses, loads, cuts, lengths, conversions. -/
import Derived.Test.YtejedlpnejjnbaaVcG
set_option linter.unusedVariables false
set_option linter.unusedSimpArgs false
namespace Go.Proofs.YtejedlpnejjnbaaV
open Go.RowKit

theorem run_fieldAt_ty {P : Program} {e : Ty} {t : TypeId} {i off : Nat} {u : Ty} (h : TyOk P e t) (hf : fldT e i = some (off, u)) (hu : u.size ≠ 0) (w : World) (b o : Nat) :
    (Instr.fieldAt t (.pointer (some ⟨b, o, none⟩)) i).run P w = .ok (.pointer (some ⟨b, o + off, none⟩)) w := by
  obtain ⟨fs, f, h1, h2, h3, h4⟩ := TyOk_at h hf
  simp [Instr.fieldAt, Sem.run_bind, run_underlying h1, h2, Instr.sureAddr, fieldPlace, run_sizeOf_ty h4, hu, Addr.add_mid, h3]

theorem cond_elim {b : Bool} {A : Prop} (h : cond b A False) : b = true ∧ A := by
  cases b with
  | true => exact ⟨rfl, h⟩
  | false => exact h.elim

section
variable {E : Env} {X : Fix} {ρ : Nat → Nat} {s : St} {a : Act} {w : World} {C : AV → Prop} {o : Oper}

theorem prj_cells {ok : Nat → Prop} {W : World} : ∀ (e : Ty) (x : e.den) (vs : List Value) (i : Nat) (r : Sigma Ty.den) (off : Nat) (u : Ty), Enc ok W e x vs → prj e x i = some r → fldT e i = some (off, u) →
    r.1 = u ∧ ∃ m : List Value, Enc ok W r.1 r.2 m ∧ m.length = r.1.size ∧ ∀ j, j < r.1.size → vs[off + j]? = m[j]?
  | .pair a b, x, vs, 0, r, off, u, h, hp, hf => by
    obtain ⟨p, q, rfl, h1, h2⟩ := h
    simp only [prj, Option.some.injEq] at hp
    simp only [fldT, Option.some.injEq, Prod.mk.injEq] at hf
    subst hp
    obtain ⟨rfl, rfl⟩ := hf
    have hl := Enc_length _ _ _ h1
    exact ⟨rfl, p, h1, hl, fun j hj => by rw [Nat.zero_add, List.getElem?_append_left (by rw [hl]; exact hj)]⟩
  | .pair a b, x, vs, i + 1, r, off, u, h, hp, hf => by
    obtain ⟨p, q, rfl, h1, h2⟩ := h
    have hl := Enc_length _ _ _ h1
    simp only [prj] at hp
    simp only [fldT] at hf
    split at hf
    · rename_i o' t' hf'
      simp only [Option.some.injEq, Prod.mk.injEq] at hf
      obtain ⟨rfl, rfl⟩ := hf
      obtain ⟨g1, m, g2, g3, g4⟩ := prj_cells b x.2 q i r o' _ h2 hp hf'
      refine ⟨g1, m, g2, g3, fun j hj => ?_⟩
      rw [List.getElem?_append_right (by omega), hl, show a.size + o' + j - a.size = o' + j by omega]
      exact g4 j hj
    · cases hf
  | .int _, _, _, _, _, _, _, _, hp, _ => by cases hp
  | .bool, _, _, _, _, _, _, _, hp, _ => by cases hp
  | .str, _, _, _, _, _, _, _, hp, _ => by cases hp
  | .unit, _, _, _, _, _, _, _, hp, _ => by cases hp
  | .sl _, _, _, _, _, _, _, _, hp, _ => by cases hp
  | .arr _ _, _, _, _, _, _, _, _, hp, _ => by cases hp
  | .opq _, _, _, _, _, _, _, h, _, _ => h.elim
theorem prj_fty : ∀ (e : Ty) (x : e.den) (i : Nat) (r : Sigma Ty.den), prj e x i = some r → ftyT e i = some r.1
  | .pair a b, x, 0, r, h => by simp only [prj, Option.some.injEq] at h; subst h; rfl
  | .pair a b, x, i + 1, r, h => prj_fty b x.2 i r h
  | .int _, _, _, _, h => by cases h
  | .bool, _, _, _, h => by cases h
  | .str, _, _, _, h => by cases h
  | .unit, _, _, _, h => by cases h
  | .sl _, _, _, _, h => by cases h
  | .arr _ _, _, _, _, h => by cases h
  | .opq _, _, _, _, h => by cases h

theorem ex_fieldAddr {t : TypeId} {x : Operand} {i : Nat} (hE : EnvT E X.P) (R : RR X ρ s a w) (ho : o.op = .fieldAddr t x i) (h : pv E s.hp (opn s.fr) (.fieldAddr t x i) C) :
    ∃ v z, C v ∧ Up X.P a o z w ∧ VR (cx X ρ s.hp w) v z := by
  simp only [pv] at h
  have hx := VR_opn R x
  generalize opn s.fr x = va at h hx
  split at h
  · rename_i id p e ht
    split at h
    · rename_i e' u h1 h2
      obtain ⟨h3, hC⟩ := cond_elim h
      rw [Bool.and_eq_true] at h3
      obtain rfl := of_decide_eq_true h3.1
      have hu : u.size ≠ 0 := by
        intro h0; rw [h0] at h3; simp at h3
      obtain ⟨off, t', k1, k2⟩ := VR_ptr hx
      have k3 : ptyB (lkb s.hp id) p = some t' := ptyB_of_pathB k1
      rw [h1] at k3; cases k3
      obtain ⟨o1, ho1⟩ := ftyT_fldT _ _ _ h2
      refine ⟨_, .pointer (some ⟨ρ id, off + o1, none⟩), hC, ?_, ⟨⟨off + o1, u, pathB_snoc k1 (by simp [pathT, ho1]), rfl⟩, rfl⟩⟩
      intro w' _
      simp only [execOp, ho, k2, Sem.run_bind]
      rw [show (cx X ρ s.hp w).ρ id = ρ id from rfl, run_fieldAt_ty (hE.tt t _ ht) ho1 hu]
      rfl
    · exact h.elim
  · rename_i e' y e ht
    split at h
    · rename_i u z hp
      obtain ⟨h3, hC⟩ := cond_elim h
      rw [Bool.and_eq_true] at h3
      obtain rfl := of_decide_eq_true h3.1
      have hu : u.size ≠ 0 := by
        intro h0; rw [h0] at h3; simp at h3
      obtain ⟨b, off, k2, k4, cs, k5, k6, k7⟩ := VR_rop hx
      obtain ⟨o1, ho1⟩ := ftyT_fldT _ _ _ (prj_fty _ _ _ _ hp)
      obtain ⟨_, m, g2, g3, g4⟩ := prj_cells _ _ _ _ _ _ _ k7 hp ho1
      refine ⟨_, .pointer (some ⟨b, off + o1, none⟩), hC, ?_, ⟨⟨b, off + o1, rfl, k4, m, g3, fun j hj => ?_, g2⟩, rfl⟩⟩
      · intro w' _
        simp only [execOp, ho, k2, Sem.run_bind]
        rw [run_fieldAt_ty (hE.tt t _ ht) ho1 hu]
        rfl
      · rw [← g4 j hj, Nat.add_assoc]
        refine k6 _ ?_
        rcases Nat.lt_or_ge (o1 + j) cs.length with hlt | hge
        · omega
        · have h3 := g4 j hj
          have hj : j < u.size := hj
          rw [List.getElem?_eq_none hge, List.getElem?_eq_getElem (by rw [g3]; exact hj)] at h3
          cases h3
    · exact h.elim
  · exact h.elim

theorem ex_field {t : TypeId} {x : Operand} {i : Nat} (hE : EnvT E X.P) (R : RR X ρ s a w) (ho : o.op = .field t x i) (h : pv E s.hp (opn s.fr) (.field t x i) C) :
    ∃ v z, C v ∧ Up X.P a o z w ∧ VR (cx X ρ s.hp w) v z := by
  simp only [pv] at h
  have hx := VR_opn R x
  generalize opn s.fr x = va at h hx
  split at h
  · rename_i l e ht
    split at h
    · rename_i v hv
      obtain ⟨h3, hC⟩ := cond_elim h
      obtain ⟨cs, k1, k2⟩ := VR_agg hx
      have hT := hE.tt t _ ht
      have hs := Shp_of_fits _ _ h3
      have hss : Shps e l := by
        cases e <;> cases l <;> first | exact hs | exact hs.elim
      have hf : ∃ off u, fldT e i = some (off, u) := by
        have : ∀ (e : Ty) (l : List AV) (i : Nat) (v : AV), Shps e l → l[i]? = some v → ∃ off u, fldT e i = some (off, u) := by
          intro e
          induction e with
          | pair p q _ ih =>
            intro l i v hs hv
            cases l with
            | nil => cases hv
            | cons y l =>
              cases i with
              | zero => exact ⟨0, p, rfl⟩
              | succ i =>
                obtain ⟨off, u, hu⟩ := ih l i v hs.2 (by simpa using hv)
                exact ⟨p.size + off, u, by simp [fldT, hu]⟩
          | unit =>
            intro l i v hs hv
            cases l with
            | nil => cases hv
            | cons y l => exact hs.elim
          | _ => intro l i v hs hv; cases l <;> first | exact hs.elim | cases hv
        exact this e l i v hss hv
      obtain ⟨off, u, hf⟩ := hf
      obtain ⟨g1, g2, m, g3, g4, g5⟩ := flds e l _ i off u v hss (TyOk.wf _ _ hT) k2 hf hv
      obtain ⟨fs, f, q1, q2, q3, q4⟩ := TyOk_at hT hf
      have hpart : ∀ w : World, (part f.type cs off).run X.P w = .ok (if aggTy u then .agg m.toArray else m.headD undef) w := by
        intro w
        cases ha : aggTy u with
        | true =>
          have : cs.extract off (off + u.size) = m.toArray := by
            apply Array.ext'
            rw [Array.toList_extract]
            refine List.ext_getElem? fun j => ?_
            simp only [List.extract_eq_take_drop, List.getElem?_take, List.getElem?_drop]
            by_cases hj : j < u.size
            · rw [if_pos (by omega), g5 j hj]
            · rw [if_neg (by omega), List.getElem?_eq_none (by omega)]
          simp [part, Sem.run_bind, run_isAgg_ty q4, ha, run_sizeOf_ty q4, this]
        | false =>
          have hs1 : u.size = 1 := by cases u <;> first | rfl | cases ha
          cases m with
          | nil => simp at g4; omega
          | cons y r =>
            have h0 := g5 0 (by omega)
            have h0 : cs[off]? = some y := by simpa using h0
            simp [part, Sem.run_bind, run_isAgg_ty q4, ha, h0]
      refine ⟨v, _, hC, ?_, VR_of_CR g1 g3⟩
      intro w' _
      simp only [execOp, ho, k1, Instr.field, Sem.run_bind, run_underlying q1, q2, q3, asAgg, Sem.run_pure, Result.andThen_ok, hpart]
    · exact h.elim
  · exact h.elim

theorem run_indexAt_slice {P : Program} {e : Ty} {t te : TypeId} (hu : P.underlying t = some (.slice te)) (hT : TyOk P e te) (w : World) (b off len cap : Nat) (k : IntKind) (i : Int) (h0 : 0 ≤ i) (h1 : i < len) :
    (Instr.indexAt t (.slice (some ⟨b, off, none⟩) len cap) (.int k i)).run P w = .ok (.pointer (some ⟨b, off + i.toNat * e.size, none⟩)) w := by
  simp [Instr.indexAt, asIntOf, Sem.run_bind, run_underlying hu, h0, h1, run_sizeOf_ty hT, Addr.add_mid]
theorem run_indexAt_arr {P : Program} {e : Ty} {t te : TypeId} {n : Nat} (hu : P.underlying t = some (.array n te)) (hT : TyOk P e te) (w : World) (b off : Nat) (k : IntKind) (i : Int) (h0 : 0 ≤ i) (h1 : i < n) :
    (Instr.indexAt t (.pointer (some ⟨b, off, none⟩)) (.int k i)).run P w = .ok (.pointer (some ⟨b, off + i.toNat * e.size, none⟩)) w := by
  simp [Instr.indexAt, asIntOf, Instr.sureAddr, Sem.run_bind, run_underlying hu, h0, h1, run_sizeOf_ty hT, Addr.add_mid]

theorem fldT_opqs : ∀ {m j : Nat}, j < m → fldT (opqs m) j = some (j, .opq 0)
  | m + 1, 0, _ => rfl
  | m + 1, j + 1, h => by
    show (match fldT (opqs m) j with | some (o, t) => some ((Ty.opq 0).size + o, t) | none => none) = _
    rw [fldT_opqs (Nat.lt_of_succ_lt_succ h)]
    simp [Ty.size]; omega
theorem TyOk_sl {P : Program} {e : Ty} {t : TypeId} (h : TyOk P (.sl e) t) : ∃ te, P.underlying t = some (.slice te) ∧ TyOk P e te := h.2
theorem TyOk_arr {P : Program} {e : Ty} {n : Nat} {t : TypeId} (h : TyOk P (.arr n e) t) : ∃ te, P.underlying t = some (.array n te) ∧ TyOk P e te := h.2

theorem ex_indexAddr {t : TypeId} {x y : Operand} (hE : EnvT E X.P) (R : RR X ρ s a w) (ho : o.op = .indexAddr t x y) (h : pv E s.hp (opn s.fr) (.indexAddr t x y) C) :
    ∃ v z, C v ∧ Up X.P a o z w ∧ VR (cx X ρ s.hp w) v z := by
  simp only [pv] at h
  have hx := VR_opn R x
  have hy := VR_opn R y
  generalize opn s.fr x = va at h hx
  generalize opn s.fr y = vb at h hy
  split at h
  · rename_i id k n
    obtain ⟨ey, wy⟩ := VR_int hy
    split at h
    · rename_i te0 e xs f e' hb ht
      obtain ⟨h3, hC⟩ := cond_elim h
      obtain rfl := of_decide_eq_true h3
      obtain ⟨⟨h0, h1⟩, hC⟩ := hC
      obtain ⟨te, hu, hT⟩ := TyOk_sl (hE.tt t _ ht)
      have hO := VR_own hx
      unfold OwnV at hO
      rw [show (cx X ρ s.hp w).hp = s.hp from rfl, hb] at hO
      obtain ⟨A, m, g1, g2, g3, g4, g5⟩ := hO
      have hne : xs ≠ [] := fun e => by subst e; simp at h1; omega
      obtain ⟨rfl, g6, g7⟩ := g5 hne
      have ex : a.eval x = .slice (some ⟨ρ id, 0, none⟩) xs.length m := by simpa [cx] using g1
      refine ⟨_, .pointer (some ⟨ρ id, 0 + n.toNat * e'.size, none⟩), hC, ?_, ⟨⟨n.toNat * e'.size, e', ?_, by simp [Value.cells]; rfl⟩, rfl⟩⟩
      · intro w' _
        simp only [execOp, ho, ex, ey, Sem.run_bind]
        rw [run_indexAt_slice hu hT w' _ _ _ _ k n h0 h1]; rfl
      · show pathB (lkb s.hp id) [.at n] = _
        rw [hb]; simp [pathB, pathT, h0, h1]
    · exact h.elim
  · rename_i e xs k n
    obtain ⟨ey, wy⟩ := VR_int hy
    split at h
    · rename_i e' ht
      obtain ⟨h3, hC⟩ := cond_elim h
      obtain rfl := of_decide_eq_true h3
      obtain ⟨⟨h0, h1⟩, hC⟩ := hC
      obtain ⟨te, hu, hT⟩ := TyOk_sl (hE.tt t _ ht)
      obtain ⟨A, m, ex, hs⟩ := VR_ro hx
      have hne : xs ≠ [] := fun e => by subst e; simp at h1; omega
      obtain ⟨b, off, rfl, hb, hc⟩ := hs.2.2.2.2 hne
      have hi : n.toNat < xs.length := by omega
      obtain ⟨cs, q1, q2, q3⟩ := hc n.toNat hi
      have hxe : xs.getD n.toNat e'.dfl = xs[n.toNat] := by simp [List.getD_eq_getElem?_getD, List.getElem?_eq_getElem hi]
      rw [hxe] at hC
      refine ⟨_, .pointer (some ⟨b, off + n.toNat * e'.size, none⟩), hC, ?_, ⟨⟨b, _, rfl, hb, cs, q1, q2, q3⟩, rfl⟩⟩
      intro w' _
      simp only [execOp, ho, ex, ey, Sem.run_bind]
      rw [run_indexAt_slice hu hT w' _ _ _ _ k n h0 h1]; rfl
    · exact h.elim
  · rename_i id p k n
    obtain ⟨ey, wy⟩ := VR_int hy
    split at h
    · rename_i m e e' ht hp
      obtain ⟨h3, hC⟩ := cond_elim h
      obtain rfl := of_decide_eq_true h3
      obtain ⟨⟨h0, h1⟩, hC⟩ := hC
      obtain ⟨te, hu, hT⟩ := TyOk_arr (hE.tt t _ ht)
      obtain ⟨off, t', k1, k2⟩ := VR_ptr hx
      have k3 : ptyB (lkb s.hp id) p = some t' := ptyB_of_pathB k1
      rw [hp] at k3; cases k3
      refine ⟨_, .pointer (some ⟨ρ id, off + n.toNat * e.size, none⟩), hC, ?_, ⟨⟨off + n.toNat * e.size, e, pathB_snoc k1 (by simp [pathT, h0, h1]), rfl⟩, rfl⟩⟩
      intro w' _
      simp only [execOp, ho, k2, ey, Sem.run_bind]
      rw [show (cx X ρ s.hp w).ρ id = ρ id from rfl, run_indexAt_arr hu hT w' _ _ k n h0 h1]; rfl
    · exact h.elim
  · rename_i m e xs k n
    obtain ⟨ey, wy⟩ := VR_int hy
    split at h
    · rename_i e' ht
      obtain ⟨h3, hC⟩ := cond_elim h
      obtain rfl := of_decide_eq_true h3
      obtain ⟨⟨h0, h1⟩, hC⟩ := hC
      obtain ⟨te, hu, hT⟩ := TyOk_arr (hE.tt t _ ht)
      obtain ⟨b, off, k2, k4, cs, k5, k6, k7⟩ := VR_rop hx
      obtain ⟨hn, hEn⟩ := k7
      have hi : n.toNat < xs.length := by omega
      obtain ⟨l, q1, q2, q3⟩ := EncL_at (fun x vs h => Enc_length e x vs h) xs cs hEn n.toNat hi
      have hxe : xs.getD n.toNat e.dfl = xs[n.toNat] := by simp [List.getD_eq_getElem?_getD, List.getElem?_eq_getElem hi]
      rw [hxe] at hC
      refine ⟨_, .pointer (some ⟨b, off + n.toNat * e.size, none⟩), hC, ?_, ⟨⟨b, _, rfl, k4, l, q2, fun j hj => ?_, q1⟩, rfl⟩⟩
      · intro w' _
        simp only [execOp, ho, k2, ey, Sem.run_bind]
        rw [run_indexAt_arr hu hT w' _ _ k n h0 h1]; rfl
      · rw [← q3 j hj, Nat.add_assoc]
        refine k6 _ ?_
        show _ < m * e.size
        have : n.toNat * e.size + e.size ≤ m * e.size := by rw [← Nat.succ_mul]; exact Nat.mul_le_mul_right _ (by omega)
        omega
    · exact h.elim
  · rename_i id m k n
    obtain ⟨ey, wy⟩ := VR_int hy
    split at h
    · rename_i e0 v0 f0 e' hb ht
      obtain ⟨h3, hC⟩ := cond_elim h
      rw [Bool.and_eq_true] at h3
      obtain rfl := of_decide_eq_true h3.1
      obtain rfl := of_decide_eq_true h3.2
      obtain ⟨j, hj, hC2⟩ := natLit_out hC
      subst hj
      obtain ⟨h1, hC⟩ := cond_elim hC2
      have h1 : j < m := Nat.le_of_ble_eq_true h1
      obtain ⟨te, hu, hT⟩ := TyOk_sl (hE.tt t _ ht)
      obtain ⟨_, _, ex⟩ := VR_vsl hx
      refine ⟨_, .pointer (some ⟨ρ id, 0 + (j : Int).toNat * (Ty.opq 0).size, none⟩), hC, ?_, ⟨⟨j, .opq 0, ?_, by simp [Value.cells, Ty.size]; rfl⟩, rfl⟩⟩
      · intro w' _
        simp only [execOp, ho, ex, ey, Sem.run_bind]
        rw [show (cx X ρ s.hp w).ρ id = ρ id from rfl, run_indexAt_slice hu hT w' _ _ _ _ k (j : Int) (by omega) (by omega)]; rfl
      · show pathB (lkb s.hp id) [.fld j] = _
        rw [hb]; simp [pathB, pathT, fldT_opqs h1]
    · exact h.elim
  · exact h.elim

theorem byte_wf (b : UInt8) : (Lit.int .u8 (b.toNat : Int)).wf = true := by
  have := b.toNat_lt
  simp [Lit.wf, IntKind.min, IntKind.max, IntKind.signed, IntKind.bits]; omega

theorem ex_index {t : TypeId} {x y : Operand} (hE : EnvT E X.P) (R : RR X ρ s a w) (ho : o.op = .index t x y) (h : pv E s.hp (opn s.fr) (.index t x y) C) :
    ∃ v z, C v ∧ Up X.P a o z w ∧ VR (cx X ρ s.hp w) v z := by
  simp only [pv] at h
  have hx := VR_opn R x
  have hy := VR_opn R y
  generalize opn s.fr x = va at h hx
  generalize opn s.fr y = vb at h hy
  split at h
  · rename_i str k n
    obtain ⟨ey, wy⟩ := VR_int hy
    obtain ⟨ex, wx⟩ := VR_str hx
    obtain ⟨h3, hC⟩ := cond_elim h
    obtain ⟨⟨h0, h1⟩, hC⟩ := hC
    split at h3
    · rename_i ht
      have hu := (hE.tt t _ ht).2
      have hi : n.toNat < str.data.size := by have : str.size = str.data.size := rfl; omega
      have hg : str.data.toList.getD n.toNat 0 = str.data[n.toNat] := by
        simp [List.getD_eq_getElem?_getD, List.getElem?_eq_getElem (show n.toNat < str.data.toList.length by simpa using hi)]
      rw [hg] at hC
      refine ⟨_, .int .u8 (str.data[n.toNat].toNat : Int), hC, ?_, mkVR_int (byte_wf _)⟩
      have hb : str[n.toNat]? = some str.data[n.toNat] := by
        have hi' : n.toNat < str.size := hi
        rw [getElem?_pos str n.toNat hi']; rfl
      intro w' _
      simp [execOp, ho, ex, ey, Instr.index, asIntOf, Sem.run_bind, run_underlying hu, h0, hb]
    · cases h3
  · rename_i m e xs k n
    obtain ⟨ey, wy⟩ := VR_int hy
    split at h
    · rename_i e' ht
      obtain ⟨h3, hC⟩ := cond_elim h
      obtain rfl := of_decide_eq_true h3
      obtain ⟨⟨h0, h1⟩, hC⟩ := hC
      have hTT := hE.tt t _ ht
      obtain ⟨te, hu, hT⟩ := TyOk_arr hTT
      have hW : WfT e := TyOk.wf _ _ hT
      obtain ⟨cs, ex, hn, hEn⟩ := VR_arr hx
      have hi : n.toNat < xs.length := by omega
      obtain ⟨l, q1, q2, q3⟩ := EncL_at (fun x vs h => Enc_length e x vs h) xs _ hEn n.toNat hi
      have hxe : xs.getD n.toNat e.dfl = xs[n.toNat] := by simp [List.getD_eq_getElem?_getD, List.getElem?_eq_getElem hi]
      rw [hxe] at hC
      have hpart : ∀ w : World, (part te cs (n.toNat * e.size)).run X.P w = .ok (if aggTy e then .agg l.toArray else l.headD undef) w := by
        intro w
        cases ha : aggTy e with
        | true =>
          have : cs.extract (n.toNat * e.size) (n.toNat * e.size + e.size) = l.toArray := by
            apply Array.ext'
            rw [Array.toList_extract]
            refine List.ext_getElem? fun j => ?_
            simp only [List.extract_eq_take_drop, List.getElem?_take, List.getElem?_drop]
            by_cases hj : j < e.size
            · rw [if_pos (by omega), q3 j hj]
            · rw [if_neg (by omega), List.getElem?_eq_none (by omega)]
          simp [part, Sem.run_bind, run_isAgg_ty hT, ha, run_sizeOf_ty hT, this]
        | false =>
          have hs1 : e.size = 1 := by cases e <;> first | rfl | cases ha
          cases l with
          | nil => simp at q2; omega
          | cons y r =>
            have h0 := q3 0 (by omega)
            have h0 : cs[n.toNat * e.size]? = some y := by simpa using h0
            simp [part, Sem.run_bind, run_isAgg_ty hT, ha, h0]
      refine ⟨_, _, hC, ?_, VR_of_CR (Shp_unpack e _ hW) (CR_unpack _ e _ l hW q1)⟩
      intro w' _
      simp only [execOp, ho, ex, ey, Instr.index, asIntOf, Sem.run_bind, Sem.run_pure, Result.andThen_ok, run_underlying hu]
      rw [if_pos ⟨h0, h1⟩]
      simp only [Sem.run_bind, run_sizeOf_ty hT, Result.andThen_ok, hpart, Sem.run_pure]
    · exact h.elim
  · exact h.elim
end
end Go.Proofs.YtejedlpnejjnbaaV
