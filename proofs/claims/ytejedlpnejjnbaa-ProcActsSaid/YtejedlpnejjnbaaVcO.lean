/- What is appended. -/
import Derived.Test.YtejedlpnejjnbaaVcN
set_option linter.unusedVariables false
set_option linter.unusedSimpArgs false
namespace Go.Proofs.YtejedlpnejjnbaaV
open Go.RowKit

theorem run_append_none {P : Program} (w : World) (t tx ty e : TypeId) (i : TypeInfo) (ht : P.underlying t = some (.slice e)) (hi : P.info? e = some i) (A : Option Addr) (sLen sCap : Nat) (x : Value)
    (hs : Src P i.size tx x 0 [] w) (h : sLen ≤ sCap) : (Builtin.append_ #[t, tx] ty #[.slice A sLen sCap, x]).run P w = .ok (.slice A sLen sCap) w := by
  rcases hs.kind with ⟨e', hk⟩ | hk <;> cases A <;> simp [Builtin.append_, run_underlying ht, run_underlying hk, sizeOf, typeInfo, hi, hs.len, hs.cells, h, storeCells]

section
variable {E : Env} {X : Fix} {ρ : Nat → Nat} {s : St} {a : Act} {w : World} {C : St → AV → Prop} {o : Oper} {d : Nat}

theorem rowOf_cells (R : RR X ρ s a w) {e : Ty} {v : AV} {ys : List e.den} {x : Value} (h : rowOf s.hp e v = some ys) (hv : VR (cx X ρ s.hp w) v x) :
    ∃ A c, x = .slice A ys.length c ∧ (ys = [] → A = none → c = 0) ∧ ∃ news : List Value, EncL (Enc (okC X ρ s.hp w) w e) ys news ∧ news.length = ys.length * e.size ∧
      (ys ≠ [] → ∃ b o, A = some ⟨b, o, none⟩ ∧ ∀ j, j < news.length → w.cell? ⟨b, o + j, none⟩ = news[j]?) := by
  cases v with
  | ro e' xs =>
    simp only [rowOf] at h
    split at h
    · rename_i he; subst he
      cases h
      obtain ⟨A, n, ex, s1, s2, s3, s4, s5⟩ := VR_ro hv
      refine ⟨A, n, ex, s4, ?_⟩
      by_cases hne : xs = []
      · subst hne; exact ⟨[], rfl, by simp [castL_eq], fun h => absurd rfl h⟩
      · obtain ⟨b, o, hA, hb, hc⟩ := s5 hne
        obtain ⟨vs, g1, g2, g3⟩ := EncL_of (m := e'.size) (E := Enc (okC X ρ s.hp w) w e') xs (fun k => w.cell? ⟨b, o + k, none⟩) (fun i hi => by
          obtain ⟨cs, k1, k2, k3⟩ := hc i hi
          exact ⟨cs, k1, fun j hj => by rw [← k2 j hj, Nat.add_assoc]; rfl, k3⟩)
        exact ⟨vs, g1, g2, fun _ => ⟨b, o, hA, g3⟩⟩
    · cases h
  | con u =>
    have hu : u = .slice none 0 0 ∧ ys = [] := by
      cases u with
      | slice A n c =>
        cases A with
        | some A => simp [rowOf] at h
        | none => cases n with
          | succ n => simp [rowOf] at h
          | zero => cases c with
            | succ c => simp [rowOf] at h
            | zero => simp only [rowOf, Option.some.injEq] at h; exact ⟨rfl, h.symm⟩
      | _ => simp [rowOf] at h
    obtain ⟨rfl, rfl⟩ := hu
    obtain ⟨ex, _⟩ := VR_con hv
    exact ⟨none, 0, ex, fun _ _ => rfl, [], rfl, by simp, fun h => absurd rfl h⟩
  | own id =>
    simp only [rowOf] at h
    split at h
    · rename_i te e' xs f hb
      split at h
      · rename_i he; subst he
        cases h
        have hO := VR_own hv
        unfold OwnV at hO
        rw [show (cx X ρ s.hp w).hp = s.hp from rfl, hb] at hO
        obtain ⟨A, m, g1, g2, g2', g3, g4⟩ := hO
        refine ⟨A, m, by simpa [castL_eq] using g1, fun h _ => g3 h, ?_⟩
        by_cases hne : xs = []
        · subst hne; exact ⟨[], rfl, by simp [castL_eq], fun h => absurd rfl h⟩
        · have hh := R.heap id
          rw [hb] at hh
          obtain ⟨_, hh⟩ := hh
          obtain ⟨q1, cs, q2, q3, q4⟩ := hh hne
          have q2 : w.heap[ρ id]? = some (.cells cs te (0, 0)) := q2
          refine ⟨_, q4, by rw [List.length_take, castL_eq]; have : cs.toList.length = cs.size := Array.length_toList; omega, fun _ => ⟨ρ id, 0, (g4 hne).1, fun j hj => ?_⟩⟩
          rw [cell_of_block q2, List.getElem?_take, if_pos (by rw [List.length_take] at hj; omega)]
          simp
      · cases h
    · cases h
  | _ => simp [rowOf] at h

theorem rowOf_src (R : RR X ρ s a w) {e : Ty} {v : AV} {ys : List e.den} {x : Value} (h : rowOf s.hp e v = some ys) (hv : VR (cx X ρ s.hp w) v x) {tx te' : TypeId} (hk : X.P.underlying tx = some (.slice te')) :
    ∃ news : List Value, EncL (Enc (okC X ρ s.hp w) w e) ys news ∧ news.length = ys.length * e.size ∧ Src X.P e.size tx x ys.length news w := by
  obtain ⟨A, c, rfl, h1, news, h2, h3, h4⟩ := rowOf_cells R h hv
  refine ⟨news, h2, h3, ?_⟩
  by_cases hne : ys = []
  · subst hne
    obtain rfl : news = [] := h2
    cases A with
    | none => exact Src.ofNil w hk c
    | some q => exact Src.ofSlice w hk q 0 c [] (by simp) (fun j u hj => by simp at hj) (fun u hu => by simp at hu)
  · obtain ⟨b, o, rfl, h5⟩ := h4 hne
    refine Src.ofSlice w hk ⟨b, o, none⟩ _ c news h3 (fun j u hj => ?_) (EncL_one ys news h2)
    have hlt : j < news.length := by
      rcases Nat.lt_or_ge j news.length with h | h
      · exact h
      · rw [List.getElem?_eq_none h] at hj; cases hj
    rw [Addr.add_mid, h5 j hlt]; exact hj

theorem grow_size {e : Ty} {l : List Value} {n m : Nat} (hl : l.length = n * e.size) (hm : n ≤ m) : (l.toArray ++ Builtin.zeroCells (zval e).cells (m - n)).size = m * e.size := by
  have : (Builtin.zeroCells (zval e).cells (m - n)).size = (m - n) * e.size := by
    unfold Builtin.zeroCells
    rw [Array.size_map, Array.size_range, zval_cells]
    simp [zcs_length]
  rw [Array.size_append, this]
  have : l.toArray.size = n * e.size := by simpa using hl
  rw [this, ← Nat.add_mul]
  congr 1; omega

theorem ofVal_own (v : Value) (id : Nat) (h : ofVal v = .own id) : False := by
  unfold ofVal at h
  split at h
  · cases h
  · rename_i k n
    cases hw : (Lit.int k n).wf <;> rw [hw] at h <;> cases h
  · rename_i s
    cases hw : Nat.ble s.size 9223372036854775807 <;> rw [hw] at h <;> cases h
  · cases h
  · cases h
  · cases h
  · cases h
theorem ex_append {c : Call} (hE : EnvT E X.P) (R : RR X ρ s a w) (ho : o.op = .call c) (hc : c.callee = .builtin .append) (h : av E s (opn s.fr) d (.call c) C) :
    ∃ s' v z w' ρ', C s' v ∧ (execOp a.eval o).run X.P w = .ok (.value z) w' ∧ RR X ρ' s' a w' ∧ VR (cx X ρ' s'.hp w') v z ∧ (cls o = 2 → Below w.heap.size w w') := by
  simp only [av, clrK_eq, putbK_eq, frzK_eq] at h
  split at h
  · rename_i x y t t2 hcc hargs htys
    have hx := VR_opn R x
    have hy := VR_opn R y
    have hargs' : c.args.map a.eval = #[a.eval x, a.eval y] := by
      have : c.args = #[x, y] := by apply Array.ext'; simpa using hargs
      simp [this]
    have htys' : c.argTypes = #[t, t2] := by apply Array.ext'; simpa using htys
    have key : ∀ z w', (Builtin.append_ #[t, t2] o.type #[a.eval x, a.eval y]).run X.P w = .ok z w' → (execOp a.eval o).run X.P w = .ok (.value z) w' := by
      intro z w' hz
      simp only [execOp, ho, resolve, hc, invoke, builtin, Sem.run_bind, Sem.run_pure, Result.andThen_ok, htys', hargs', hz]
    have hcl : cls o = 2 → ∀ id, opn s.fr x ≠ .own id := by
      intro h2 id he
      unfold cls at h2
      rw [ho] at h2
      simp only [hc, hargs] at h2
      cases x with
      | const v => exact ofVal_own v id he
      | _ => simp at h2
    generalize opn s.fr x = va at h hx hcl
    generalize opn s.fr y = vb at h hy
    have hm : maxLen = 9223372036854775807 := rfl
    split at h
    · rename_i e te e2 ht het ht2
      split at h
      · rename_i ys hys
        obtain ⟨h1, h⟩ := cond_elim h
        rw [Bool.and_eq_true] at h1
        obtain ⟨h1, h3⟩ := h1
        have h3 := Nat.le_of_ble_eq_true h3
        obtain ⟨te', hu, hT⟩ := TyOk_sl (hE.tt t _ ht)
        have hu2 := hE.et t te het
        obtain rfl : te' = te := by rw [hu] at hu2; cases hu2; rfl
        obtain ⟨te2, hu3, _⟩ := TyOk_sl (hE.tt t2 _ ht2)
        have hW := TyOk.wf _ _ hT
        obtain ⟨i, i1, i2, i3, i4⟩ := hT.base
        obtain ⟨news, n1, n2, n3⟩ := rowOf_src R hys hy hu3
        have n3' : Src X.P i.size t2 (a.eval y) ys.length news w := by rw [i2]; exact n3
        have hfit : ∀ k old, old < k → k ≤ 4294967296 → Builtin.nextslicecap k old * i.bytes ≤ 281474976710656 := by
          intro k old hlt hk
          have h1 := nextslicecap_le hlt
          have : Builtin.nextslicecap k old * i.bytes ≤ 8589934592 * 32768 := Nat.mul_le_mul (by omega) i4
          omega
        split at h
        · -- onto nil
          obtain ⟨h4, hC⟩ := h
          obtain ⟨ex, _⟩ := VR_con hx
          by_cases hne : ys = []
          · subst hne
            obtain rfl : news = [] := n1
            have hr := run_append_none w t t2 o.type te' i hu i1 none 0 0 (a.eval y) n3' (Nat.le_refl _)
            obtain ⟨hx', R'⟩ := RR.turnC (ρ' := ρ) (w' := w) R d (.row te' e [] false) (fun _ _ => rfl) R.below (Nat.le_refl _) (fun _ _ _ => rfl) (fun hl => absurd rfl hl) (fun hl => absurd rfl hl) (fun c' _ _ => ⟨hW, fun hl => absurd rfl hl⟩)
            refine ⟨_, _, _, _, _, hC, key _ _ (by rw [ex]; exact hr), R', ?_, fun _ => Below.refl _ _⟩
            exact VR_own_of (xs := ([] : List e.den)) (show lkb ((d, Blk.row te' e [] false) :: (s.clr d).hp) d = .row te' e [] false by rw [lkb_cons, if_pos rfl]) (Nat.zero_le _) (Nat.zero_le _) (fun _ => rfl) (fun hl => absurd rfl hl)
          · have hpos : 0 < ys.length := by cases ys with | nil => exact absurd rfl hne | cons _ _ => simp
            have hr := run_append_grow_src (P := X.P) w t t2 o.type te' i (zval e) hu i1 i3 none 0 0 [] (run_firstCells_none _ _ _ _ _) (a.eval y) ys.length news n3' (by omega) (by omega) (hfit _ _ (by omega) (by omega))
            simp only [Nat.zero_add, List.nil_append] at hr
            have hge := grownCap_ge w ys.length 0 te'
            obtain ⟨R', hv⟩ := RR.newRow R d te' e ys (news.toArray ++ Builtin.zeroCells (zval e).cells (grownCap w ys.length 0 te' - ys.length)) w.drew rfl R.below.drew hW (grownCap w ys.length 0 te') hge
              (grownCap_le_maxLen w _ _ _ (by omega)) (by omega) (fun h0 => absurd h0 hne) (grow_size n2 hge) (by
                rw [Array.toList_append, List.take_append_of_le_length (by simp [n2]), List.take_of_length_le (by simp [n2])]
                exact n1)
            exact ⟨_, _, _, _, _, hC, key _ _ (by rw [ex]; exact hr), R', hv, fun _ => (Below.refl _ _).drew.alloc (Nat.le_refl _) _⟩
        · -- onto a row of its own
          rename_i id _
          split at h
          · rename_i te2' e' xs hb
            split at h
            · rename_i zs hzs
              obtain ⟨h5, h4, hC⟩ := cond_elim h
              obtain rfl := Nat.eq_of_beq_eq_true h5
              simp only [rowOf, hb] at hzs
              split at hzs
              · rename_i he; subst he
                cases hzs
                simp only [castL_eq] at h4 hC
                have hO := VR_own hx
                unfold OwnV at hO
                rw [show (cx X ρ s.hp w).hp = s.hp from rfl, hb] at hO
                obtain ⟨A, m, g1, g2, g2', g3, g4⟩ := hO
                have ex : a.eval x = .slice A xs.length m := by simpa using g1
                have hlm : xs.length ≤ m := by
                  by_cases hx : xs = []
                  · subst hx; simp
                  · exact (g4 hx).2.1
                have hlk : lkb ((id, Blk.row te2' e' (xs ++ ys) false) :: (s.clr id).hp) id = .row te2' e' (xs ++ ys) false := by rw [lkb_cons, if_pos rfl]
                by_cases hne : ys = []
                · subst hne
                  obtain rfl : news = [] := n1
                  have hr := run_append_none w t t2 o.type te2' i hu i1 A xs.length m (a.eval y) n3' hlm
                  obtain ⟨hx', R'⟩ := RR.turnC (ρ' := ρ) (w' := w) R id (.row te2' e' (xs ++ []) false) (fun _ _ => rfl) R.below (Nat.le_refl _) (fun _ _ _ => rfl)
                    (fun hl => .inl ⟨rfl, by rw [hb]; simpa [live, liveW] using hl⟩) (fun hl => (R.lt (by rw [hb]; simpa [live] using hl)).2) (fun c' hc hx' => by
                      have hh := R.heap id
                      rw [hb] at hh
                      refine ⟨hW, fun hl => ?_⟩
                      obtain ⟨q1, cs, q2, q3, q4⟩ := hh.2 (by simpa using hl)
                      refine ⟨by subst hc; exact q1, cs, by subst hc; exact q2, by simpa using q3, ?_⟩
                      rw [List.append_nil]
                      exact EncL_mono (fun x vs h => Enc_mono hx'.ok e' x vs h) _ _ q4)
                  refine ⟨_, _, _, _, _, hC, key _ _ (by rw [ex]; exact hr), R', ?_, fun h2 => absurd rfl (hcl h2 _)⟩
                  have := VR_own_of (c := cx X ρ ((id, Blk.row te2' e' (xs ++ []) false) :: (s.clr id).hp) w) (A := A) (n := m) hlk (by omega) (by simpa using g2') (fun h0 => g3 (by simpa using h0)) (fun hl => by
                    obtain ⟨k1, k2, k3⟩ := g4 (by simpa using hl)
                    exact ⟨k1, by simpa using k2, k3⟩)
                  rw [List.length_append, List.length_nil, Nat.add_zero] at this
                  exact this
                · have hpos : 0 < ys.length := by cases ys with | nil => exact absurd rfl hne | cons _ _ => simp
                  have hne2 : xs ++ ys ≠ [] := by simp [hne]
                  by_cases hroom : xs.length + ys.length ≤ m
                  · -- there is room
                    have hxn : xs ≠ [] := fun h0 => by have := g3 h0; omega
                    obtain ⟨k1, k2, k3⟩ := g4 hxn
                    have hh := R.heap id
                    rw [hb] at hh
                    obtain ⟨q1, cs, q2, q3, q4⟩ := hh.2 hxn
                    have q2 : w.heap[ρ id]? = some (.cells cs te2' (0, 0)) := q2
                    have k3 : cellsN w (ρ id) = m * e'.size := k3
                    have q4 : EncL (Enc (okC X ρ s.hp w) w e') xs (cs.toList.take (xs.length * e'.size)) := q4
                    have hcs : cs.size = m * e'.size := by rw [← cellsN_of q2, k3]
                    have hsz : xs.length * e'.size + news.length ≤ cs.size := by
                      rw [hcs, n2, ← Nat.add_mul]; exact Nat.mul_le_mul_right _ hroom
                    have hr := run_append_room_src (P := X.P) w t t2 o.type te2' i hu i1 (ρ id) 0 xs.length m (a.eval y) ys.length news n3' hroom
                      (fun j hj => by
                        rw [cell_of_block q2, i2, Array.getElem?_eq_getElem (by omega)]; rfl)
                      (fun j hj => by simp [World.frozen?, q2])
                    rw [i2, Nat.zero_add] at hr
                    have hA : (cs.toList.take (xs.length * e'.size)).length = xs.length * e'.size := by rw [List.length_take]; simp; omega
                    have hse := setCells_eq news ((cs.toList.drop (xs.length * e'.size)).take news.length) (cs.toList.take (xs.length * e'.size)) ((cs.toList.drop (xs.length * e'.size)).drop news.length) w cs q2
                      (by rw [List.append_assoc, List.take_append_drop, List.take_append_drop]) (by rw [List.length_take, List.length_drop]; simp; omega)
                    rw [hA] at hse
                    rw [hse] at hr
                    have hsz2 : (cs.toList.take (xs.length * e'.size) ++ news ++ (cs.toList.drop (xs.length * e'.size)).drop news.length).toArray.size = cs.size := by
                      simp; omega
                    obtain ⟨hx', R'⟩ := RR.turnC (ρ' := ρ) (w' := w.setRow (ρ id) (cs.toList.take (xs.length * e'.size) ++ news ++ (cs.toList.drop (xs.length * e'.size)).drop news.length).toArray) R id (.row te2' e' (xs ++ ys) false) (fun _ _ => rfl)
                      (Below_setRow R.below q1 _) (by rw [setRow_size]; exact Nat.le_refl _) (fun k _ hk => setRow_other w _ k _ (hk id rfl (by rw [hb]; exact hxn)))
                      (fun hl => .inl ⟨rfl, by rw [hb]; exact hxn⟩) (fun hl => by rw [setRow_size]; exact (R.lt (by rw [hb]; exact hxn)).2) (fun c' hc hx' => by
                        refine ⟨hW, fun hl => ⟨by subst hc; exact q1, _, by subst hc; exact setRow_heap w _ cs _ te2' (0, 0) q2, by rw [hsz2, List.length_append, Nat.add_mul, ← n2]; omega, ?_⟩⟩
                        have : ((cs.toList.take (xs.length * e'.size) ++ news ++ (cs.toList.drop (xs.length * e'.size)).drop news.length).toArray.toList.take ((xs ++ ys).length * e'.size)) = cs.toList.take (xs.length * e'.size) ++ news := by
                          rw [List.length_append, Nat.add_mul, ← n2]
                          rw [List.take_append_of_le_length (by rw [List.length_append, hA]; omega), List.take_of_length_le (by rw [List.length_append, hA]; omega)]
                        rw [this]
                        exact EncL_append _ _ _ _ (EncL_mono (fun x vs h => Enc_mono hx'.ok e' x vs h) _ _ q4) (EncL_mono (fun x vs h => Enc_mono hx'.ok e' x vs h) _ _ n1))
                    refine ⟨_, _, _, _, _, hC, key _ _ (by rw [ex, k1]; exact hr), R', ?_, fun h2 => absurd rfl (hcl h2 _)⟩
                    have := VR_own_of (c := cx X ρ ((id, Blk.row te2' e' (xs ++ ys) false) :: (s.clr id).hp) (w.setRow (ρ id) (cs.toList.take (xs.length * e'.size) ++ news ++ (cs.toList.drop (xs.length * e'.size)).drop news.length).toArray)) (A := some ⟨ρ id, 0, none⟩) (n := m) hlk (by omega) (by rw [List.length_append]; omega) (fun h0 => absurd h0 hne2) (fun hl => ⟨rfl, by rw [List.length_append]; exact hroom, by
                      show cellsN (w.setRow _ _) (ρ id) = _
                      rw [cellsN_of (setRow_heap w _ cs _ te2' (0, 0) q2), hsz2, hcs]⟩)
                    rw [List.length_append] at this
                    exact this
                  · -- there is none
                    obtain ⟨olds, hold, hol, hoE⟩ : ∃ olds : List Value, (Builtin.firstCells i.size xs.length (.slice A xs.length m)).run X.P w.drew = .ok olds.toArray w.drew ∧ olds.length = xs.length * e'.size ∧ EncL (Enc (okC X ρ s.hp w) w e') xs olds := by
                      have hrow : rowOf s.hp e' (.own id) = some xs := by simp [rowOf, hb, castL_eq]
                      rw [ex] at hx
                      obtain ⟨olds, o1, o2, o3⟩ := rowOf_src R hrow hx hu
                      exact ⟨olds, by rw [i2]; exact o3.cellsD, o2, o1⟩
                    have hr := run_append_grow_src (P := X.P) w t t2 o.type te2' i (zval e') hu i1 i3 A xs.length m olds hold (a.eval y) ys.length news n3' (by omega) (by omega) (hfit _ _ (by omega) h4)
                    have hge := grownCap_ge w (xs.length + ys.length) m te2'
                    have hll : (olds ++ news).length = (xs.length + ys.length) * e'.size := by rw [List.length_append, hol, n2, Nat.add_mul]
                    obtain ⟨R', hv⟩ := RR.newRow R id te2' e' (xs ++ ys) ((olds ++ news).toArray ++ Builtin.zeroCells (zval e').cells (grownCap w (xs.length + ys.length) m te2' - (xs.length + ys.length))) w.drew rfl R.below.drew hW (grownCap w (xs.length + ys.length) m te2') (by rw [List.length_append]; exact hge)
                      (grownCap_le_maxLen w _ _ _ (by omega)) (by rw [List.length_append]; omega) (fun h0 => absurd h0 hne2) (grow_size hll hge) (by
                        rw [Array.toList_append, List.length_append, ← hll, List.take_append_of_le_length (by simp), List.take_of_length_le (by simp)]
                        exact EncL_append _ _ _ _ hoE n1)
                    rw [List.length_append] at hv
                    exact ⟨_, _, _, _, _, hC, key _ _ (by rw [ex]; exact hr), R', hv, fun h2 => absurd rfl (hcl h2 _)⟩
              · cases hzs
            · exact h.elim
          · exact h.elim
        · exact h.elim
      · exact h.elim
    · exact h.elim
  · exact h.elim
end
end Go.Proofs.YtejedlpnejjnbaaV
