/- What writes into a block that is there. -/
import Derived.Test.YtejedlpnejjnbaaVcO
set_option linter.unusedVariables false
set_option linter.unusedSimpArgs false
namespace Go.Proofs.YtejedlpnejjnbaaV
open Go.RowKit

theorem run_storeAt_any {P : Program} (w : World) (b o : Nat) (ty : TypeId) (v : Value) (ht : w.there b o v.cells.size) (hi : (P.info? ty).map (·.size) = some v.cells.size) (h1 : ∀ u ∈ v.cells.toList, u.oneCell' = true) :
    (Instr.storeAt ty (.pointer (some ⟨b, o, none⟩)) v).run P w = .ok () (w.setCells b o v.cells.toList) := by
  have := run_storeCells_cells (P := P) b o v.cells.toList 0 w (fun j hj => by simpa using (ht j (by simpa using hj)).1) (fun j hj => by simpa using (ht j (by simpa using hj)).2) h1
  cases hq : P.info? ty with
  | none => simp [hq] at hi
  | some i =>
    have hs : v.cells.size = i.size := by simp [hq] at hi; omega
    simp only [Nat.add_zero] at this
    simp [Instr.storeAt, Instr.sureAddr, storeVar, sizeOf, typeInfo, hq, hs, this]

section
variable {E : Env} {X : Fix} {ρ : Nat → Nat} {s : St} {a : Act} {w : World} {C : St → AV → Prop} {o : Oper} {d : Nat}

/-- A block of the call's own whose cells are these is written over. -/
theorem RR.over (R : RR X ρ s a w) (d : Nat) (b : Blk) {cur : Array Value} {T : TypeId} (A M B vs : List Value) (hcur : w.heap[ρ d]? = some (.cells cur T (0, 0))) (hl : cur.toList = A ++ M ++ B) (hv : vs.length = M.length)
    (hlw : liveW (lkb s.hp d)) (hbase : X.base ≤ ρ d)
    (hk : ∀ e v f, lkb s.hp d = .var e v f → ∃ v' f', b = .var e v' f')
    (hr : ∀ te e xs f, lkb s.hp d = .row te e xs f → ∃ ys : List e.den, ∃ f', b = .row te e ys f' ∧ ys.length = xs.length)
    (hb : ∀ c', c' = cx X ρ ((d, b) :: s.hp) (w.setCells (ρ d) A.length vs) → Ext (fun _ => False) (cx X ρ s.hp w) c' → c'.w.heap[c'.ρ d]? = some (.cells (A ++ vs ++ B).toArray T (0, 0)) → HB X c' d b) :
    RR X ρ (s.putb d b) a (w.setCells (ρ d) A.length vs) := by
  have he := setCells_eq vs M A B w cur hcur hl hv
  have hh := setRow_heap w (ρ d) cur (A ++ vs ++ B).toArray T (0, 0) hcur
  have hsz : (A ++ vs ++ B).toArray.size = cur.size := by
    have : cur.toList.length = cur.size := Array.length_toList
    rw [hl] at this
    simp at this ⊢
    omega
  rw [he] at hb ⊢
  refine (RR.write (w' := w.setRow (ρ d) (A ++ vs ++ B).toArray) R d b hk (fun te e xs f hx => ?_) (fun _ => hlw) (fun _ => liveW_live hlw) (Below_setRow R.below hbase _) (by rw [setRow_size]; exact Nat.le_refl _) (fun k hk => setRow_other w _ k _ (hk hlw)) (fun c' hc hx => hb c' hc hx (by subst hc; exact hh))).2
  obtain ⟨ys, f', h1, h2⟩ := hr te e xs f hx
  exact ⟨ys, f', h1, h2, fun _ => by rw [cellsN_of hh, cellsN_of hcur, hsz]⟩

theorem setCells_only {w : World} {b : Nat} {cur : Array Value} {T : TypeId} {A M B vs : List Value} (hcur : w.heap[b]? = some (.cells cur T (0, 0))) (hl : cur.toList = A ++ M ++ B) (hv : vs.length = M.length) :
    (w.setCells b A.length vs).heap.size = w.heap.size ∧ ∀ k, k ≠ b → (w.setCells b A.length vs).heap[k]? = w.heap[k]? := by
  rw [setCells_eq vs M A B w cur hcur hl hv]
  exact ⟨by rw [setRow_size], fun k hk => setRow_other w _ k _ hk⟩
theorem var_putb {s : St} {id i : Nat} {e : Ty} {v : AV} (hi : isVar (lkb s.hp i) = true) : isVar (lkb (s.putb id (.var e v false)).hp i) = true := by
  show isVar (lkb ((id, .var e v false) :: s.hp) i) = true
  rw [lkb_cons]
  split
  · rfl
  · exact hi
theorem live_putb {s : St} {id i : Nat} {b : Blk} (h : live (lkb s.hp id)) (hi : live (lkb (s.putb id b).hp i)) : live (lkb s.hp i) := by
  have hi : live (lkb ((id, b) :: s.hp) i) := hi
  rw [lkb_cons] at hi
  split at hi
  · rename_i e; rw [← e]; exact h
  · exact hi
theorem notvar_putb {s : St} {id i te : Nat} {e : Ty} {xs : List e.den} {f : Bool} {b : Blk} (hb : lkb s.hp id = .row te e xs f) (hi : isVar (lkb s.hp i) = true) : isVar (lkb (s.putb id b).hp i) = true := by
  have hne : id ≠ i := fun e => by subst e; rw [hb] at hi; cases hi
  show isVar (lkb ((id, b) :: s.hp) i) = true
  rw [lkb_cons, if_neg hne]; exact hi
theorem ex_store {t : TypeId} {x y : Operand} (hE : EnvT E X.P) (R : RR X ρ s a w) (ho : o.op = .store t x y) (h : wv E s (opn s.fr) (.store t x y) C) :
    ∃ s' w', C s' .dead ∧ (execOp a.eval o).run X.P w = .ok .skip w' ∧ RR X ρ s' a w' ∧ (∃ id p, opn s.fr x = .ptr id p ∧ w'.heap.size = w.heap.size ∧ ∀ k, k ≠ ρ id → w'.heap[k]? = w.heap[k]?) ∧ ∀ i, (isVar (lkb s.hp i) = true → isVar (lkb s'.hp i) = true) ∧ (live (lkb s'.hp i) → live (lkb s.hp i)) := by
  simp only [wv, putbK_eq] at h
  have hx := VR_opn R x
  obtain ⟨va, hva⟩ : ∃ va, opn s.fr x = va := ⟨_, rfl⟩
  rw [hva] at h hx ⊢
  have hy := VR_opn R y
  generalize opn s.fr y = vb at h hy
  split at h
  · rename_i id p
    split at h
    · rename_i e ht
      have hT := hE.tt t _ ht
      split at h
      · rename_i b hset
        obtain ⟨h1, hC⟩ := cond_elim h
        rw [Bool.and_eq_true] at h1
        obtain ⟨h1, h2⟩ := h1
        have h2 := of_decide_eq_true h2
        obtain ⟨off, t', k1, ex⟩ := VR_ptr hx
        have k1 : pathB (lkb s.hp id) p = some (off, t') := k1
        have := ptyB_of_pathB k1
        rw [h2] at this; cases this
        have hvs := cells_of_VR h1 hy
        have hsh := Shp_of_fits e vb h1
        have hone := CR_one _ e vb _ h1 hvs
        have hlen := CR_length e vb _ hsh hvs
        have hh := R.heap id
        have key : ∀ (cur : Array Value) (T : TypeId) (A M B : List Value), w.heap[ρ id]? = some (.cells cur T (0, 0)) → cur.toList = A ++ M ++ B → A.length = off → M.length = e.size →
            (execOp a.eval o).run X.P w = .ok .skip (w.setCells (ρ id) A.length (a.eval y).cells.toList) := by
          intro cur T A M B g1 g2 g3 g4
          have hsz : cur.size = A.length + M.length + B.length := by
            have : cur.toList.length = cur.size := Array.length_toList
            rw [g2] at this; simp at this; omega
          have hl2 : (a.eval y).cells.size = e.size := by rw [← hlen]; simp
          have hr := run_storeAt_any (P := X.P) w (ρ id) off t (a.eval y) (fun j hj => ⟨by rw [cell_of_block g1, Array.getElem?_eq_getElem (by omega)]; rfl, by simp [World.frozen?, g1]⟩) (by rw [info_size hT, hl2]) hone
          simp only [execOp, ho, ex, Sem.run_bind]
          rw [show (cx X ρ s.hp w).ρ id = ρ id from rfl, hr, g3]
          rfl
        cases hbk : lkb s.hp id with
        | none => rw [hbk] at hset; simp [setB] at hset
        | var e0 v0 f =>
          rw [hbk] at hset hh k1
          cases f with
          | true => simp [setB] at hset
          | false =>
            simp only [setB] at hset
            split at hset
            · rename_i v' hv'
              cases hset
              obtain ⟨g1, cs, T, g2, g3, g4, g5⟩ := hh
              have g2 : w.heap[ρ id]? = some (.cells cs T (0, 0)) := g2
              obtain ⟨A, M, B, q1, q2, q3, q4, q5⟩ := setA_cells R p e0 v0 _ off e vb v' _ g4 g5 g3 k1 hv' hsh hvs
              refine ⟨_, _, hC, key cs T A M B g2 q1 q2 q3, RR.over R id _ A M B _ g2 q1 (by rw [hlen, q3]) (by rw [hbk]; trivial) g1 (fun e v f he => ?_) (fun te e xs f he => ?_) (fun c' hc hx hc2 => ?_), ⟨id, p, rfl, setCells_only g2 q1 (by rw [hlen, q3])⟩, fun i => ⟨fun hi => var_putb hi, fun hi => live_putb (by rw [hbk]; trivial) hi⟩⟩
              · rw [hbk] at he; cases he; exact ⟨v', false, rfl⟩
              · rw [hbk] at he; cases he
              · exact ⟨by subst hc; exact g1, _, T, hc2, by
                  have := CR_ext hx _ _ (Free_no _) q5
                  simpa using this, q4, g5⟩
            · cases hset
        | row te e0 xs f =>
          rw [hbk] at hset hh k1
          cases f with
          | true => cases p <;> simp [setB] at hset
          | false =>
            cases p with
            | nil => simp [setB] at hset
            | cons st p =>
              cases st with
              | fld i => simp [setB] at hset
              | «at» i =>
                simp only [setB] at hset
                split at hset
                · rename_i v' hv'
                  split at hset
                  · rename_i z hz
                    cases hset
                    obtain ⟨hW, hh⟩ := hh
                    simp only [pathB] at k1
                    split at k1
                    · rename_i hr
                      split at k1
                      · rename_i o2 t2 hp2
                        simp only [Option.some.injEq, Prod.mk.injEq] at k1
                        obtain ⟨rfl, rfl⟩ := k1
                        have hi : i.toNat < xs.length := by omega
                        have hne : xs ≠ [] := fun h0 => by subst h0; simp at hi
                        obtain ⟨g1, cs, g2, g3, g4⟩ := hh hne
                        have g2 : w.heap[ρ id]? = some (.cells cs te (0, 0)) := g2
                        have g4 : EncL (Enc (okC X ρ s.hp w) w e0) xs (cs.toList.take (xs.length * e0.size)) := g4
                        obtain ⟨A, M, B, q1, q2, q3, q4⟩ := EncL_split (fun x vs h => Enc_length e0 x vs h) xs _ g4 i.toNat hi
                        have hxg : xs.getD i.toNat e0.dfl = xs[i.toNat] := by simp [List.getD_eq_getElem?_getD, List.getElem?_eq_getElem hi]
                        rw [hxg] at hv'
                        obtain ⟨A', M', B', rfl, m2, m3, m4, m5⟩ := setA_cells R p e0 _ M o2 _ vb v' _ (Shp_unpack e0 _ hW) hW (CR_unpack _ e0 _ M hW q3) hp2 hv' hsh hvs
                        have m6 := pack_enc R e0 v' z _ hz m5
                        have hcur : cs.toList = (A ++ A') ++ M' ++ (B' ++ B ++ cs.toList.drop (xs.length * e0.size)) := by
                          conv => lhs; rw [← List.take_append_drop (xs.length * e0.size) cs.toList, q1]
                          simp
                        refine ⟨_, _, hC, key cs te (A ++ A') M' _ g2 hcur (by rw [List.length_append, q2, m2]) m3, RR.over R id _ (A ++ A') M' _ _ g2 hcur (by rw [hlen, m3]) (by rw [hbk]; exact hne) g1 (fun e v f he => ?_) (fun te e ys f he => ?_) (fun c' hc hx hc2 => ?_), ⟨id, _, rfl, setCells_only g2 hcur (by rw [hlen, m3])⟩, fun i => ⟨fun hi => notvar_putb hbk hi, fun hi => live_putb (by rw [hbk]; exact hne) hi⟩⟩
                        · rw [hbk] at he; cases he
                        · rw [hbk] at he; cases he; exact ⟨_, _, rfl, List.length_set⟩
                        · refine ⟨hW, fun _ => ⟨by subst hc; exact g1, _, hc2, ?_, ?_⟩⟩
                          · have e1 := congrArg List.length hcur
                            rw [Array.length_toList] at e1
                            rw [List.length_set]
                            simp only [List.length_append, List.size_toArray, hlen, m3] at e1 ⊢
                            omega
                          · have m7 := q4 z _ m6
                            have m8 := EncL_mono (E' := Enc c'.ok c'.w e0) (fun x vs h => Enc_mono hx.ok e0 x vs h) _ _ m7
                            have e2 : ((A ++ A' ++ (a.eval y).cells.toList ++ (B' ++ B ++ cs.toList.drop (xs.length * e0.size))).toArray.toList.take ((xs.set i.toNat z).length * e0.size)) = A ++ (A' ++ (a.eval y).cells.toList ++ B') ++ B := by
                              have e3 : A ++ A' ++ (a.eval y).cells.toList ++ (B' ++ B ++ cs.toList.drop (xs.length * e0.size)) = (A ++ (A' ++ (a.eval y).cells.toList ++ B') ++ B) ++ cs.toList.drop (xs.length * e0.size) := by simp
                              have e4 : (A ++ (A' ++ (a.eval y).cells.toList ++ B') ++ B).length = (xs.set i.toNat z).length * e0.size :=
                                EncL_length (fun x vs h => Enc_length e0 x vs h) _ _ m7
                              rw [e3]
                              show List.take _ (_ ++ _) = _
                              rw [List.take_append_of_le_length (by omega), List.take_of_length_le (by omega)]
                            rw [e2]; exact m8
                      · cases k1
                    · cases k1
                  · cases hset
                · cases hset
      · exact h.elim
    · exact h.elim
  · exact h.elim

theorem ex_copy {c : Call} (hE : EnvT E X.P) (R : RR X ρ s a w) (ho : o.op = .call c) (hc : c.callee = .builtin .copy) (h : wv E s (opn s.fr) (.call c) C) :
    ∃ s' v z w', C s' v ∧ (execOp a.eval o).run X.P w = .ok (.value z) w' ∧ RR X ρ s' a w' ∧ VR (cx X ρ s'.hp w') v z := by
  simp only [wv, putbK_eq] at h
  split at h
  · rename_i x y t t2 hcc hargs htys
    have hx := VR_opn R x
    have hy := VR_opn R y
    have hargs' : c.args.map a.eval = #[a.eval x, a.eval y] := by
      have : c.args = #[x, y] := by apply Array.ext'; simpa using hargs
      simp [this]
    have htys' : c.argTypes = #[t, t2] := by apply Array.ext'; simpa using htys
    have key : ∀ z w', (Builtin.copy_ #[t, t2] o.type #[a.eval x, a.eval y]).run X.P w = .ok z w' → (execOp a.eval o).run X.P w = .ok (.value z) w' := by
      intro z w' hz
      simp only [execOp, ho, resolve, hc, invoke, builtin, Sem.run_bind, Sem.run_pure, Result.andThen_ok, htys', hargs', hz]
    generalize opn s.fr x = va at h hx
    generalize opn s.fr y = vb at h hy
    have hm : maxLen = 9223372036854775807 := rfl
    split at h
    · rename_i e e2 ht ht2
      obtain ⟨te, hu, hT⟩ := TyOk_sl (hE.tt t _ ht)
      have hW := TyOk.wf _ _ hT
      obtain ⟨i, i1, i2, i3, i4⟩ := hT.base
      split at h
      · rename_i id ys hys
        split at h
        · rename_i te' e' xs hb
          split at h
          · rename_i zs hzs
            obtain ⟨_, hC⟩ := cond_elim h
            simp only [rowOf, hb] at hzs
            split at hzs
            · rename_i he; subst he
              cases hzs
              simp only [castL_eq] at hC
              obtain ⟨Ay, cy, ey, y1, news, y2, y3, y4⟩ := rowOf_cells R hys hy
              have hO := VR_own hx
              unfold OwnV at hO
              rw [show (cx X ρ s.hp w).hp = s.hp from rfl, hb] at hO
              obtain ⟨A, m, g1, g2, g2', g3, g4⟩ := hO
              have ex : a.eval x = .slice A xs.length m := by simpa using g1
              have hg : ∀ n : Nat, n ≤ 140737488355328 → VR (cx X ρ (s.putb id (Blk.row te' e' (ys.take xs.length ++ xs.drop ys.length) false)).hp w) (.int .i64 n) (goInt n) := fun n hn => mkVR_int (nat_wf (by omega))
              by_cases hn : min ys.length xs.length = 0
              · have hys' : ys.take xs.length ++ xs.drop ys.length = xs := by
                  rcases Nat.eq_zero_or_pos ys.length with h0 | h0
                  · rw [List.eq_nil_of_length_eq_zero h0]; simp
                  · have : xs.length = 0 := by omega
                    rw [List.eq_nil_of_length_eq_zero this]; simp
                have hf : (Builtin.firstCells i.size 0 (.slice Ay ys.length cy)).run X.P w = .ok #[] w := by
                  cases Ay with
                  | none => exact run_firstCells_none _ _ _ _ _
                  | some q => exact run_firstCells_some w i.size 0 q _ _ [] (by simp) (fun j v hj => by simp at hj)
                have hr : (Builtin.copy_ #[t, t2] o.type #[a.eval x, a.eval y]).run X.P w = .ok (goInt 0) w := by
                  have hn' : Nat.min ys.length xs.length = 0 := hn
                  cases A <;> simp [Builtin.copy_, run_underlying hu, ex, ey, Builtin.lenOf, sizeOf, typeInfo, i1, hn', hf, storeCells]
                have hn2 : min (ys.length : Int) (xs.length : Int) = 0 := by omega
                rw [hys', hn2] at hC
                obtain ⟨_, R'⟩ := RR.write (w' := w) R id (.row te' e' xs false) (fun e v f he => by rw [hb] at he; cases he) (fun te e zs f he => by rw [hb] at he; cases he; exact ⟨xs, false, rfl, rfl, fun _ => rfl⟩) (fun hl => by rw [hb]; exact hl) (fun hl => by rw [hb]; exact hl) R.below (Nat.le_refl _) (fun _ _ => rfl)
                  (fun c' hc hx => by
                    have hh := R.heap id
                    rw [hb] at hh
                    refine ⟨hh.1, fun hne => ?_⟩
                    obtain ⟨q1, cs, q2, q3, q4⟩ := hh.2 hne
                    exact ⟨by subst hc; exact q1, cs, by subst hc; exact q2, q3, EncL_mono (fun x vs h => Enc_mono hx.ok e' x vs h) _ _ q4⟩)
                exact ⟨_, _, _, _, hC, key _ _ hr, R', mkVR_int (nat_wf (n := 0) (by omega))⟩
              · have hxn : xs ≠ [] := fun h0 => by subst h0; simp at hn
                have hyn : ys ≠ [] := fun h0 => by subst h0; simp at hn
                obtain ⟨k1, k2, k3⟩ := g4 hxn
                have hh := R.heap id
                rw [hb] at hh
                obtain ⟨q1, cs, q2, q3, q4⟩ := hh.2 hxn
                have q2 : w.heap[ρ id]? = some (.cells cs te' (0, 0)) := q2
                have q4 : EncL (Enc (okC X ρ s.hp w) w e') xs (cs.toList.take (xs.length * e'.size)) := q4
                obtain ⟨b, oo, rfl, y5⟩ := y4 hyn
                have hEn : ∀ (l : List e'.den) (vs : List Value) (n : Nat), EncL (Enc (okC X ρ s.hp w) w e') l vs → EncL (Enc (okC X ρ s.hp w) w e') (l.take n) (vs.take (n * e'.size)) ∧ EncL (Enc (okC X ρ s.hp w) w e') (l.drop n) (vs.drop (n * e'.size)) := by
                  intro l
                  induction l with
                  | nil => intro vs n h; obtain rfl : vs = [] := h; simp [EncL]
                  | cons z l ih =>
                    intro vs n h
                    obtain ⟨u, v, rfl, h1, h2⟩ := h
                    have hl := Enc_length _ _ _ h1
                    cases n with
                    | zero => rw [Nat.zero_mul]; exact ⟨by simp [EncL], u, v, rfl, h1, h2⟩
                    | succ n =>
                      obtain ⟨j1, j2⟩ := ih v n h2
                      have e1 : (u ++ v).take ((n + 1) * e'.size) = u ++ v.take (n * e'.size) := by
                        rw [List.take_append, List.take_of_length_le (by rw [hl, Nat.add_mul]; omega), hl]
                        congr 2; rw [Nat.add_mul]; omega
                      have e2 : (u ++ v).drop ((n + 1) * e'.size) = v.drop (n * e'.size) := by
                        rw [List.drop_append, List.drop_of_length_le (by rw [hl, Nat.add_mul]; omega), hl, List.nil_append]
                        congr 1; rw [Nat.add_mul]; omega
                      rw [e1, e2]
                      exact ⟨⟨u, _, rfl, h1, j1⟩, j2⟩
                obtain ⟨n, hnE⟩ : ∃ n, n = min ys.length xs.length := ⟨_, rfl⟩
                have hnl : (news.take (n * e'.size)).length = n * e'.size := by
                  rw [List.length_take, y3]
                  exact Nat.min_eq_left (Nat.mul_le_mul_right _ (by omega))
                have hf : (Builtin.firstCells i.size n (.slice (some ⟨b, oo, none⟩) ys.length cy)).run X.P w = .ok (news.take (n * e'.size)).toArray w :=
                  run_firstCells_some w i.size n ⟨b, oo, none⟩ _ _ _ (by rw [hnl, i2]) (fun j v hj => by
                    have hlt : j < (news.take (n * e'.size)).length := by
                      rcases Nat.lt_or_ge j (news.take (n * e'.size)).length with h | h
                      · exact h
                      · rw [List.getElem?_eq_none h] at hj; cases hj
                    rw [List.length_take] at hlt
                    rw [List.getElem?_take, if_pos (by omega)] at hj
                    rw [Addr.add_mid, y5 j (by omega)]; exact hj)
                have hsc : n * e'.size ≤ cs.size := Nat.le_trans (Nat.mul_le_mul_right _ (by omega)) q3
                have hst := run_storeCells_cells (P := X.P) (ρ id) 0 (news.take (n * e'.size)) 0 w (fun j hj => by rw [cell_of_block q2, Array.getElem?_eq_getElem (by omega)]; rfl) (fun j hj => by simp [World.frozen?, q2]) (fun u hu => EncL_one ys news y2 u (List.mem_of_mem_take hu))
                have hr : (Builtin.copy_ #[t, t2] o.type #[a.eval x, a.eval y]).run X.P w = .ok (goInt n) (w.setCells (ρ id) 0 (news.take (n * e'.size))) := by
                  have hn' : Nat.min ys.length xs.length = n := hnE.symm
                  have k1' : A = some ⟨ρ id, 0, none⟩ := k1
                  subst k1'
                  simp only [Nat.add_zero] at hst
                  simp [Builtin.copy_, run_underlying hu, ex, ey, Builtin.lenOf, sizeOf, typeInfo, i1, hn', hf, hst]
                have hcur : cs.toList = [] ++ cs.toList.take (n * e'.size) ++ cs.toList.drop (n * e'.size) := by simp
                have hlen2 : (ys.take xs.length ++ xs.drop ys.length).length = xs.length := by simp; omega
                have R' := RR.over R id (.row te' e' (ys.take xs.length ++ xs.drop ys.length) false) [] _ _ (news.take (n * e'.size)) q2 hcur (by rw [hnl, List.length_take]; simp; omega) (by rw [hb]; exact hxn) q1 (fun e v f he => by rw [hb] at he; cases he) (fun te e zs f he => by rw [hb] at he; cases he; exact ⟨_, false, rfl, hlen2⟩)
                  (fun c' hc hx hc2 => by
                    refine ⟨hW, fun _ => ⟨by subst hc; exact q1, _, hc2, ?_, ?_⟩⟩
                    · rw [hlen2]
                      simp only [List.nil_append, List.size_toArray, List.length_append, hnl, List.length_drop, Array.length_toList]
                      omega
                    · rw [hlen2]
                      have t1 : ys.take xs.length = ys.take n := by
                        rcases Nat.le_total ys.length xs.length with h | h
                        · rw [List.take_of_length_le h, List.take_of_length_le (by omega)]
                        · congr 1; omega
                      have t2 : xs.drop ys.length = xs.drop n := by
                        rcases Nat.le_total ys.length xs.length with h | h
                        · congr 1; omega
                        · rw [List.drop_of_length_le h, List.drop_of_length_le (by omega)]
                      have hnx : n * e'.size ≤ xs.length * e'.size := Nat.mul_le_mul_right _ (by omega)
                      have e1 : (([] ++ news.take (n * e'.size) ++ cs.toList.drop (n * e'.size)).toArray.toList.take (xs.length * e'.size)) = news.take (n * e'.size) ++ (cs.toList.take (xs.length * e'.size)).drop (n * e'.size) := by
                        show List.take _ (([] ++ news.take (n * e'.size)) ++ cs.toList.drop (n * e'.size)) = _
                        rw [List.nil_append, List.take_append, List.take_of_length_le (by omega), hnl, List.drop_take]
                      rw [e1, t1, t2]
                      exact EncL_append _ _ _ _ (EncL_mono (fun x vs h => Enc_mono hx.ok e' x vs h) _ _ (hEn ys news n y2).1) (EncL_mono (fun x vs h => Enc_mono hx.ok e' x vs h) _ _ (hEn xs _ n q4).2))
                have hn2 : min (ys.length : Int) (xs.length : Int) = (n : Int) := by omega
                rw [hn2] at hC
                exact ⟨_, _, _, _, hC, key _ _ hr, R', mkVR_int (nat_wf (by omega))⟩
            · cases hzs
          · exact h.elim
        · exact h.elim
      · exact h.elim
    · exact h.elim
  · rename_i hcc _ _
    rw [hc] at hcc; cases hcc
  · exact h.elim

/-- clear, of a row of the call's own. -/
theorem ex_clear {c : Call} (hE : EnvT E X.P) (R : RR X ρ s a w) (ho : o.op = .call c) (hc : c.callee = .builtin .clear) (h : wv E s (opn s.fr) (.call c) C) :
    ∃ s' v z w', C s' v ∧ (execOp a.eval o).run X.P w = .ok (.value z) w' ∧ RR X ρ s' a w' ∧ VR (cx X ρ s'.hp w') v z := by
  simp only [wv, putbK_eq] at h
  split at h
  · rename_i hcc _ _
    rw [hc] at hcc; cases hcc
  · rename_i x t hcc hargs htys
    have hx := VR_opn R x
    have hargs' : c.args.map a.eval = #[a.eval x] := by
      have : c.args = #[x] := by apply Array.ext'; simpa using hargs
      simp [this]
    have htys' : c.argTypes = #[t] := by apply Array.ext'; simpa using htys
    have key : ∀ z w', (Builtin.clear_ #[t] o.type #[a.eval x]).run X.P w = .ok z w' → (execOp a.eval o).run X.P w = .ok (.value z) w' := by
      intro z w' hz
      simp only [execOp, ho, resolve, hc, invoke, builtin, Sem.run_bind, Sem.run_pure, Result.andThen_ok, htys', hargs', hz]
    generalize opn s.fr x = va at h hx
    split at h
    · rename_i e ht
      obtain ⟨te, hu, hT⟩ := TyOk_sl (hE.tt t _ ht)
      have hW := TyOk.wf _ _ hT
      obtain ⟨i, i1, i2, i3, i4⟩ := hT.base
      split at h
      · rename_i id
        split at h
        · rename_i te' e' xs hb
          split at h
          · rename_i zs hzs
            obtain ⟨hp, hC⟩ := cond_elim h
            rw [Bool.and_eq_true] at hp
            obtain ⟨hp, _⟩ := hp
            simp only [rowOf, hb] at hzs
            split at hzs
            · rename_i he; subst he
              cases hzs
              simp only [castL_eq] at hC
              have hO := VR_own hx
              unfold OwnV at hO
              rw [show (cx X ρ s.hp w).hp = s.hp from rfl, hb] at hO
              obtain ⟨A, m, g1, g2, g2', g3, g4⟩ := hO
              have ex : a.eval x = .slice A xs.length m := by simpa using g1
              by_cases hn : xs = []
              · subst hn
                have hr : (Builtin.clear_ #[t] o.type #[a.eval x]).run X.P w = .ok (.tuple #[]) w := by
                  rw [ex]
                  cases A <;> simp [Builtin.clear_, run_underlying hu]
                have hrep : List.replicate ([] : List e'.den).length e'.dfl = [] := rfl
                rw [hrep] at hC
                obtain ⟨_, R'⟩ := RR.write (w' := w) R id (.row te' e' [] false) (fun e v f he => by rw [hb] at he; cases he) (fun te e zs f he => by rw [hb] at he; cases he; exact ⟨[], false, rfl, rfl, fun _ => rfl⟩) (fun hl => by rw [hb]; exact hl) (fun hl => by rw [hb]; exact hl) R.below (Nat.le_refl _) (fun _ _ => rfl)
                  (fun c' hc hx => by
                    have hh := R.heap id
                    rw [hb] at hh
                    exact ⟨hh.1, fun hne => absurd rfl hne⟩)
                exact ⟨_, _, _, _, hC, key _ _ hr, R', trivial⟩
              · obtain ⟨k1, k2, k3⟩ := g4 hn
                have hh := R.heap id
                rw [hb] at hh
                obtain ⟨q1, cs, q2, q3, q4⟩ := hh.2 hn
                have q2 : w.heap[ρ id]? = some (.cells cs te' (0, 0)) := q2
                have hzl : (Builtin.zeroCells (zval e').cells xs.length).toList = (List.replicate xs.length (zcs e')).flatten := by
                  have := madeCells_rep (zcs e') e'.size xs.length (zcs_length e')
                  rw [← this, zval_cells]
                  have hz : (zcs e').toArray.size = e'.size := by simp [zcs_length]
                  rw [← hz]
                  rfl
                have hzE : EncL (Enc (okC X ρ s.hp w) w e') (List.replicate xs.length e'.dfl) (List.replicate xs.length (zcs e')).flatten := EncL_replicate (Enc_dfl _ _ e' hp) _
                have hlen : (List.replicate xs.length (zcs e')).flatten.length = xs.length * e'.size := by
                  rw [List.length_flatten, List.map_replicate, List.sum_replicate_nat, zcs_length]
                have hst := run_storeCells_cells (P := X.P) (ρ id) 0 (List.replicate xs.length (zcs e')).flatten 0 w (fun j hj => by rw [cell_of_block q2, Array.getElem?_eq_getElem (by omega)]; rfl) (fun j hj => by simp [World.frozen?, q2]) (fun u hu => EncL_one _ _ hzE u hu)
                have hr : (Builtin.clear_ #[t] o.type #[a.eval x]).run X.P w = .ok (.tuple #[]) (w.setCells (ρ id) 0 (List.replicate xs.length (zcs e')).flatten) := by
                  have k1' : A = some ⟨ρ id, 0, none⟩ := k1
                  subst k1'
                  have hl0 : xs.length ≠ 0 := fun h0 => hn (List.eq_nil_of_length_eq_zero h0)
                  obtain ⟨n, hn2⟩ : ∃ n, xs.length = n + 1 := ⟨xs.length - 1, by omega⟩
                  simp only [Nat.add_zero] at hst
                  rw [ex]
                  simp only [hn2] at hzl hst ⊢
                  simp [Builtin.clear_, run_underlying hu, zeroValue, typeInfo, i1, i3, hzl, hst]
                have hcur : cs.toList = [] ++ cs.toList.take (xs.length * e'.size) ++ cs.toList.drop (xs.length * e'.size) := by simp
                have R' := RR.over R id (.row te' e' (List.replicate xs.length e'.dfl) false) [] _ _ (List.replicate xs.length (zcs e')).flatten q2 hcur (by rw [hlen, List.length_take]; simp; omega) (by rw [hb]; exact hn) q1 (fun e v f he => by rw [hb] at he; cases he) (fun te e zs f he => by rw [hb] at he; cases he; exact ⟨_, false, rfl, List.length_replicate ..⟩)
                  (fun c' hc hx hc2 => by
                    refine ⟨hW, fun _ => ⟨by subst hc; exact q1, _, hc2, ?_, ?_⟩⟩
                    · rw [List.length_replicate]
                      simp only [List.nil_append, List.size_toArray, List.length_append, hlen, List.length_drop, Array.length_toList]
                      omega
                    · rw [List.length_replicate]
                      have e1 : (([] ++ (List.replicate xs.length (zcs e')).flatten ++ cs.toList.drop (xs.length * e'.size)).toArray.toList.take (xs.length * e'.size)) = (List.replicate xs.length (zcs e')).flatten := by
                        show List.take _ (([] ++ (List.replicate xs.length (zcs e')).flatten) ++ cs.toList.drop (xs.length * e'.size)) = _
                        rw [List.nil_append, List.take_append_of_le_length (by omega), List.take_of_length_le (by omega)]
                      rw [e1]
                      exact EncL_mono (fun x vs h => Enc_mono hx.ok e' x vs h) _ _ hzE)
                exact ⟨_, _, _, _, hC, key _ _ hr, R', trivial⟩
            · cases hzs
          · exact h.elim
        · exact h.elim
      · exact h.elim
    · exact h.elim
  · exact h.elim
end
end Go.Proofs.YtejedlpnejjnbaaV
