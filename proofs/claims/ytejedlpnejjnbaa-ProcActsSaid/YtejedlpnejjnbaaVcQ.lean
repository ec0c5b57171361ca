/- Calls: by contract, and of functions that are looked into. -/
import Derived.Test.YtejedlpnejjnbaaVcP
import Derived.RangeFuncIn
set_option linter.unusedVariables false
set_option linter.unusedSimpArgs false
namespace Go.Proofs.YtejedlpnejjnbaaV
open Go.RowKit

/-- What a call comes to. -/
def Inv (P : Program) (g : FuncId) (xs : Array Value) (w : World) (Q : Value → World → Prop) : Prop :=
  (∃ z w', (callFunc g xs).run P w = .ok (.value z) w' ∧ Q z w') ∨
  ((callFunc g xs).run P w = .ok (.enter g xs) w ∧ Calls P g xs w fun e w' => ∃ z, e = .returned z ∧ Q z w')

def cx0 (ok : Nat → Prop) (w : World) : Cx := ⟨fun _ => 0, ok, w, []⟩
/-- A function of data: it reads what it's given, writes nothing that was there, and gives data back. -/
def PCon (P : Program) (g : FuncId) (F : List AV → Option AV) : Prop :=
  ∀ (ok0 : Nat → Prop) (w : World) (as : List AV) (xs : Array Value) (r : AV), (∀ b, ok0 b → b < w.heap.size) → GlOk ok0 w → F as = some r → pureAV.pures as = true → CVs (cx0 ok0 w) as xs.toList →
    Inv P g xs w fun z w' => Below w.heap.size w w' ∧ VR (cx0 (fun b => (ok0 b ∨ w.heap.size ≤ b) ∧ b < w'.heap.size) w') r z
/-- A function that is looked into at its call. -/
def SCon (P : Program) (g : FuncId) (T : Proc) : Prop :=
  ∀ (off : Nat) (X : Fix) (ρ : Nat → Nat) (hp : List (Nat × Blk)) (w : World) (as : List AV) (xs : Array Value) (a0 : Act) (K : List (Nat × Blk) → Option Ks → AV → Prop), X.P = P → RR X ρ ⟨[], hp, some ([], 0)⟩ a0 w →
    okVs as = true → CVs (cx X ρ hp w) as xs.toList → T off hp as K →
    Inv P g xs w fun z w' => ∃ ρ' hp' ks r a1, K hp' (some ks) r ∧ RR X ρ' ⟨[], hp', some ks⟩ a1 w' ∧ VR (cx X ρ' hp' w') r z

/-- What calling a loop's 'yield' comes to. -/
def YOk (X : Fix) (l : Nat) (Y : List Nat → Proc) : Prop :=
  ∀ (S : List Nat) (off : Nat) (X1 : Fix) (ρ : Nat → Nat) (hp : List (Nat × Blk)) (w : World) (as : List AV) (xs : Array Value) (a0 : Act) (K : List (Nat × Blk) → Option Ks → AV → Prop),
    X1.P = X.P → X1.ok0 = X.ok0 → X1.w0 = X.w0 → X1.sp = X.sp → (∀ i, ∃ j, X1.stk j = killAll S (X.stk i) ∧ X1.stv j = X.stv i) →
    RR X1 ρ ⟨[], hp, some ([], 0)⟩ a0 w → okVs as = true → CVs (cx X1 ρ hp w) as xs.toList → Y S off hp as K →
    ∃ fn tmps asg body, (Instr.yield l xs).run X.P w = .ok (.round l fn tmps asg body) w ∧
      RoundIn Fence.wide 0 X.P l fn tmps asg body w fun e w' => ∃ z, e = .returned z ∧ ∃ ρ' hp' ks r a1, K hp' (some ks) r ∧ RR X1 ρ' ⟨[], hp', some ks⟩ a1 w' ∧ VR (cx X1 ρ' hp' w') r z
/-- An iterator. -/
def ICon (P : Program) (g : FuncId) (I : Nat → (List Nat → Proc) → Proc) : Prop :=
  (∀ xs w, (callFunc g xs).run P w = .ok (.enter g xs) w) ∧
  ∀ (l : Nat) (Y : List Nat → Proc) (off : Nat) (X : Fix) (ρ : Nat → Nat) (hp : List (Nat × Blk)) (w : World) (as : List AV) (xs : Array Value) (a0 : Act) (K : List (Nat × Blk) → Option Ks → AV → Prop), X.P = P → YOk X l Y → RR X ρ ⟨[], hp, some ([], 0)⟩ a0 w →
    okVs as = true → CVs (cx X ρ hp w) as xs.toList → I l Y off hp as K →
    Calls P g xs w fun e w' => ∃ z, e = .returned z ∧ ∃ ρ' hp' ks r a1, K hp' (some ks) r ∧ RR X ρ' ⟨[], hp', some ks⟩ a1 w' ∧ VR (cx X ρ' hp' w') r z

structure EnvC (E : Env) (P : Program) : Prop where
  t : EnvT E P
  fns : ∀ g F, lkF E.fns g = some F → PCon P g F
  prs : ∀ g T, lkP E.prs g = some T → SCon P g T
  its : ∀ g I, lkI E.its g = some I → ICon P g I

theorem killAll_append : ∀ (l l' : List Nat) (v : AV), killAll (l ++ l') v = killAll l (killAll l' v)
  | [], _, _ => rfl
  | k :: l, l', v => by show kill k (killAll (l ++ l') v) = kill k _; rw [killAll_append l l' v]
theorem lk_killAllF : ∀ (l : List Nat) (fr : List (Nat × AV)) (d : Nat), lk (killAllF l fr) d = killAll l (lk fr d)
  | [], _, _ => rfl
  | k :: l, fr, d => by show lk (killF k (killAllF l fr)) d = _; rw [lk_killF, lk_killAllF l fr d]; rfl

theorem calls_mono {P : Program} {f : FuncId} {args : Array Value} {w : World} {R R' : Ending → World → Prop} (h : Calls P f args w R) (hr : ∀ e w', R e w' → R' e w') : Calls P f args w R' := fun cs => by
  obtain ⟨e, w', fr, h1, h2⟩ := h cs
  exact ⟨e, w', fr, hr _ _ h1, h2⟩

/-! ### Data, wherever they are looked at from -/
mutual
theorem CR_pure {c c' : Cx} (hok : ∀ b, c.ok b → c'.ok b ∧ SameC c.w c'.w b) : ∀ (v : AV) (vs : List Value), pureAV v = true → CR c v vs → CR c' v vs
  | .int _ _, _, _, h => h
  | .bool _, _, _, h => h
  | .str _, _, _, h => h
  | .ro e xs, vs, _, h => Enc_mono hok (.sl e) xs vs h
  | .arr n e xs, vs, _, h => Enc_mono hok (.arr n e) xs vs h
  | .con _, _, _, h => h
  | .agg l, vs, hp, h => CRs_pure hok l vs hp h
  | .fn f a d, vs, hp, h => by
    have hp : (pureAV.pures a && pureAV.pures d) = true := hp
    rw [Bool.and_eq_true] at hp
    obtain ⟨a', d', e, h1, h2⟩ := h
    exact ⟨a', d', e, CVs_pure hok a _ hp.1 h1, CVs_pure hok d _ hp.2 h2⟩
theorem CRs_pure {c c' : Cx} (hok : ∀ b, c.ok b → c'.ok b ∧ SameC c.w c'.w b) : ∀ (l : List AV) (vs : List Value), pureAV.pures l = true → CRs c l vs → CRs c' l vs
  | [], _, _, h => h
  | v :: l, vs, hp, h => by
    have hp : (pureAV v && pureAV.pures l) = true := hp
    rw [Bool.and_eq_true] at hp
    obtain ⟨a, b, e, h1, h2⟩ := h
    exact ⟨a, b, e, CR_pure hok v a hp.1 h1, CRs_pure hok l b hp.2 h2⟩
theorem CVs_pure {c c' : Cx} (hok : ∀ b, c.ok b → c'.ok b ∧ SameC c.w c'.w b) : ∀ (l : List AV) (xs : List Value), pureAV.pures l = true → CVs c l xs → CVs c' l xs
  | [], _, _, h => h
  | v :: l, xs, hp, h => by
    have hp : (pureAV v && pureAV.pures l) = true := hp
    rw [Bool.and_eq_true] at hp
    obtain ⟨x, ys, e, h1, h3, h2⟩ := h
    exact ⟨x, ys, e, CR_pure hok v _ hp.1 h1, h3, CVs_pure hok l ys hp.2 h2⟩
end
theorem VR_pureR {c c' : Cx} (hok : ∀ b, c.ok b → c'.ok b ∧ SameC c.w c'.w b) (v : AV) (x : Value) (hp : pureR v = true) (h : VR c v x) : VR c' v x := by
  cases v <;> first
    | exact ⟨CR_pure hok _ _ hp h.1, h.2⟩
    | (obtain ⟨xs, e, h2⟩ := h; exact ⟨xs, e, CVs_pure hok _ _ hp h2⟩)
    | exact h
mutual
theorem CR_nolead {c c' : Cx} : ∀ (v : AV) (vs : List Value), leads v = false → CR c v vs → CR c' v vs
  | .int _ _, _, _, h => h
  | .bool _, _, _, h => h
  | .str _, _, _, h => h
  | .con _, _, _, h => h
  | .agg l, vs, hp, h => CRs_nolead l vs hp h
theorem CRs_nolead {c c' : Cx} : ∀ (l : List AV) (vs : List Value), leads.leadss l = false → CRs c l vs → CRs c' l vs
  | [], _, _, h => h
  | v :: l, vs, hp, h => by
    have hp : (leads v || leads.leadss l) = false := hp
    rw [Bool.or_eq_false_iff] at hp
    obtain ⟨a, b, e, h1, h2⟩ := h
    exact ⟨a, b, e, CR_nolead v a hp.1 h1, CRs_nolead l b hp.2 h2⟩
theorem CVs_nolead {c c' : Cx} : ∀ (l : List AV) (xs : List Value), leads.leadss l = false → CVs c l xs → CVs c' l xs
  | [], _, _, h => h
  | v :: l, xs, hp, h => by
    have hp : (leads v || leads.leadss l) = false := hp
    rw [Bool.or_eq_false_iff] at hp
    obtain ⟨x, ys, e, h1, h3, h2⟩ := h
    exact ⟨x, ys, e, CR_nolead v _ hp.1 h1, h3, CVs_nolead l ys hp.2 h2⟩
end
theorem VR_nolead {c c' : Cx} (v : AV) (x : Value) (hp : leads v = false) (h : VR c v x) : VR c' v x := by
  cases v <;> first
    | exact ⟨CR_nolead _ _ hp h.1, h.2⟩
    | (obtain ⟨xs, e, h2⟩ := h; exact ⟨xs, e, CVs_nolead _ _ hp h2⟩)
    | exact h
    | cases hp

section
variable {E : Env} {X : Fix} {ρ : Nat → Nat} {s : St} {a : Act} {w w' : World} {o : Oper}

/-! ### What a slice of its own is to whom it's handed -/
def okL (X : Fix) (ρ : Nat → Nat) (hp : List (Nat × Blk)) (w : World) (l : List Nat) (b : Nat) : Prop := okC X ρ hp w b ∨ ∃ id, id ∈ l ∧ live (lkb hp id) ∧ b = ρ id

mutual
theorem norm_CR (R : RR X ρ s a w) : ∀ (v : AV) (vs : List Value) (l : List Nat), (∀ id ∈ owns v, id ∈ l) → pureAV (norm s.hp v) = true → CR (cx X ρ s.hp w) v vs → CR (cx0 (okL X ρ s.hp w l) w) (norm s.hp v) vs
  | .own id, vs, l, hl, hp, h => by
    have h' : OwnV (cx X ρ s.hp w) id vs := h
    unfold OwnV at h'
    cases hb : lkb s.hp id with
    | none => rw [show (cx X ρ s.hp w).hp = s.hp from rfl, hb] at h'; exact h'.elim
    | var e v f => rw [show (cx X ρ s.hp w).hp = s.hp from rfl, hb] at h'; exact h'.elim
    | row te e xs f =>
      have hn : norm s.hp (.own id) = .ro e xs := by simp only [norm, hb]
      rw [hn]
      exact own_sl R hb h (fun hne => .inr ⟨id, hl id (by simp [owns]), by rw [hb]; exact hne, rfl⟩) (fun b hb => .inl hb)
  | .agg r, vs, l, hl, hp, h => norms_CRs R r vs l hl hp h
  | .int _ _, _, _, _, _, h => h
  | .bool _, _, _, _, _, h => h
  | .str _, _, _, _, _, h => h
  | .ro e xs, vs, _, _, _, h => Enc_mono (fun b hb => ⟨.inl hb, .refl _ _⟩) (.sl e) xs vs h
  | .arr n e xs, vs, _, _, _, h => Enc_mono (fun b hb => ⟨.inl hb, .refl _ _⟩) (.arr n e) xs vs h
  | .con _, _, _, _, _, h => h
  | .fn f b d, vs, l, _, hp, h => CR_pure (c := cx X ρ s.hp w) (c' := cx0 (okL X ρ s.hp w l) w) (fun b hb => ⟨Or.inl hb, .refl _ _⟩) (.fn f b d) vs hp h
theorem norms_CRs (R : RR X ρ s a w) : ∀ (r : List AV) (vs : List Value) (l : List Nat), (∀ id ∈ owns.ownss r, id ∈ l) → pureAV.pures (norm.norms s.hp r) = true → CRs (cx X ρ s.hp w) r vs → CRs (cx0 (okL X ρ s.hp w l) w) (norm.norms s.hp r) vs
  | [], _, _, _, _, h => h
  | v :: r, vs, l, hl, hp, h => by
    have hp : (pureAV (norm s.hp v) && pureAV.pures (norm.norms s.hp r)) = true := hp
    rw [Bool.and_eq_true] at hp
    obtain ⟨p, q, e, h1, h2⟩ := h
    have hl : ∀ id ∈ owns v ++ owns.ownss r, id ∈ l := hl
    exact ⟨p, q, e, norm_CR R v p l (fun id h => hl id (List.mem_append_left _ h)) hp.1 h1, norms_CRs R r q l (fun id h => hl id (List.mem_append_right _ h)) hp.2 h2⟩
end
theorem aggAV_norm (R : RR X ρ s a w) {v : AV} {vs : List Value} (h : CR (cx X ρ s.hp w) v vs) : aggAV (norm s.hp v) = aggAV v := by
  cases v with
  | own id =>
    have h' : OwnV (cx X ρ s.hp w) id vs := h
    unfold OwnV at h'
    cases hb : lkb s.hp id with
    | none => rw [show (cx X ρ s.hp w).hp = s.hp from rfl, hb] at h'; exact h'.elim
    | var e v f => rw [show (cx X ρ s.hp w).hp = s.hp from rfl, hb] at h'; exact h'.elim
    | row te e xs f => simp only [norm, hb]; rfl
  | _ => first | rfl | exact h.elim
theorem norms_CVs (R : RR X ρ s a w) : ∀ (r : List AV) (xs : List Value) (l : List Nat), (∀ id ∈ owns.ownss r, id ∈ l) → pureAV.pures (r.map (norm s.hp)) = true → CVs (cx X ρ s.hp w) r xs → CVs (cx0 (okL X ρ s.hp w l) w) (r.map (norm s.hp)) xs
  | [], _, _, _, _, h => h
  | v :: r, xs, l, hl, hp, h => by
    have hp : (pureAV (norm s.hp v) && pureAV.pures (r.map (norm s.hp))) = true := hp
    rw [Bool.and_eq_true] at hp
    obtain ⟨x, ys, e, h1, h3, h2⟩ := h
    have hl : ∀ id ∈ owns v ++ owns.ownss r, id ∈ l := hl
    exact ⟨x, ys, e, norm_CR R v _ l (fun id h => hl id (List.mem_append_left _ h)) hp.1 h1, by rw [aggAV_norm R h1]; exact h3, norms_CVs R r ys l (fun id h => hl id (List.mem_append_right _ h)) hp.2 h2⟩

/-- The world is another one, above. -/
theorem RR.world (R : RR X ρ s a w) (hB : Below w.heap.size w w') : Ext (fun _ => False) (cx X ρ s.hp w) (cx X ρ s.hp w') ∧ RR X ρ s a w' := by
  have hblk : ∀ id, live (lkb s.hp id) → w'.heap[ρ id]? = w.heap[ρ id]? := fun id hl => hB.block _ (R.lt hl).2
  have hext : Ext (fun _ => False) (cx X ρ s.hp w) (cx X ρ s.hp w') := by
    refine ⟨fun b hb => ⟨⟨hb.1, Nat.lt_of_lt_of_le hb.2.1 hB.size, hb.2.2⟩, .of (hB.block b hb.2.1)⟩, fun id e v f _ h => ⟨rfl, v, f, h⟩, fun id te e xs f _ h => ⟨xs, f, h, rfl, fun hx => ⟨rfl, ?_⟩⟩⟩
    have h : lkb s.hp id = .row te e xs f := h
    show cellsN w' (ρ id) = cellsN w (ρ id)
    unfold cellsN
    rw [hblk id (by rw [h]; exact hx)]
  refine ⟨hext, ⟨R.size, R.defers.keep (.of_below hB), R.ok0, R.below.trans (hB.mono R.base_le), fun id => ?_, R.inj, fun d => VR_ext hext _ _ (Free_no _) (R.fr d), fun ks hks i => VR_ext hext _ _ (Free_no _) (R.stk ks hks i), fun ks hks => X.spk _ _ _ ((Keeps.of_below hB).b _) hB.size (R.sp ks hks), Nat.le_trans R.lim hB.size⟩⟩
  have hh := R.heap id
  cases hb : lkb s.hp id with
  | none => trivial
  | var e v f =>
    rw [hb] at hh
    obtain ⟨g1, cs, T, g2, g3, g4, g5⟩ := hh
    exact ⟨g1, cs, T, (hblk id (by rw [hb]; trivial)).trans g2, CR_ext hext _ _ (Free_no _) g3, g4, g5⟩
  | row te e xs f =>
    rw [hb] at hh
    obtain ⟨g0, hh⟩ := hh
    refine ⟨g0, fun hne => ?_⟩
    obtain ⟨g1, cs, g2, g3, g4⟩ := hh hne
    exact ⟨g1, cs, (hblk id (by rw [hb]; exact hne)).trans g2, g3, EncL_mono (fun x vs h => Enc_mono hext.ok e x vs h) _ _ g4⟩

theorem CVs_append {c : Cx} : ∀ (l l' : List AV) (xs ys : List Value), CVs c l xs → CVs c l' ys → CVs c (l ++ l') (xs ++ ys)
  | [], l', xs, ys, h1, h2 => by
    have h1 : xs = [] := h1
    subst h1; exact h2
  | v :: l, l', xs, ys, h1, h2 => by
    obtain ⟨x, zs, rfl, g1, g2, g3⟩ := h1
    exact ⟨x, zs ++ ys, rfl, g1, g2, CVs_append l l' zs ys g3 h2⟩
theorem CVs_of_VR {c : Cx} (f : Operand → AV) (g : Operand → Value) (hfg : ∀ q, VR c (f q) (g q)) : ∀ l : List Operand, okVs (l.map f) = true → CVs c (l.map f) (l.map g)
  | [], _ => rfl
  | q :: l, h => by
    simp only [List.map_cons, okVs, Bool.and_eq_true] at h
    have hq := hfg q
    refine ⟨g q, l.map g, rfl, ?_, ?_, CVs_of_VR f g hfg l h.2⟩
    · cases hv : f q <;> rw [hv] at hq h <;> first | exact hq.1 | (cases h.1)
    · cases hv : f q <;> rw [hv] at hq h <;> first | exact hq.2 | (cases h.1)
theorem okVs_append : ∀ l l' : List AV, okVs (l ++ l') = (okVs l && okVs l')
  | [], l' => by simp [okVs]
  | v :: l, l' => by rw [List.cons_append]; simp only [okVs]; rw [okVs_append l l', Bool.and_assoc]
theorem okVs_pure (hp : List (Nat × Blk)) : ∀ l : List AV, pureAV.pures (l.map (norm hp)) = true → okVs l = true
  | [], _ => rfl
  | v :: l, h => by
    have h : (pureAV (norm hp v) && pureAV.pures (l.map (norm hp))) = true := h
    rw [Bool.and_eq_true] at h
    simp only [okVs, Bool.and_eq_true]
    refine ⟨?_, okVs_pure hp l h.2⟩
    cases v <;> first | rfl | (have := h.1; simp [norm, pureAV] at this)

theorem canT_sl (e : Ty) (v : AV) : (v = .con (.slice none 0 0) ∧ canT (.sl e) v = .ro e []) ∨ canT (.sl e) v = v := by
  cases v with
  | con u =>
    cases u with
    | slice A n c =>
      cases A with
      | some A => exact .inr rfl
      | none => cases n with
        | succ n => exact .inr rfl
        | zero => cases c with
          | succ c => exact .inr rfl
          | zero => exact .inl ⟨rfl, rfl⟩
    | _ => exact .inr rfl
  | _ => exact .inr rfl
mutual
theorem CR_canT {c : Cx} : ∀ (e : Ty) (v : AV) (l : List Value), CR c v l → CR c (canT e v) l
  | .sl e, v, l, h => by
    rcases canT_sl e v with ⟨rfl, h1⟩ | h1
    · rw [h1]
      obtain ⟨rfl, _⟩ := h
      exact ⟨none, 0, rfl, Nat.le_refl _, Nat.zero_le _, Nat.zero_le _, fun _ _ => rfl, fun hne => absurd rfl hne⟩
    · rw [h1]; exact h
  | .pair a b, .agg (u :: r), l, h => by
    obtain ⟨p, q, rfl, h2, h3⟩ := h
    exact ⟨p, q, rfl, CR_canT a u p h2, CRs_canTs b r q h3⟩
  | .pair a b, .agg [], l, h => h
  | .pair a b, .int _ _, l, h => h
  | .pair a b, .bool _, l, h => h
  | .pair a b, .str _, l, h => h
  | .pair a b, .ro _ _, l, h => h
  | .pair a b, .arr _ _ _, l, h => h
  | .pair a b, .own _, l, h => h
  | .pair a b, .ptr _ _, l, h => h
  | .pair a b, .vsl _ _, l, h => h
  | .pair a b, .rop _ _, l, h => h
  | .pair a b, .con _, l, h => h
  | .pair a b, .fn _ _ _, l, h => h
  | .pair a b, .tup _, l, h => h
  | .pair a b, .und, l, h => h
  | .pair a b, .dead, l, h => h
  | .int _, v, l, h => by unfold canT; exact h
  | .bool, v, l, h => by unfold canT; exact h
  | .str, v, l, h => by unfold canT; exact h
  | .unit, v, l, h => by unfold canT; exact h
  | .arr _ _, v, l, h => by unfold canT; exact h
  | .opq _, v, l, h => by unfold canT; exact h
theorem CRs_canTs {c : Cx} : ∀ (e : Ty) (r : List AV) (l : List Value), CRs c r l → CRs c (canTs e r) l
  | .pair a b, u :: r, l, h => by
    obtain ⟨p, q, rfl, h2, h3⟩ := h
    exact ⟨p, q, rfl, CR_canT a u p h2, CRs_canTs b r q h3⟩
  | .pair a b, [], l, h => h
  | .int _, v, l, h => by unfold canTs; exact h
  | .bool, v, l, h => by unfold canTs; exact h
  | .str, v, l, h => by unfold canTs; exact h
  | .unit, v, l, h => by unfold canTs; exact h
  | .sl _, v, l, h => by unfold canTs; exact h
  | .arr _ _, v, l, h => by unfold canTs; exact h
  | .opq _, v, l, h => by unfold canTs; exact h
end
theorem aggAV_canT {c : Cx} : ∀ (e : Ty) (v : AV) (l : List Value), CR c v l → aggAV (canT e v) = aggAV v := by
  intro e v l h
  cases e with
  | sl e =>
    rcases canT_sl e v with ⟨rfl, h1⟩ | h1
    · rw [h1]; rfl
    · rw [h1]
  | pair a b =>
    cases v with
    | agg r => cases r <;> rfl
    | _ => rfl
  | _ => unfold canT; rfl
theorem CVs_canAs {c : Cx} (tt : List (Nat × Ty)) : ∀ (r : List AV) (ts : List Nat) (xs : List Value), CVs c r xs → CVs c (canAs tt r ts) xs
  | [], ts, xs, h => by unfold canAs; exact h
  | v :: r, [], xs, h => by unfold canAs; exact h
  | v :: r, t :: ts, xs, h => by
    obtain ⟨x, ys, rfl, h1, h2, h3⟩ := h
    unfold canAs
    refine ⟨x, ys, rfl, ?_, ?_, CVs_canAs tt r ts ys h3⟩
    · split
      · exact CR_canT _ v _ h1
      · exact h1
    · split
      · rw [aggAV_canT _ v _ h1]; exact h2
      · exact h2
theorem pures_append : ∀ l l' : List AV, pureAV.pures (l ++ l') = (pureAV.pures l && pureAV.pures l')
  | [], l' => by simp [pureAV.pures]
  | v :: l, l' => by rw [List.cons_append]; simp only [pureAV.pures]; rw [pures_append l l', Bool.and_assoc]
theorem ownss_append : ∀ l l' : List AV, owns.ownss (l ++ l') = owns.ownss l ++ owns.ownss l'
  | [], l' => by simp [owns.ownss]
  | v :: l, l' => by rw [List.cons_append]; simp only [owns.ownss]; rw [ownss_append l l', List.append_assoc]
mutual
theorem pure_canT : ∀ (e : Ty) (v : AV), pureAV (canT e v) = pureAV v
  | .sl e, v => by
    rcases canT_sl e v with ⟨rfl, h1⟩ | h1
    · rw [h1]; rfl
    · rw [h1]
  | .pair a b, .agg (u :: r) => by
    show (pureAV (canT a u) && pureAV.pures (canTs b r)) = (pureAV u && pureAV.pures r)
    rw [pure_canT a u, pures_canTs b r]
  | .pair a b, .agg [] => rfl
  | .pair a b, .int _ _ => rfl
  | .pair a b, .bool _ => rfl
  | .pair a b, .str _ => rfl
  | .pair a b, .ro _ _ => rfl
  | .pair a b, .arr _ _ _ => rfl
  | .pair a b, .own _ => rfl
  | .pair a b, .ptr _ _ => rfl
  | .pair a b, .vsl _ _ => rfl
  | .pair a b, .rop _ _ => rfl
  | .pair a b, .con _ => rfl
  | .pair a b, .fn _ _ _ => rfl
  | .pair a b, .tup _ => rfl
  | .pair a b, .und => rfl
  | .pair a b, .dead => rfl
  | .int _, v => by unfold canT; rfl
  | .bool, v => by unfold canT; rfl
  | .str, v => by unfold canT; rfl
  | .unit, v => by unfold canT; rfl
  | .arr _ _, v => by unfold canT; rfl
  | .opq _, v => by unfold canT; rfl
theorem pures_canTs : ∀ (e : Ty) (r : List AV), pureAV.pures (canTs e r) = pureAV.pures r
  | .pair a b, u :: r => by
    show (pureAV (canT a u) && pureAV.pures (canTs b r)) = (pureAV u && pureAV.pures r)
    rw [pure_canT a u, pures_canTs b r]
  | .pair a b, [] => rfl
  | .int _, v => by unfold canTs; rfl
  | .bool, v => by unfold canTs; rfl
  | .str, v => by unfold canTs; rfl
  | .unit, v => by unfold canTs; rfl
  | .sl _, v => by unfold canTs; rfl
  | .arr _ _, v => by unfold canTs; rfl
  | .opq _, v => by unfold canTs; rfl
end
theorem pures_canAs (tt : List (Nat × Ty)) : ∀ (r : List AV) (ts : List Nat), pureAV.pures (canAs tt r ts) = pureAV.pures r
  | [], ts => by unfold canAs; rfl
  | v :: r, [] => by unfold canAs; rfl
  | v :: r, t :: ts => by
    unfold canAs
    show (pureAV _ && pureAV.pures (canAs tt r ts)) = (pureAV v && pureAV.pures r)
    rw [pures_canAs tt r ts]
    split
    · rw [pure_canT]
    · rfl
theorem exec_call {c : Call} {f : Operand} {g : FuncId} {fs cs : Array Value} (ho : o.op = .call c) (hc : c.callee = .value f) (hf : a.eval f = .func (.func g) fs cs) (P : Program) (w : World) :
    (execOp a.eval o).run P w = (callFunc g (fs ++ c.args.map a.eval ++ cs)).run P w := by
  simp only [execOp, ho, resolve, hc, Deferred.ofValue, hf, invoke, Sem.run_bind, Sem.run_pure, Result.andThen_ok]

theorem upon_Inv {P : Program} {g : FuncId} {xs : Array Value} {next : Act → World → Prop} {Q : Exit → Act → World → Prop} {D : Value → World → Prop} (h : Inv P g xs w D) (hn : ∀ z w', D z w' → next (a.put o.dst z) w') :
    o.upon P a next Q ((callFunc g xs).run P w) := by
  rcases h with ⟨z, w', h1, h2⟩ | ⟨h1, h2⟩
  · rw [h1, Oper.upon_value]; exact hn _ _ h2
  · rw [h1, Oper.upon_enter]
    refine calls_mono h2 fun e w' h => ?_
    obtain ⟨z, rfl, h⟩ := h
    exact hn z w' h

theorem allFz_spec {hp : List (Nat × Blk)} : ∀ {l : List Nat}, allFz hp l = true → ∀ id ∈ l, ∃ te e xs, lkb hp id = .row te e xs true
  | i :: l, h, id, hm => by
    unfold allFz at h
    rw [Bool.and_eq_true] at h
    rcases List.mem_cons.1 hm with rfl | hm
    · have h := h.1
      split at h
      · rename_i te e xs hb; exact ⟨te, e, xs, hb⟩
      · cases h
    · exact allFz_spec h.2 id hm
theorem okC_fz (R : RR X ρ s a w) {id te : Nat} {e : Ty} {xs : List e.den} (hb : lkb s.hp id = .row te e xs true) (hl : live (lkb s.hp id)) : okC X ρ s.hp w (ρ id) := by
  have hh := R.heap id
  rw [hb] at hh hl
  obtain ⟨g0, hh⟩ := hh
  obtain ⟨g1, _⟩ := hh hl
  refine ⟨.inr g1, (R.lt (by rw [hb]; exact hl)).2, fun i hi he => ?_⟩
  have := R.inj i id (liveW_live hi) (by rw [hb]; exact hl) he
  subst this
  rw [hb] at hi; exact hi
/-- By contract. -/
theorem ex_callC {c : Call} {f : Operand} {next : Act → World → Prop} {Q : Exit → Act → World → Prop} {C : AV → Prop} (hE : EnvC E X.P) (R : RR X ρ s a w) (ho : o.op = .call c) (hc : c.callee = .value f) (h : pv E s.hp (opn s.fr) (.call c) C)
    (hn : ∀ v z w', C v → Below w.heap.size w w' → RR X ρ s a w' → VR (cx X ρ s.hp w') v z → next (a.put o.dst z) w') : o.wp X.P a w next Q := by
  simp only [pv] at h
  rw [hc] at h; simp only at h
  have hf := VR_opn R f
  generalize opn s.fr f = vf at h hf
  split at h
  · rename_i g fs cs
    split at h
    · rename_i F hF
      obtain ⟨r, hr, h⟩ := callK_elim h
      · obtain ⟨h1, hC⟩ := cond_elim h
        rw [Bool.and_eq_true, Bool.and_eq_true] at h1
        obtain ⟨⟨h1, h2⟩, h3⟩ := h1
        obtain ⟨fs', cs', ef, hfs, hcs⟩ := VR_fn hf
        have hok := okVs_pure s.hp _ h1
        rw [okVs_append, okVs_append, Bool.and_eq_true, Bool.and_eq_true] at hok
        have hargs : CVs (cx X ρ s.hp w) (c.args.toList.map (opn s.fr)) (c.args.toList.map a.eval) := CVs_of_VR _ _ (fun q => VR_opn R q) _ hok.1.2
        have hown := fun id (h : id ∈ owns.ownss fs ++ owns.ownss (c.args.toList.map (opn s.fr)) ++ owns.ownss cs) => h
        rw [List.map_append, List.map_append, pures_append, pures_append, Bool.and_eq_true, Bool.and_eq_true] at h1
        have hsub : ∀ id, id ∈ owns.ownss fs ∨ id ∈ owns.ownss (c.args.toList.map (opn s.fr)) ∨ id ∈ owns.ownss cs → id ∈ owns.ownss (fs ++ c.args.toList.map (opn s.fr) ++ cs) := by
          intro id h
          rw [ownss_append, ownss_append, List.mem_append, List.mem_append]
          rcases h with h | h | h
          · exact .inl (.inl h)
          · exact .inl (.inr h)
          · exact .inr h
        have hN1 := norms_CVs R _ _ (owns.ownss (fs ++ c.args.toList.map (opn s.fr) ++ cs)) (fun id h => hsub id (.inl h)) h1.1.1 hfs
        have hN2 := norms_CVs R _ _ (owns.ownss (fs ++ c.args.toList.map (opn s.fr) ++ cs)) (fun id h => hsub id (.inr (.inl h))) h1.1.2 hargs
        have hN3 := norms_CVs R _ _ (owns.ownss (fs ++ c.args.toList.map (opn s.fr) ++ cs)) (fun id h => hsub id (.inr (.inr h))) h1.2 hcs
        have hN := CVs_append _ _ _ _ (CVs_append _ _ _ _ hN1 (CVs_canAs E.tt _ c.argTypes.toList _ hN2)) hN3
        have hP : pureAV.pures (callArgs E.tt s.hp fs (c.args.toList.map (opn s.fr)) cs c.argTypes.toList) = true := by
          unfold callArgs
          rw [pures_append, pures_append, h1.1.1, h1.2, pures_canAs, h1.1.2]; rfl
        have hcon := hE.fns g F hF (okL X ρ s.hp w (owns.ownss (fs ++ c.args.toList.map (opn s.fr) ++ cs))) w _ (fs' ++ c.args.map a.eval ++ cs') r (fun b hb => by
          rcases hb with hb | ⟨id, _, hl, rfl⟩
          · exact hb.2.1
          · exact (R.lt hl).2) (R.gl.mono fun b hb => ⟨.inl hb, .refl _ _⟩) hr hP (by rw [Array.toList_append, Array.toList_append, Array.toList_map]; exact hN)
        unfold Oper.wp
        rw [exec_call ho hc ef]
        refine upon_Inv hcon fun z w' ⟨hB, hv⟩ => ?_
        obtain ⟨_, R'⟩ := R.world hB
        refine hn r z w' hC hB R' ?_
        rw [Bool.or_eq_true] at h3
        rcases h3 with h3 | h3
        · exact VR_nolead r z (by simpa using h3) hv
        · have hsub : ∀ b, (cx0 (fun b => (okL X ρ s.hp w (owns.ownss (fs ++ c.args.toList.map (opn s.fr) ++ cs)) b ∨ w.heap.size ≤ b) ∧ b < w'.heap.size) w').ok b → (cx X ρ s.hp w').ok b ∧ SameC w' w' b := fun b hb => ⟨?_, .refl _ _⟩
          · exact VR_pureR hsub r z h2 hv
          have hb : (okL X ρ s.hp w (owns.ownss (fs ++ c.args.toList.map (opn s.fr) ++ cs)) b ∨ w.heap.size ≤ b) ∧ b < w'.heap.size := hb
          obtain ⟨hb, hlt⟩ := hb
          rcases hb with (hb | ⟨id, hm, hlv, heq⟩) | hb
          · exact ⟨hb.1, hlt, hb.2.2⟩
          · obtain ⟨te, e, xs, hrow⟩ := allFz_spec h3 id hm
            rw [heq]
            have := okC_fz R hrow hlv
            exact ⟨this.1, by rw [← heq]; exact hlt, this.2.2⟩
          · exact ⟨.inr (Nat.le_trans R.base_le hb), hlt, fun id hl he => by have := (R.lt (liveW_live hl)).2; omega⟩
    · exact h.elim
  · exact h.elim

/-- A call that is looked into: what the caller's frame comes to. -/
def stkOf (X : Fix) (s : St) (i : Nat) : AV := if i % 2 = 0 then lk s.fr (i / 2) else match s.ks with
  | some ks => killAll ks.1 (X.stk (i / 2))
  | none => .dead
def stvOf (X : Fix) (a : Act) (i : Nat) : Value := if i % 2 = 0 then a.tmps.getD (i / 2) undef else X.stv (i / 2)

/-- Behind a call that was looked into: the caller's frame. -/
theorem back_up {X1 : Fix} {ρ' : Nat → Nat} {hp' : List (Nat × Blk)} {ks : Ks} {a1 a' : Act} (h0 : X1.ok0 = X.ok0) (hw : X1.w0 = X.w0) (hs : X1.stk = stkOf X s) (hv : X1.stv = stvOf X a)
    (R : RR X ρ s a w) (R2 : RR X1 ρ' ⟨[], hp', some ks⟩ a1 w') (ha : a'.tmps = a.tmps) (hsp : ∀ ks, s.ks = some ks → X.sp ks.2 w') (hdf : DefOk X.nm (max X.base X.lim) a'.defers w') (hlim : X.lim ≤ w'.heap.size) :
    RR X ρ' ⟨killAllF ks.1 s.fr, hp', appK (some ks) s.ks⟩ a' w' := by
  have hb : X1.base = X.base := by unfold Fix.base; rw [hw]
  have hc : ∀ hp w, cx X1 ρ' hp w = cx X ρ' hp w := by
    intro hp w
    unfold cx okC
    rw [h0, hb]
  have hstk := R2.stk
  rw [show (⟨[], hp', some ks⟩ : St).hp = hp' from rfl, hc, hs, hv] at hstk
  have hheap := R2.heap
  rw [show (⟨[], hp', some ks⟩ : St).hp = hp' from rfl, hc] at hheap
  refine ⟨by rw [ha]; exact R.size, hdf, fun b hb' => R.ok0 b hb', by have := R2.below; rw [hb, hw] at this; exact this, fun id => ?_, R2.inj, fun d => ?_, fun ks' hks' i => ?_, fun ks' hks' => ?_, hlim⟩
  · have hh := hheap id
    show HB X _ id (lkb hp' id)
    cases hk : lkb hp' id with
    | none => trivial
    | var e v f => rw [hk] at hh; unfold HB at hh ⊢; rw [hb] at hh; exact hh
    | row te e xs f => rw [hk] at hh; unfold HB at hh ⊢; rw [hb] at hh; exact hh
  · have := hstk ks rfl (2 * d)
    have e1 : stkOf X s (2 * d) = lk s.fr d := by
      unfold stkOf
      rw [if_pos (by omega)]; congr 1; omega
    have e2 : stvOf X a (2 * d) = a.tmps.getD d undef := by
      unfold stvOf
      rw [if_pos (by omega)]; congr 1; omega
    show VR (cx X ρ' hp' w') (lk (killAllF ks.1 s.fr) d) _
    rw [lk_killAllF, ha]
    rw [e1, e2] at this
    exact this
  · cases hk : s.ks with
    | none => rw [hk] at hks'; obtain ⟨_, _⟩ := ks; cases hks'
    | some l =>
      rw [hk] at hks'
      obtain ⟨k1, p1⟩ := ks
      obtain ⟨l, p⟩ := l
      have hks' : some (k1 ++ l, p) = some ks' := hks'
      cases hks'
      have this := hstk (k1, p1) rfl (2 * i + 1)
      have e1 : stkOf X s (2 * i + 1) = killAll l (X.stk i) := by
        unfold stkOf
        rw [if_neg (by omega), hk]
        have : (2 * i + 1) / 2 = i := by omega
        rw [this]
      have e2 : stvOf X a (2 * i + 1) = X.stv i := by
        unfold stvOf
        rw [if_neg (by omega)]; congr 1; omega
      rw [e1, e2] at this
      show VR _ (killAll (k1 ++ l) (X.stk i)) _
      rw [killAll_append]; exact this
  · cases hk : s.ks with
    | none => rw [hk] at hks'; obtain ⟨_, _⟩ := ks; cases hks'
    | some l =>
      rw [hk] at hks'
      obtain ⟨k1, p1⟩ := ks
      obtain ⟨l, p⟩ := l
      have hks' : some (k1 ++ l, p) = some ks' := hks'
      cases hks'
      exact hsp (l, p) hk

theorem ex_callS {c : Call} {f : Operand} {next : Act → World → Prop} {Q : Exit → Act → World → Prop} {g : FuncId} {fs cs : List AV} {T : Proc} {off : Nat} {D : List (Nat × Blk) → Option Ks → AV → Prop} (hE : EnvC E X.P) (R : RR X ρ s a w) (ho : o.op = .call c) (hc : c.callee = .value f)
    (hf : opn s.fr f = .fn (.func g) fs cs) (hT : lkP E.prs g = some T) (hok : okVs (fs ++ c.args.toList.map (opn s.fr) ++ cs) = true) (h : T off s.hp (fs ++ c.args.toList.map (opn s.fr) ++ cs) D)
    (hn : ∀ ρ' hp' ks r z w', D hp' (some ks) r → RR X ρ' ⟨killAllF ks.1 s.fr, hp', appK (some ks) s.ks⟩ a w' → VR (cx X ρ' hp' w') r z → next (a.put o.dst z) w') : o.wp X.P a w next Q := by
  have hfv := VR_opn R f
  rw [hf] at hfv
  obtain ⟨fs', cs', ef, hfs, hcs⟩ := VR_fn hfv
  have hok' := hok
  rw [okVs_append, okVs_append, Bool.and_eq_true, Bool.and_eq_true] at hok'
  have hargs : CVs (cx X ρ s.hp w) (c.args.toList.map (opn s.fr)) (c.args.toList.map a.eval) := CVs_of_VR _ _ (fun q => VR_opn R q) _ hok'.1.2
  have hall := CVs_append _ _ _ _ (CVs_append _ _ _ _ hfs hargs) hcs
  obtain ⟨X1, hX1⟩ : ∃ X1 : Fix, X1 = { X with stk := stkOf X s, stv := stvOf X a, lim := w.heap.size, sp := fun _ w' => (∀ ks, s.ks = some ks → X.sp ks.2 w') ∧ DefOk X.nm (max X.base X.lim) a.defers w', spk := fun _ w1 w2 hk hz h => ⟨fun ks hks => X.spk _ _ _ (hk.mono R.lim) hz (h.1 ks hks), h.2.keepB R.defers.1 hk⟩ } := ⟨_, rfl⟩
  have R1 : RR X1 ρ ⟨[], s.hp, some ([], 0)⟩ { a with defers := [] } w := by
    subst hX1
    refine ⟨R.size, ⟨Marks.nil _ _, fun _ => rfl⟩, R.ok0, R.below, R.heap, R.inj, fun d => trivial, fun ks hks i => ?_, fun ks hks => ⟨R.sp, R.defers⟩, Nat.le_refl _⟩
    cases hks
    show VR (cx X ρ s.hp w) (stkOf X s i) (stvOf X a i)
    unfold stkOf stvOf
    by_cases hi : i % 2 = 0
    · rw [if_pos hi, if_pos hi]; exact R.fr _
    · rw [if_neg hi, if_neg hi]
      cases hk : s.ks with
      | none => trivial
      | some ks => exact R.stk ks hk _
  have hcon := hE.prs g T hT off X1 ρ s.hp w _ (fs' ++ c.args.map a.eval ++ cs') { a with defers := [] } D (by rw [hX1]) R1 hok (by subst hX1; rw [Array.toList_append, Array.toList_append, Array.toList_map]; exact hall) h
  unfold Oper.wp
  rw [exec_call ho hc ef]
  refine upon_Inv hcon fun z w' ⟨ρ', hp', ks, r, a1, hD, R2, hv⟩ => ?_
  obtain ⟨k1, k2⟩ : (∀ ks, s.ks = some ks → X.sp ks.2 w') ∧ DefOk X.nm (max X.base X.lim) a.defers w' := by have := R2.sp ks rfl; rw [hX1] at this; exact this
  have k3 : w.heap.size ≤ w'.heap.size := by have := R2.lim; rw [hX1] at this; exact this
  have R3 := back_up (X := X) (a' := a) (by rw [hX1]) (by rw [hX1]) (by rw [hX1]) (by rw [hX1]) R R2 rfl k1 k2 (Nat.le_trans R.lim k3)
  exact hn ρ' hp' ks r z w' hD R3 (by rw [hX1] at hv; exact hv)

/-- The fence of a frame: of a function's; of a round's of loop l. -/
def FW (ro : Option Nat) : Fence := { fn := fun _ => True, depth := none, alive := false, round := ro }

theorem ex_callY {c : Call} {f : Operand} {next : Act → World → Prop} {Q : Exit → Act → World → Prop} {l : Nat} {Y : List Nat → Proc} {S : List Nat} {off n : Nat} {D : List (Nat × Blk) → Option Ks → AV → Prop} (hY : YOk X l Y) (hnm : X.nm = true) (R : RR X ρ s a w) (ho : o.op = .call c) (hc : c.callee = .value f)
    (hf : opn s.fr f = .fn (.yield l) [] []) (hks : s.ks = some (S, 0)) (hok : okVs (c.args.toList.map (opn s.fr)) = true) (h : Y S off s.hp (c.args.toList.map (opn s.fr)) D)
    (hn : ∀ ρ' hp' ks r z w', D hp' (some ks) r → RR X ρ' ⟨killAllF ks.1 s.fr, hp', appY (some ks) s.ks⟩ a w' → VR (cx X ρ' hp' w') r z → next (a.put o.dst z) w') : o.wpIn (FW none) n X.P a w next Q := by
  have hfv := VR_opn R f
  rw [hf] at hfv
  obtain ⟨fs', cs', ef, hfs, hcs⟩ := VR_fn hfv
  obtain rfl : fs' = #[] := by
    have : fs'.toList = [] := hfs
    simpa using this
  obtain rfl : cs' = #[] := by
    have : cs'.toList = [] := hcs
    simpa using this
  have hargs : CVs (cx X ρ s.hp w) (c.args.toList.map (opn s.fr)) (c.args.toList.map a.eval) := CVs_of_VR _ _ (fun q => VR_opn R q) _ hok
  have hd := R.defers.2 hnm
  obtain ⟨X1, hX1⟩ : ∃ X1 : Fix, X1 = { X with stk := stkOf X s, stv := stvOf X a } := ⟨_, rfl⟩
  have R1 : RR X1 ρ ⟨[], s.hp, some ([], 0)⟩ a w := by
    subst hX1
    refine ⟨R.size, R.defers, R.ok0, R.below, R.heap, R.inj, fun d => trivial, fun ks hks i => ?_, fun ks hks' => ?_, R.lim⟩
    · cases hks
      show VR (cx X ρ s.hp w) (stkOf X s i) (stvOf X a i)
      unfold stkOf stvOf
      by_cases hi : i % 2 = 0
      · rw [if_pos hi, if_pos hi]; exact R.fr _
      · rw [if_neg hi, if_neg hi]
        cases hk : s.ks with
        | none => trivial
        | some ks => exact R.stk ks hk _
    · cases hks'
      exact R.sp (S, 0) hks
  obtain ⟨fn, tmps, asg, body, hy, hround⟩ := hY S off X1 ρ s.hp w _ (c.args.map a.eval) a D (by rw [hX1]) (by rw [hX1]) (by rw [hX1]) (by rw [hX1]) (fun i => ⟨2 * i + 1, by
      subst hX1
      show stkOf X s (2 * i + 1) = _
      unfold stkOf
      rw [if_neg (by omega), hks]
      have : (2 * i + 1) / 2 = i := by omega
      rw [this], by
      subst hX1
      show stvOf X a (2 * i + 1) = _
      unfold stvOf
      rw [if_neg (by omega)]; congr 1; omega⟩) R1 hok (by subst hX1; rw [Array.toList_map]; exact hargs) h
  refine ⟨fun _ _ => trivial, ?_⟩
  have hrun : (o.semAt (FW none).round a.eval).run X.P w = .ok (.round l fn tmps asg body) w := by
    rw [Oper.semAt_eq _ _ _ (by intro c' hc'; rw [ho] at hc'; cases hc')]
    simp only [execOp, ho, resolve, hc, Deferred.ofValue, ef, invoke, Sem.run_bind, Sem.run_pure, Result.andThen_ok]
    simpa using hy
  rw [hrun, Oper.uponIn_round]
  refine ⟨(fun h => by cases h), ?_⟩
  refine RoundIn.mono (R := fun e w' => ∃ z, e = .returned z ∧ ∃ ρ' hp' ks r a1, D hp' (some ks) r ∧ RR X1 ρ' ⟨[], hp', some ks⟩ a1 w' ∧ VR (cx X1 ρ' hp' w') r z) ⟨trivial, fun c cs _ => hround.2 c cs (room_wide _)⟩ ?_
  rintro e w' ⟨z, rfl, ρ', hp', ks, r, a1, hD, R2, hv⟩
  subst hX1
  refine hn ρ' hp' ks r z w' hD ⟨R.size, ⟨by rw [hd]; exact Marks.nil _ _, fun _ => hd⟩, R.ok0, R2.below, R2.heap, R2.inj, fun d => ?_, fun ks' hks' i => ?_, fun ks' hks' => ?_, R2.lim⟩ hv
  · have := R2.stk ks rfl (2 * d)
    have e1 : stkOf X s (2 * d) = lk s.fr d := by
      unfold stkOf
      rw [if_pos (by omega)]; congr 1; omega
    have e2 : stvOf X a (2 * d) = a.tmps.getD d undef := by
      unfold stvOf
      rw [if_pos (by omega)]; congr 1; omega
    show VR (cx X ρ' hp' w') (lk (killAllF ks.1 s.fr) d) _
    rw [lk_killAllF]
    have this : VR (cx X ρ' hp' w') (killAll ks.1 (stkOf X s (2 * d))) (stvOf X a (2 * d)) := this
    rw [e1, e2] at this
    exact this
  · rw [hks] at hks'
    obtain ⟨k1, p1⟩ := ks
    have hks' : some (k1 ++ S, p1) = some ks' := hks'
    cases hks'
    have := R2.stk (k1, p1) rfl (2 * i + 1)
    have this : VR (cx X ρ' hp' w') (killAll k1 (stkOf X s (2 * i + 1))) (stvOf X a (2 * i + 1)) := this
    have e1 : stkOf X s (2 * i + 1) = killAll S (X.stk i) := by
      unfold stkOf
      rw [if_neg (by omega), hks]
      have : (2 * i + 1) / 2 = i := by omega
      rw [this]
    have e2 : stvOf X a (2 * i + 1) = X.stv i := by
      unfold stvOf
      rw [if_neg (by omega)]; congr 1; omega
    rw [e1, e2] at this
    show VR _ (killAll (k1 ++ S) (X.stk i)) _
    rw [killAll_append]; exact this
  · rw [hks] at hks'
    obtain ⟨k1, p1⟩ := ks
    have hks' : some (k1 ++ S, p1) = some ks' := hks'
    cases hks'
    exact R2.sp (k1, p1) rfl
end
end Go.Proofs.YtejedlpnejjnbaaV
