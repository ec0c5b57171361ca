/- A loop's head. -/
import Derived.Test.YtejedlpnejjnbaaVcR0
set_option linter.unusedVariables false
set_option linter.unusedSimpArgs false
namespace Go.Proofs.YtejedlpnejjnbaaV
open Go.RowKit

/-! ### References that are gone, as a set -/
mutual
def killM (l : List Nat) : AV → AV
  | .own i => cond (memN l i) .dead (.own i)
  | .ptr i p => cond (memN l i) .dead (.ptr i p)
  | .vsl i n => cond (memN l i) .dead (.vsl i n)
  | .agg r => .agg (killMs l r)
  | .tup r => .tup (killMs l r)
  | .fn f a c => .fn f (killMs l a) (killMs l c)
  | .int k n => .int k n
  | .bool b => .bool b
  | .str s => .str s
  | .ro e xs => .ro e xs
  | .arr n e xs => .arr n e xs
  | .rop e x => .rop e x
  | .con v => .con v
  | .und => .und
  | .dead => .dead
def killMs (l : List Nat) : List AV → List AV
  | [] => []
  | v :: r => killM l v :: killMs l r
end
mutual
theorem killM_nil : ∀ v : AV, killM [] v = v
  | .agg r => by simp only [killM, killMs_nil r]
  | .tup r => by simp only [killM, killMs_nil r]
  | .fn f a c => by simp only [killM, killMs_nil a, killMs_nil c]
  | .own i => rfl
  | .ptr i p => rfl
  | .vsl i n => rfl
  | .int k n => rfl
  | .bool b => rfl
  | .str s => rfl
  | .ro e xs => rfl
  | .arr n e xs => rfl
  | .rop e x => rfl
  | .con v => rfl
  | .und => rfl
  | .dead => rfl
theorem killMs_nil : ∀ r : List AV, killMs [] r = r
  | [] => rfl
  | v :: r => by simp only [killMs, killM_nil v, killMs_nil r]
end
theorem beq_swap (a b : Nat) : Nat.beq a b = Nat.beq b a := by
  rw [Bool.eq_iff_iff]
  constructor <;> intro h <;> (have := Nat.eq_of_beq_eq_true h; subst this; exact Nat.beq_refl _)
mutual
theorem kill_killM (k : Nat) (l : List Nat) : ∀ v : AV, kill k (killM l v) = killM (k :: l) v
  | .own i => by
    simp only [killM, memN]
    cases h1 : memN l i <;> simp only [cond_true, cond_false, kill]
    · rw [beq_swap i k]; cases Nat.beq k i <;> rfl
    · cases Nat.beq k i <;> rfl
  | .ptr i p => by
    simp only [killM, memN]
    cases h1 : memN l i <;> simp only [cond_true, cond_false, kill]
    · rw [beq_swap i k]; cases Nat.beq k i <;> rfl
    · cases Nat.beq k i <;> rfl
  | .vsl i n => by
    simp only [killM, memN]
    cases h1 : memN l i <;> simp only [cond_true, cond_false, kill]
    · rw [beq_swap i k]; cases Nat.beq k i <;> rfl
    · cases Nat.beq k i <;> rfl
  | .agg r => by simp only [killM, kill, kills_killMs k l r]
  | .tup r => by simp only [killM, kill, kills_killMs k l r]
  | .fn f a c => by simp only [killM, kill, kills_killMs k l a, kills_killMs k l c]
  | .int k n => rfl
  | .bool b => rfl
  | .str s => rfl
  | .ro e xs => rfl
  | .arr n e xs => rfl
  | .rop e x => rfl
  | .con v => rfl
  | .und => rfl
  | .dead => rfl
theorem kills_killMs (k : Nat) (l : List Nat) : ∀ r : List AV, kills k (killMs l r) = killMs (k :: l) r
  | [] => rfl
  | v :: r => by simp only [killMs, kills, kill_killM k l v, kills_killMs k l r]
end
theorem killAll_eq : ∀ (l : List Nat) (v : AV), killAll l v = killM l v
  | [], v => (killM_nil v).symm
  | k :: l, v => by show kill k (killAll l v) = _; rw [killAll_eq l v, kill_killM]
mutual
theorem killM_congr {l l' : List Nat} (h : ∀ i, memN l i = memN l' i) : ∀ v : AV, killM l v = killM l' v
  | .own i => by simp only [killM, h]
  | .ptr i p => by simp only [killM, h]
  | .vsl i n => by simp only [killM, h]
  | .agg r => by simp only [killM, killMs_congr h r]
  | .tup r => by simp only [killM, killMs_congr h r]
  | .fn f a c => by simp only [killM, killMs_congr h a, killMs_congr h c]
  | .int k n => rfl
  | .bool b => rfl
  | .str s => rfl
  | .ro e xs => rfl
  | .arr n e xs => rfl
  | .rop e x => rfl
  | .con v => rfl
  | .und => rfl
  | .dead => rfl
theorem killMs_congr {l l' : List Nat} (h : ∀ i, memN l i = memN l' i) : ∀ r : List AV, killMs l r = killMs l' r
  | [] => rfl
  | v :: r => by simp only [killMs, killM_congr h v, killMs_congr h r]
end
theorem memN_append : ∀ (l l' : List Nat) (i : Nat), memN (l ++ l') i = (memN l i || memN l' i)
  | [], _, _ => by simp [memN]
  | k :: l, l', i => by
    rw [List.cons_append]; simp only [memN]
    rw [memN_append l l' i]; cases Nat.beq k i <;> simp
theorem memN_sub {kl : List Nat} : ∀ {l : List Nat}, subN l kl = true → ∀ i, memN l i = true → memN kl i = true
  | [], _, i, h => by cases h
  | k :: l, h, i, hi => by
    have h : (memN kl k && subN l kl) = true := h
    rw [Bool.and_eq_true] at h
    simp only [memN] at hi
    cases hb : Nat.beq k i with
    | true => have := Nat.eq_of_beq_eq_true hb; subst this; exact h.1
    | false => rw [hb] at hi; exact memN_sub h.2 i hi
theorem VR_killAll (c : Cx) : ∀ (l : List Nat) (v : AV) (x : Value), VR c v x → VR c (killAll l v) x
  | [], _, _, h => h
  | k :: l, v, x, h => VR_kill c k _ _ (VR_killAll c l v x h)
theorem VR_sub {c : Cx} {l kl : List Nat} {v : AV} {x : Value} (h : subN l kl = true) (hv : VR c (killAll l v) x) : VR c (killAll kl v) x := by
  have := VR_killAll c kl _ x hv
  rw [← killAll_append, killAll_eq, killM_congr (l' := kl) (fun i => by
    rw [memN_append]
    cases h1 : memN kl i with
    | true => rfl
    | false =>
      cases h2 : memN l i with
      | false => rfl
      | true => rw [memN_sub h i h2] at h1; cases h1), ← killAll_eq] at this
  exact this

section
variable {E : Env} {X : Fix} {ρ : Nat → Nat} {s : St} {a : Act} {w w' : World} {o : Oper}

theorem lk_pickF (fr : List (Nat × AV)) : ∀ (m : List Nat) (d : Nat), lk (pickF m fr) d = lk fr d ∨ lk (pickF m fr) d = .dead
  | [], _ => .inr rfl
  | k :: m, d => by
    show lk ((k, lk fr k) :: pickF m fr) d = _ ∨ lk ((k, lk fr k) :: pickF m fr) d = _
    rw [lk_cons]
    by_cases h : k = d
    · subst h; rw [if_pos rfl]; exact .inl rfl
    · rw [if_neg h]; exact lk_pickF fr m d

theorem RR.pick (R : RR X ρ s a w) (m : List Nat) : RR X ρ ⟨pickF m s.fr, s.hp, s.ks⟩ a w :=
  ⟨R.size, R.defers, R.ok0, R.below, R.heap, R.inj, fun d => by
    rcases lk_pickF s.fr m d with h | h
    · rw [show (⟨pickF m s.fr, s.hp, s.ks⟩ : St).fr = pickF m s.fr from rfl, h]; exact R.fr d
    · rw [show (⟨pickF m s.fr, s.hp, s.ks⟩ : St).fr = pickF m s.fr from rfl, h]; trivial, R.stk, R.sp, R.lim⟩

theorem RR.drop (R : RR X ρ s a w) (k : Nat) : RR X ρ ((s.kill k).putb k .none) a w :=
  (RR.turn (ρ' := ρ) (w' := w) R k .none (fun _ _ => rfl) R.below (Nat.le_refl _) (fun _ _ _ => rfl) (fun h => h.elim) (fun h => h.elim) (fun _ _ _ => trivial)).2

theorem RR.drops : ∀ (l : List Nat) {s : St}, RR X ρ s a w → RR X ρ (dropK l s) a w
  | [], _, R => R
  | k :: l, s, R => by
    simp only [dropK]
    refine RR.drops l ?_
    split
    · exact R
    · exact R.drop k

/-- A row without elements. -/
theorem RR.nilrow (hE : EnvT E X.P) (R : RR X ρ s a w) {t te : TypeId} {e : Ty} (ht : lkT E.tt t = some (.sl e)) (id : Nat) :
    RR X ρ ((s.clr id).putb id (.row te e [] false)) a w ∧ ∀ c, c = cx X ρ ((s.clr id).putb id (.row te e [] false)).hp w → CR c (.own id) [.slice none 0 0] := by
  have hW := TyOk.wf _ _ (TyOk_sl (hE.tt t _ ht)).choose_spec.2
  refine ⟨(RR.turnC (ρ' := ρ) (w' := w) R id (.row te e [] false) (fun _ _ => rfl) R.below (Nat.le_refl _) (fun _ _ _ => rfl) (fun h => absurd rfl h) (fun h => absurd rfl h) (fun _ _ _ => ⟨hW, fun h => absurd rfl h⟩)).2, fun c hc => ?_⟩
  subst hc
  have := VR_own_of (c := cx X ρ ((s.clr id).putb id (.row te e [] false)).hp w) (d := id) (A := none) (n := 0) (xs := ([] : List e.den)) (f := false) (te := te) (by
    show lkb ((id, _) :: _) id = _
    rw [lkb_cons, if_pos rfl]) (Nat.zero_le _) (Nat.zero_le _) (fun _ => rfl) (fun h => absurd rfl h)
  exact this.1

theorem RR.convS (hE : EnvT E X.P) (R : RR X ρ s a w) (d id t : Nat) : RR X ρ (convS E d id t s) a w := by
  unfold Go.Proofs.YtejedlpnejjnbaaV.convS
  split
  · rename_i e te h1 h2 h3
    obtain ⟨R1, hv⟩ := R.nilrow (te := te) hE h2 id
    have hx := R.fr d
    rw [h1] at hx
    obtain ⟨ex, _⟩ := VR_con hx
    refine R1.alias (d := d) (v := .own id) ?_
    rw [ex]
    exact ⟨hv _ rfl, rfl⟩
  · exact R

theorem getF_setF {c : Cx} {w0 : AV} (hw0 : CR c w0 [.slice none 0 0]) : ∀ (p : List Nat) (v : AV) (vs : List Value), getF v p = .con (.slice none 0 0) → CR c v vs → CR c (setF v p w0) vs
  | [], v, vs, hg, h => by
    have hg : v = .con (.slice none 0 0) := by unfold getF at hg; exact hg
    subst hg
    obtain ⟨rfl, _⟩ := h
    unfold setF; exact hw0
  | i :: p, v, vs, hg, h => by
    cases v with
    | agg l =>
      simp only [getF] at hg
      split at hg
      · rename_i u hu
        simp only [setF, hu]
        have key : ∀ (l : List AV) (i : Nat) (vs : List Value), l[i]? = some u → CRs c l vs → CRs c (l.set i (setF u p w0)) vs := by
          intro l
          induction l with
          | nil => intro i vs h1 h2; simp at h1
          | cons z l ih =>
            intro i vs h1 h2
            obtain ⟨m, n, rfl, h3, h4⟩ := h2
            cases i with
            | zero =>
              have h1 : some z = some u := h1
              cases h1
              exact ⟨m, n, rfl, getF_setF hw0 p _ m hg h3, h4⟩
            | succ i => exact ⟨m, n, rfl, h3, ih i n (by simpa using h1) h4⟩
        exact key l i vs hu h
      · cases hg
    | _ => simp [getF] at hg
theorem Shp_setF {e0 : Ty} {id : Nat} : ∀ (p : List Nat) (e : Ty) (v : AV), getF v p = .con (.slice none 0 0) → ftyP e p = some (.sl e0) → Shp e v → Shp e (setF v p (.own id))
  | [], e, v, hg, ht, h => by
    simp only [ftyP, Option.some.injEq] at ht
    subst ht
    unfold setF; trivial
  | i :: p, e, v, hg, ht, h => by
    cases v with
    | agg l =>
      simp only [getF] at hg
      split at hg
      · rename_i u hu
        simp only [setF, hu]
        simp only [ftyP] at ht
        split at ht
        · rename_i t1 ht1
          have key : ∀ (e : Ty) (l : List AV) (i : Nat), l[i]? = some u → ftyT e i = some t1 → Shps e l → Shps e (l.set i (setF u p (.own id))) := by
            intro e
            induction e with
            | pair x y _ ih =>
              intro l i h1 h2 h3
              cases l with
              | nil => exact h3
              | cons z l =>
                cases i with
                | zero =>
                  have h1 : some z = some u := h1
                  have h2 : some x = some t1 := h2
                  cases h1; cases h2
                  exact ⟨Shp_setF p _ _ hg ht h3.1, h3.2⟩
                | succ i => exact ⟨h3.1, ih l i (by simpa using h1) h2 h3.2⟩
            | _ => intro l i h1 h2 h3; simp [ftyT] at h2
          have hss : Shps e l := by
            cases e <;> cases l <;> first | exact h | (simp [ftyT] at ht1; done) | exact h.elim
          have q := key e l i hu ht1 hss
          cases e <;> first
            | (simp [ftyT] at ht1; done)
            | skip
          cases hl : l.set i (setF u p (.own id)) with
          | nil => rw [hl] at q; exact q.elim
          | cons z r => rw [hl] at q; exact q
        · cases ht
      · cases hg
    | _ => simp [getF] at hg

theorem RR.convB (hE : EnvT E X.P) (R : RR X ρ s a w) (b : Nat) (p : List Nat) (id t : Nat) : RR X ρ (convB E b p id t s) a w := by
  unfold Go.Proofs.YtejedlpnejjnbaaV.convB
  split
  · rename_i e te h2 h3
    obtain ⟨R1, hv⟩ := R.nilrow (te := te) hE h2 id
    generalize hs1 : (s.clr id).putb id (.row te e [] false) = s1 at R1 hv
    obtain ⟨fr, hp, ks⟩ := s1
    simp only
    split
    · rename_i e' v f hb
      split
      · rename_i e0 hg ht
        cases hd : decide (e0 = e) with
        | false => exact R
        | true =>
          have hd := of_decide_eq_true hd
          subst hd
          have hh := R1.heap b
          have hb : lkb hp b = .var e' v f := hb
          rw [show (⟨fr, hp, ks⟩ : St).hp = hp from rfl, hb] at hh
          obtain ⟨g1, cs, T, g2, g3, g4, g5⟩ := hh
          refine (RR.write (w' := w) R1 b (.var e' (setF v p (.own id)) f) (fun e v0 f0 he => ?_) (fun te e xs f0 he => ?_) (fun hl => ?_) (fun _ => ?_) R1.below (Nat.le_refl _) (fun _ _ => rfl) (fun c' hc hx => ?_)).2
          · rw [show (⟨fr, hp, ks⟩ : St).hp = hp from rfl, hb] at he; cases he; exact ⟨_, _, rfl⟩
          · rw [show (⟨fr, hp, ks⟩ : St).hp = hp from rfl, hb] at he; cases he
          · rw [show (⟨fr, hp, ks⟩ : St).hp = hp from rfl, hb]; cases f <;> exact hl
          · rw [show (⟨fr, hp, ks⟩ : St).hp = hp from rfl, hb]; trivial
          · refine ⟨by subst hc; exact g1, cs, T, by subst hc; exact g2, ?_, Shp_setF p e' v hg ht g4, g5⟩
            exact CR_ext hx _ _ (Free_no _) (getF_setF (hv _ rfl) p v _ hg g3)
      · exact R
    · exact R
  · exact R
theorem RR.convSs (hE : EnvT E X.P) : ∀ (l : List (Nat × Nat × Nat)) {s : St}, RR X ρ s a w → RR X ρ (convSs E l s) a w
  | [], _, R => R
  | (d, id, t) :: l, s, R => RR.convSs hE l (R.convS hE d id t)
theorem RR.convBs (hE : EnvT E X.P) : ∀ (l : List (Nat × List Nat × Nat × Nat)) {s : St}, RR X ρ s a w → RR X ρ (convBs E l s) a w
  | [], _, R => R
  | (b, p, id, t) :: l, s, R => RR.convBs hE l (R.convB hE b p id t)

theorem outL_none {mb : List Nat} {full : List (Nat × Blk)} {id : Nat} (hm : memN mb id = false) : ∀ hp : List (Nat × Blk), outL mb full hp = true → (∃ b, (id, b) ∈ hp) → lkb full id = .none
  | [], _, h => by obtain ⟨_, h⟩ := h; cases h
  | (k, b) :: t, h, hx => by
    have h : ((memN mb k || (match lkb full k with | .none => true | _ => false)) && outL mb full t) = true := h
    rw [Bool.and_eq_true, Bool.or_eq_true] at h
    by_cases he : k = id
    · subst he
      rcases h.1 with h1 | h1
      · rw [hm] at h1; cases h1
      · cases hb : lkb full k with
        | none => rfl
        | var _ _ _ => rw [hb] at h1; cases h1
        | row _ _ _ _ => rw [hb] at h1; cases h1
    · obtain ⟨b', hx⟩ := hx
      cases hx with
      | head => exact absurd rfl he
      | tail _ hx => exact outL_none hm t h.2 ⟨b', hx⟩
theorem lkb_notin {id : Nat} : ∀ hp : List (Nat × Blk), (¬ ∃ b, (id, b) ∈ hp) → lkb hp id = .none
  | [], _ => rfl
  | (k, b) :: t, h => by
    rw [lkb_cons, if_neg (fun he => h ⟨b, by subst he; exact List.mem_cons_self⟩)]
    exact lkb_notin t fun ⟨b', h'⟩ => h ⟨b', List.mem_cons_of_mem _ h'⟩
theorem lkb_pickH (mb : List Nat) (hp : List (Nat × Blk)) (h : outL mb hp hp = true) (id : Nat) : lkb (pickH mb hp) id = lkb hp id := by
  have h1 : memN mb id = true → lkb (pickH mb hp) id = lkb hp id := by
    clear h
    induction mb with
    | nil => intro h; cases h
    | cons k l ih =>
      intro hm
      show lkb ((k, lkb hp k) :: pickH l hp) id = _
      rw [lkb_cons]
      by_cases he : k = id
      · subst he; rw [if_pos rfl]
      · rw [if_neg he]
        refine ih ?_
        simp only [memN] at hm
        cases hb : Nat.beq k id with
        | true => exact absurd (Nat.eq_of_beq_eq_true hb) he
        | false => rw [hb] at hm; exact hm
  cases hm : memN mb id with
  | true => exact h1 hm
  | false =>
    have h3 : lkb hp id = .none := by
      by_cases hx : ∃ b, (id, b) ∈ hp
      · exact outL_none hm hp h hx
      · exact lkb_notin hp hx
    have h2 : lkb (pickH mb hp) id = .none := by
      clear h h1
      induction mb with
      | nil => rfl
      | cons k l ih =>
        show lkb ((k, lkb hp k) :: pickH l hp) id = _
        rw [lkb_cons]
        simp only [memN] at hm
        cases hb : Nat.beq k id with
        | true => rw [hb] at hm; cases hm
        | false =>
          rw [hb] at hm
          rw [if_neg (fun he => by subst he; rw [Nat.beq_refl] at hb; cases hb)]
          exact ih hm
    rw [h2, h3]

/-- The same blocks, in another list. -/
theorem RR.same (R : RR X ρ s a w) {hp' : List (Nat × Blk)} (h : ∀ id, lkb hp' id = lkb s.hp id) : RR X ρ ⟨s.fr, hp', s.ks⟩ a w := by
  have hext : Ext (fun _ => False) (cx X ρ s.hp w) (cx X ρ hp' w) := by
    refine ⟨fun b hb => ⟨⟨hb.1, hb.2.1, fun id hl => hb.2.2 id (by rw [h] at hl; exact hl)⟩, .refl _ _⟩, fun id e v f _ hv => ⟨rfl, v, f, (h id).trans hv⟩, fun id te e xs f _ hv => ⟨xs, f, (h id).trans hv, rfl, fun _ => ⟨rfl, rfl⟩⟩⟩
  refine ⟨R.size, R.defers, R.ok0, R.below, fun id => ?_, fun id id' h1 h2 he => R.inj id id' (by rw [← h]; exact h1) (by rw [← h]; exact h2) he, fun d => VR_ext hext _ _ (Free_no _) (R.fr d), fun ks hks i => VR_ext hext _ _ (Free_no _) (R.stk ks hks i), R.sp, R.lim⟩
  show HB X _ id (lkb hp' id)
  rw [h]
  have hh := R.heap id
  cases hb : lkb s.hp id with
  | none => trivial
  | var e v f =>
    rw [hb] at hh
    obtain ⟨g1, cs, T, g2, g3, g4, g5⟩ := hh
    exact ⟨g1, cs, T, g2, CR_ext hext _ _ (Free_no _) g3, g4, g5⟩
  | row te e xs f =>
    rw [hb] at hh
    obtain ⟨g0, hh⟩ := hh
    refine ⟨g0, fun hne => ?_⟩
    obtain ⟨g1, cs, g2, g3, g4⟩ := hh hne
    exact ⟨g1, cs, g2, g3, EncL_mono (fun x vs h => Enc_mono hext.ok e x vs h) _ _ g4⟩

theorem VR_canT {c : Cx} (e : Ty) {v : AV} {x : Value} (h : VR c v x) : VR c (canT e v) x := by
  have main : ∀ u : AV, (∀ l, u ≠ .tup l) → u ≠ .und → u ≠ .dead → VR c u x → VR c (canT e u) x := by
    intro u h1 h2 h3 h
    have hc : CR c u x.cells.toList ∧ aggAV u = vAgg x := by
      cases u <;> first | exact h | exact absurd rfl (h1 _) | exact absurd rfl h2 | exact absurd rfl h3
    have g1 := CR_canT e u _ hc.1
    have g2 : aggAV (canT e u) = vAgg x := by rw [aggAV_canT e u _ hc.1]; exact hc.2
    have g3 : (∀ l, canT e u ≠ .tup l) ∧ canT e u ≠ .und ∧ canT e u ≠ .dead := by
      cases e with
      | sl e => rcases canT_sl e u with ⟨_, h4⟩ | h4 <;> rw [h4] <;> first | exact ⟨h1, h2, h3⟩ | exact ⟨(fun _ h => by cases h), (fun h => by cases h), (fun h => by cases h)⟩
      | pair a b =>
        cases u with
        | agg r => cases r <;> exact ⟨(fun _ h => by cases h), (fun h => by cases h), (fun h => by cases h)⟩
        | _ => first | exact ⟨h1, h2, h3⟩
      | _ => unfold canT; exact ⟨h1, h2, h3⟩
    cases hv : canT e u <;> rw [hv] at g1 g2 g3 <;> first | exact ⟨g1, g2⟩ | exact absurd rfl (g3.1 _) | exact absurd rfl g3.2.1 | exact absurd rfl g3.2.2
  have same : ∀ u : AV, (u = .und ∨ u = .dead ∨ ∃ l, u = .tup l) → canT e u = u := by
    intro u hu
    cases e with
    | sl e => rcases canT_sl e u with ⟨h1, _⟩ | h1
              · subst h1; rcases hu with hu | hu | ⟨l, hu⟩ <;> cases hu
              · exact h1
    | pair a b => rcases hu with rfl | rfl | ⟨l, rfl⟩ <;> rfl
    | _ => unfold canT; rfl
  cases v with
  | tup l => rw [same _ (.inr (.inr ⟨l, rfl⟩))]; exact h
  | und => rw [same _ (.inl rfl)]; exact h
  | dead => rw [same _ (.inr (.inl rfl))]; exact h
  | _ => exact main _ (fun _ h => by cases h) (fun h => by cases h) (fun h => by cases h) h
theorem RR.canS (R : RR X ρ s a w) (d t : Nat) : RR X ρ (canS E d t s) a w := by
  unfold Go.Proofs.YtejedlpnejjnbaaV.canS
  obtain ⟨fr, hp, ks⟩ := s
  cases lkT E.tt t with
  | some e => exact R.alias (d := d) (VR_canT e (R.fr d))
  | none => exact R
mutual
theorem Shp_canT : ∀ (e : Ty) (v : AV), Shp e v → Shp e (canT e v)
  | .sl e, v, h => by
    rcases canT_sl e v with ⟨_, h1⟩ | h1
    · rw [h1]; exact (rfl : e = e)
    · rw [h1]; exact h
  | .pair a b, .agg (u :: r), h => ⟨Shp_canT a u h.1, Shps_canTs b r h.2⟩
  | .pair a b, .agg [], h => h
  | .pair a b, .int _ _, h => h
  | .pair a b, .bool _, h => h
  | .pair a b, .str _, h => h
  | .pair a b, .ro _ _, h => h
  | .pair a b, .arr _ _ _, h => h
  | .pair a b, .own _, h => h
  | .pair a b, .ptr _ _, h => h
  | .pair a b, .vsl _ _, h => h
  | .pair a b, .rop _ _, h => h
  | .pair a b, .con _, h => h
  | .pair a b, .fn _ _ _, h => h
  | .pair a b, .tup _, h => h
  | .pair a b, .und, h => h
  | .pair a b, .dead, h => h
  | .int _, v, h => by unfold canT; exact h
  | .bool, v, h => by unfold canT; exact h
  | .str, v, h => by unfold canT; exact h
  | .unit, v, h => by unfold canT; exact h
  | .arr _ _, v, h => by unfold canT; exact h
  | .opq _, v, h => by unfold canT; exact h
theorem Shps_canTs : ∀ (e : Ty) (r : List AV), Shps e r → Shps e (canTs e r)
  | .pair a b, u :: r, h => ⟨Shp_canT a u h.1, Shps_canTs b r h.2⟩
  | .pair a b, [], h => h
  | .int _, v, h => by unfold canTs; exact h
  | .bool, v, h => by unfold canTs; exact h
  | .str, v, h => by unfold canTs; exact h
  | .unit, v, h => by unfold canTs; exact h
  | .sl _, v, h => by unfold canTs; exact h
  | .arr _ _, v, h => by unfold canTs; exact h
  | .opq _, v, h => by unfold canTs; exact h
end
/-- What a block that is a variable holds, seen in another way. -/
theorem RR.revar (R : RR X ρ s a w) {b : Nat} {e : Ty} {v v' : AV} {f : Bool} (hb : lkb s.hp b = .var e v f) (hs : Shp e v → Shp e v')
    (hv : ∀ (c' : Cx) vs, c' = cx X ρ ((b, .var e v' f) :: s.hp) w → Ext (fun _ => False) (cx X ρ s.hp w) c' → CR (cx X ρ s.hp w) v vs → CR c' v' vs) : RR X ρ (s.putb b (.var e v' f)) a w := by
  have hh := R.heap b
  rw [hb] at hh
  obtain ⟨g1, cs, T, g2, g3, g4, g5⟩ := hh
  refine (RR.write (w' := w) R b (.var e v' f) (fun e0 v0 f0 he => ?_) (fun te e xs f0 he => ?_) (fun hl => ?_) (fun _ => ?_) R.below (Nat.le_refl _) (fun _ _ => rfl) (fun c' hc hx => ?_)).2
  · rw [hb] at he; cases he; exact ⟨_, _, rfl⟩
  · rw [hb] at he; cases he
  · rw [hb]; cases f <;> exact hl
  · rw [hb]; trivial
  · exact ⟨by subst hc; exact g1, cs, T, by subst hc; exact g2, hv c' _ hc hx g3, hs g4, g5⟩
theorem RR.canB (R : RR X ρ s a w) (b : Nat) : RR X ρ (canB b s) a w := by
  obtain ⟨fr, hp, ks⟩ := s
  unfold Go.Proofs.YtejedlpnejjnbaaV.canB
  split
  rename_i heq
  cases heq
  split
  · rename_i e v f hb
    exact R.revar (s := ⟨fr, hp, ks⟩) hb (Shp_canT e v) (fun c' vs _ hx h => CR_canT e v vs (CR_ext hx _ _ (Free_no _) h))
  · exact R
theorem RR.canSs : ∀ (l : List (Nat × Nat)) {s : St}, RR X ρ s a w → RR X ρ (canSs E l s) a w
  | [], _, R => R
  | (d, t) :: l, s, R => RR.canSs l (R.canS d t)
theorem RR.canBs : ∀ (l : List Nat) {s : St}, RR X ρ s a w → RR X ρ (canBs l s) a w
  | [], _, R => R
  | b :: l, s, R => RR.canBs l (R.canB b)
theorem RR.frzSs : ∀ (l : List Nat) {s : St}, RR X ρ s a w → RR X ρ (frzSs l s) a w
  | [], _, R => R
  | d :: l, s, R => RR.frzSs l (R.frzS d)
/-- At a field's path. -/
theorem getF_setF2 {c c' : Cx} {u0 w0 : AV} (hw0 : ∀ vs, CR c u0 vs → CR c' w0 vs) (hc : ∀ v vs, CR c v vs → CR c' v vs) : ∀ (p : List Nat) (v : AV) (vs : List Value), getF v p = u0 → u0 ≠ .und → CR c v vs → CR c' (setF v p w0) vs
  | [], v, vs, hg, _, h => by
    have hg : v = u0 := by unfold getF at hg; exact hg
    subst hg
    unfold setF; exact hw0 _ h
  | i :: p, v, vs, hg, hu0, h => by
    cases v with
    | agg l =>
      simp only [getF] at hg
      split at hg
      · rename_i u hu
        simp only [setF, hu]
        have key : ∀ (l : List AV) (i : Nat) (vs : List Value), l[i]? = some u → CRs c l vs → CRs c' (l.set i (setF u p w0)) vs := by
          intro l
          induction l with
          | nil => intro i vs h1 h2; simp at h1
          | cons z l ih =>
            intro i vs h1 h2
            obtain ⟨m, n, rfl, h3, h4⟩ := h2
            cases i with
            | zero =>
              have h1 : some z = some u := h1
              cases h1
              exact ⟨m, n, rfl, getF_setF2 hw0 hc p _ m hg hu0 h3, CRs_of hc l n h4⟩
            | succ i => exact ⟨m, n, rfl, hc _ _ h3, ih i n (by simpa using h1) h4⟩
        exact key l i vs hu h
      · exact absurd hg.symm hu0
    | _ => exact absurd (show _ = AV.und from hg.symm) hu0
where CRs_of {c c' : Cx} (hc : ∀ v vs, CR c v vs → CR c' v vs) : ∀ (l : List AV) (vs : List Value), CRs c l vs → CRs c' l vs
  | [], vs, h => h
  | v :: l, vs, h => by
    obtain ⟨a, b, e, h1, h2⟩ := h
    exact ⟨a, b, e, hc v a h1, CRs_of hc l b h2⟩
theorem Shp_setF2 {e0 : Ty} {u0 w0 : AV} (hw0 : Shp (.sl e0) w0) : ∀ (p : List Nat) (e : Ty) (v : AV), getF v p = u0 → u0 ≠ .und → ftyP e p = some (.sl e0) → Shp e v → Shp e (setF v p w0)
  | [], e, v, hg, _, ht, h => by
    simp only [ftyP, Option.some.injEq] at ht
    subst ht
    unfold setF; exact hw0
  | i :: p, e, v, hg, hu0, ht, h => by
    cases v with
    | agg l =>
      simp only [getF] at hg
      split at hg
      · rename_i u hu
        simp only [setF, hu]
        simp only [ftyP] at ht
        split at ht
        · rename_i t1 ht1
          have key : ∀ (e : Ty) (l : List AV) (i : Nat), l[i]? = some u → ftyT e i = some t1 → Shps e l → Shps e (l.set i (setF u p w0)) := by
            intro e
            induction e with
            | pair x y _ ih =>
              intro l i h1 h2 h3
              cases l with
              | nil => exact h3
              | cons z l =>
                cases i with
                | zero =>
                  have h1 : some z = some u := h1
                  have h2 : some x = some t1 := h2
                  cases h1; cases h2
                  exact ⟨Shp_setF2 hw0 p _ _ hg hu0 ht h3.1, h3.2⟩
                | succ i => exact ⟨h3.1, ih l i (by simpa using h1) h2 h3.2⟩
            | _ => intro l i h1 h2 h3; simp [ftyT] at h2
          have hss : Shps e l := by
            cases e <;> cases l <;> first | exact h | (simp [ftyT] at ht1; done) | exact h.elim
          have q := key e l i hu ht1 hss
          cases e <;> first
            | (simp [ftyT] at ht1; done)
            | skip
          cases hl : l.set i (setF u p w0) with
          | nil => rw [hl] at q; exact q.elim
          | cons z r => rw [hl] at q; exact q
        · cases ht
      · exact absurd hg.symm hu0
    | _ => exact absurd (show _ = AV.und from hg.symm) hu0
theorem RR.frzB (R : RR X ρ s a w) (b : Nat) (p : List Nat) : RR X ρ (frzB b p s) a w := by
  obtain ⟨fr, hp, ks⟩ := s
  unfold Go.Proofs.YtejedlpnejjnbaaV.frzB
  split
  rename_i heq
  cases heq
  split
  · rename_i e' v f hb
    split
    · rename_i id e0 hg ht
      split
      · rename_i te e xs f2 hid
        cases hc : (decide (e0 = e) && !Nat.beq id b) with
        | false => exact R
        | true =>
          rw [Bool.and_eq_true] at hc
          obtain ⟨c1, c2⟩ := hc
          have c1 := of_decide_eq_true c1
          subst c1
          have hne : id ≠ b := fun h => by subst h; rw [Nat.beq_refl] at c2; cases c2
          obtain ⟨hx1, R1, h1⟩ := frz_ro R hid
          have hb1 : lkb ((id, Blk.row te e0 xs true) :: hp) b = .var e' v f := by rw [lkb_cons, if_neg hne]; exact hb
          refine R1.revar (s := ⟨fr, (id, .row te e0 xs true) :: hp, ks⟩) hb1 (Shp_setF2 (show Shp (.sl e0) (.ro e0 xs) from (rfl : e0 = e0)) p e' v hg (fun h => by cases h) ht) (fun c' vs _ hx h => ?_)
          refine getF_setF2 (c := cx X ρ ((id, .row te e0 xs true) :: hp) w) (u0 := .own id) (fun vs h => ?_) (fun v vs h => CR_ext hx v vs (Free_no _) h) p v vs hg (fun h => by cases h) h
          refine CR_ext hx (.ro e0 xs) vs (Free_no _) ?_
          have hb2 : lkb ((id, Blk.row te e0 xs true) :: hp) id = .row te e0 xs true := by rw [lkb_cons, if_pos rfl]
          have := frz_ro R1 hb2
          have h9 := this.2.2 vs h
          refine Enc_mono (fun b hb => ⟨?_, .refl _ _⟩) (.sl e0) xs vs h9
          obtain ⟨k1, k2, k3⟩ := hb
          refine ⟨k1, k2, fun id' hl he => k3 id' ?_ he⟩
          rw [lkb_cons]
          split
          · rename_i hh; subst hh; rw [hb2] at hl; exact hl
          · exact hl
      · exact R
    · exact R
  · exact R
theorem RR.frzBs : ∀ (l : List (Nat × List Nat)) {s : St}, RR X ρ s a w → RR X ρ (frzBs l s) a w
  | [], _, R => R
  | (b, p) :: l, s, R => RR.frzBs l (R.frzB b p)
theorem RR.setk {fr : List (Nat × AV)} {hp : List (Nat × Blk)} {ks : Option Ks} {kl : List Nat} (R : RR X ρ ⟨fr, hp, ks⟩ a w) (h1 : subK ks kl = true) : RR X ρ ⟨fr, hp, setK ks kl⟩ a w := by
  refine ⟨R.size, R.defers, R.ok0, R.below, R.heap, R.inj, R.fr, fun k hk i => ?_, fun k hk => ?_, R.lim⟩
  · cases ks with
    | none => cases hk
    | some l =>
      obtain ⟨l, p⟩ := l
      have hk : some (kl, p) = some k := hk
      cases hk
      exact VR_sub h1 (R.stk (l, p) rfl i)
  · cases ks with
    | none => cases hk
    | some l =>
      obtain ⟨l, p⟩ := l
      have hk : some (kl, p) = some k := hk
      cases hk
      exact R.sp (l, p) rfl
theorem mask_sound {M : Msk} {K : St → Prop} (hE : EnvT E X.P) (R : RR X ρ s a w) (h : maskK E M s K) : ∃ s', K s' ∧ RR X ρ s' a w := by
  unfold maskK at h
  rw [maskC_eq] at h
  have R0 : RR X ρ (M.pre0 E s) a w := RR.canBs _ (RR.canSs _ (RR.frzBs _ (RR.frzSs _ (R.pick M.m))))
  have R1 : RR X ρ (M.pre E s) a w := by
    unfold Msk.pre
    generalize M.pre0 E s = s0 at R0
    obtain ⟨fr, hp, ks⟩ := s0
    exact RR.convBs hE _ (RR.convSs hE _ (RR.drops _ R0))
  generalize M.pre E s = s1 at h R1
  obtain ⟨fr, hp, ks⟩ := s1
  simp only at h
  obtain ⟨h1, hK⟩ := cond_elim h
  rw [Bool.and_eq_true] at h1
  obtain ⟨h1, h2⟩ := h1
  refine ⟨_, hK, ?_⟩
  have R2 := (R1.pick M.m).same (hp' := pickH M.mb hp) (fun id => lkb_pickH M.mb hp h2 id)
  refine ⟨R2.size, R2.defers, R2.ok0, R2.below, R2.heap, R2.inj, R2.fr, fun kl hkl i => ?_, fun kl hkl => ?_, R2.lim⟩
  · cases ks with
    | none => cases hkl
    | some l =>
      obtain ⟨l, p⟩ := l
      have hkl : some (M.kl, p) = some kl := hkl
      cases hkl
      exact VR_sub h1 (R2.stk (l, p) rfl i)
  · cases ks with
    | none => cases hkl
    | some l =>
      obtain ⟨l, p⟩ := l
      have hkl : some (M.kl, p) = some kl := hkl
      cases hkl
      exact R2.sp (l, p) rfl
end
end Go.Proofs.YtejedlpnejjnbaaV
