/- Regions that draw, code, functions. -/
import Derived.Test.YtejedlpnejjnbaaVcR
import Derived.Test.YtejedlpnejjnbaaVcZ
import Derived.RangeFuncRecord
import Derived.ScopeJumps
set_option linter.unusedVariables false
set_option linter.unusedSimpArgs false
namespace Go.Proofs.YtejedlpnejjnbaaV
open Go.RowKit

/-- What the program is to be, besides. -/
structure PrOk (P : Program) : Prop where
  mixed : P.follows .mixedOrders = true
  eq : ∀ X : Fix, X.P = P → ∀ c, EqLaw X c

section
variable {E : Env} {X : Fix} {ρ : Nat → Nat} {s : St} {a : Act} {w w' : World} {o : Oper} {K : St → Prop} {Q : Exit → Act → World → Prop}

/-! ### Draws -/
theorem p_step (hE : EnvC E X.P) (hq : ∀ c, EqLaw X c) (hn : E.nt = X.nt) (hp : calls o.op = false) (R : RR X ρ s a w) (h : pvP E o.dst o.op s.fr s.hp s.ks K) :
    ∃ z v, Up X.P a o z w ∧ K (s.put o.dst v) ∧ RR X ρ (s.put o.dst v) (a.put o.dst z) w := by
  obtain ⟨dst, op, ty, pos, after, guard⟩ := o
  obtain ⟨fr, hp', ks⟩ := s
  obtain ⟨v, z, h1, h2, h3⟩ := ex_pv (o := ⟨dst, op, ty, pos, after, guard⟩) hE.t (hq _) R rfl hp h
  obtain ⟨k1, k2⟩ := putF_next2 hn h1 R h3
  exact ⟨z, v, h2, k1, k2⟩

theorem calls_of_pure (hp : pureO o = true) : calls o.op = false := by
  obtain ⟨dst, op, ty, pos, after, guard⟩ := o
  cases op with
  | call c =>
    simp only [pureO, cls] at hp
    simp only [calls]
    cases hcc : c.callee with
    | value f => rw [hcc] at hp; simp at hp
    | _ => rfl
  | _ => rfl

theorem new_pure (hp : pureO o = true) : newO o = false := by
  unfold pureO at hp
  unfold newO
  split at hp
  · rename_i h; rw [h]; rfl
  · rename_i h; rw [h]; rfl
  · cases hp
theorem new_call (hp : callO o = true) : newO o = false := by
  unfold callO at hp
  unfold newO cls
  split at hp
  · rename_i c hc
    rw [hc]
    split at hp
    · rename_i f hf; simp only [hf]; rfl
    · cases hp
  · cases hp
theorem c_step (hE : EnvC E X.P) (hn : E.nt = X.nt) (hp : callO o = true) (R : RR X ρ s a w) (h : pvP E o.dst o.op s.fr s.hp s.ks K) {next : Act → World → Prop} (hK : ∀ v a' w', K (s.put o.dst v) → Below w.heap.size w w' → RR X ρ (s.put o.dst v) a' w' → next a' w') : o.wp X.P a w next Q := by
  obtain ⟨dst, op, ty, pos, after, guard⟩ := o
  obtain ⟨fr, hp', ks⟩ := s
  have h : pvP E dst op fr hp' ks K := h
  cases op with
  | call c =>
    cases hcc : c.callee with
    | value f =>
      refine ex_callC (o := ⟨dst, .call c, ty, pos, after, guard⟩) (s := ⟨fr, hp', ks⟩) hE R rfl hcc h fun v z w' hD hB R' hv => ?_
      obtain ⟨k1, k2⟩ := putF_next2 hn hD R' hv
      exact hK _ _ _ k1 hB k2
    | _ => simp only [callO, hcc] at hp; cases hp
  | _ => simp only [callO] at hp; cases hp

/-- What is known while a region is gone through. S: where it may write; b0: how much was there when it began. -/
structure Dr (md : Md) (S : Nat → Prop) (b0 : Nat) (f : Bool) (G : List Nat) (ρ : Nat → Nat) (hp : List (Nat × Blk)) (w : World) : Prop where
  off : md.b = false → md.c = false → ∀ b, ¬ S b
  call : md.c = true → md.b = false ∧ ∀ b, S b
  sz : md.b = true → b0 ≤ w.heap.size
  first : md.b = true → f = true → w.heap.size = b0
  ids : md.b = true → ∀ id ∈ md.ids, S (ρ id) ∧ isVar (lkb hp id) = true ∧ memN md.F id = false
  old : md.b = true → ∀ id, live (lkb hp id) → id ∉ G → ρ id < b0
  new : md.b = true → ∀ id ∈ G, live (lkb hp id) → b0 ≤ ρ id
  gf : md.b = true → ∀ id ∈ G, memN md.F id = true
  inS : md.b = true → ∀ b, S b → b0 ≤ b ∨ ∃ id ∈ md.ids, ρ id = b
  up : md.b = true → ∀ b, b0 ≤ b → S b
section
variable {md : Md} {S : Nat → Prop} {b0 : Nat} {f : Bool} {G : List Nat}
theorem Dr.put {d : Option Nat} {v : AV} (h : Dr md S b0 f G ρ s.hp w) : Dr md S b0 f G ρ (s.put d v).hp w := by rw [put_hp]; exact h
theorem Dr.weak {g : Bool} (h : Dr md S b0 f G ρ s.hp w) : Dr md S b0 (f && g) G ρ s.hp w := by
  refine ⟨h.off, h.call, h.sz, fun hb hf => h.first hb ?_, h.ids, h.old, h.new, h.gf, h.inS, h.up⟩
  rw [Bool.and_eq_true] at hf; exact hf.1
theorem Dr.grow (h : Dr md S b0 f G ρ s.hp w) (hz : w.heap.size ≤ w'.heap.size) : Dr md S b0 false G ρ s.hp w' :=
  ⟨h.off, h.call, fun hb => Nat.le_trans (h.sz hb) hz, fun _ hf => (by cases hf), h.ids, h.old, h.new, h.gf, h.inS, h.up⟩
/-- Where nothing is written in whatever order. -/
theorem Dr.plain {f' : Bool} {G' : List Nat} {ρ' : Nat → Nat} {hp hp' : List (Nat × Blk)} (h : Dr md S b0 f G ρ hp w) (hb : md.b = false) : Dr md S b0 f' G' ρ' hp' w' := by
  have no : ∀ {A : Prop}, md.b = true → A := fun h => by rw [hb] at h; cases h
  exact ⟨h.off, h.call, fun h => no h, fun h => no h, fun h => no h, fun h => no h, fun h => no h, fun h => no h, fun h => no h, fun h => no h⟩
theorem isVar_live {b : Blk} (h : isVar b = true) : liveW b := by
  unfold isVar at h
  split at h
  · trivial
  · cases h
/-- What it reads is none of them. -/
theorem rd_not {z : Value} (hmc : md.c = false) (R : RR X ρ s a w) (hI : Dr md S b0 f G ρ s.hp w) (hr : rdOk md f s.fr o.op = true) (hpv : ∃ C : AV → Prop, pv E s.hp (opn s.fr) o.op C) : ∀ b, loadB a o.op = some b → ¬ S b := by
  intro b hb hS
  cases hmd : md.b with
  | false => exact hI.off hmd hmc b hS
  | true =>
    cases hop : o.op with
    | load t x =>
      rw [hop] at hb hr hpv
      obtain ⟨C, hpv⟩ := hpv
      simp only [pv] at hpv
      have hx := VR_opn R x
      simp only [rdOk, hmd, Bool.not_true, Bool.false_or] at hr
      generalize opn s.fr x = va at hpv hx hr
      split at hpv
      · rename_i id p
        split at hpv
        · rename_i u hg
          obtain ⟨off, t', k1, k2⟩ := VR_ptr hx
          simp only [loadB, k2, Option.some.injEq] at hb
          have hb : ρ id = b := hb
          have hlive : live (lkb s.hp id) := by
            cases hk : lkb s.hp id with
            | none => rw [hk] at hg; simp [getB] at hg
            | var e v f => trivial
            | row te e xs f =>
              intro h0
              rw [show (cx X ρ s.hp w).hp = s.hp from rfl, hk] at k1
              subst h0
              cases p with
              | nil => simp [pathB] at k1
              | cons st p => cases st with
                | fld i => simp [pathB] at k1
                | «at» i =>
                  simp only [pathB] at k1
                  split at k1
                  · rename_i hr; simp at hr; omega
                  · cases k1
          simp only [Bool.and_eq_true, Bool.not_eq_true'] at hr
          have hlt := hI.old hmd id hlive (fun hG => by rw [hI.gf hmd id hG] at hr; cases hr.2)
          rcases hI.inS hmd b hS with h1 | ⟨id', m1, m2⟩
          · omega
          · have hv' := isVar_live (hI.ids hmd id' m1).2.1
            have hne := R.inj id id' hlive (liveW_live hv') (by rw [hb, m2])
            subst hne
            rw [memN_iff.2 m1] at hr
            cases hr.1
        · exact hpv.elim
      · rename_i e y
        obtain ⟨b', off, k2, k4, _⟩ := VR_rop hx
        simp only [loadB, k2, Option.some.injEq] at hb
        have hb : b' = b := hb
        subst hb
        have hr : f = true := hr
        have hz := hI.first hmd hr
        rcases hI.inS hmd _ hS with h1 | ⟨id', m1, m2⟩
        · have := k4.2.1
          have : b' < w.heap.size := this
          omega
        · exact k4.2.2 id' (isVar_live (hI.ids hmd id' m1).2.1) m2
      · exact hpv.elim
    | _ => rw [hop] at hb; simp [loadB] at hb

theorem vcD_lone {b : Bool} {K : St → Prop} (h : vcD E md f b true o s K) : md.c = true ∧ vc1 E o s K := by
  obtain ⟨dst, op, ty, pos, after, guard⟩ := o
  obtain ⟨fr, hp', ks⟩ := s
  unfold vcD at h
  cases hc : md.c with
  | true => rw [hc] at h; exact ⟨rfl, h⟩
  | false => rw [hc] at h; exact h.elim
theorem vcD_true {K : St → Prop} (h : vcD E md f true false o s K) : md.b = false ∧ vc1 E o s K := by
  obtain ⟨dst, op, ty, pos, after, guard⟩ := o
  obtain ⟨fr, hp', ks⟩ := s
  unfold vcD at h
  cases hc : md.c with
  | true => rw [hc] at h; exact h.elim
  | false =>
    rw [hc] at h
    have h : cond md.b False (vcOp E dst op fr hp' ks K) := h
    cases hb : md.b with
    | true => rw [hb] at h; exact h.elim
    | false => rw [hb] at h; exact ⟨rfl, h⟩
theorem new_nopv {K : St → Prop} (hw : newO o = true) (h : pvP E o.dst o.op s.fr s.hp s.ks K) : False := by
  have hw : cls o = 2 := Nat.eq_of_beq_eq_true hw
  obtain ⟨dst, op, ty, pos, after, guard⟩ := o
  cases op with
  | call c =>
    cases hcc : c.callee with
    | builtin b => cases b <;> first | (simp [pvP, pv, hcc] at h; done) | (simp [cls, hcc] at hw)
    | value f => simp [cls, hcc] at hw
    | invoke r m => simp [cls, hcc] at hw
  | _ => first | (simp [pvP, pv] at h; done) | (simp [cls] at hw)
theorem vcD_new {K : St → Prop} (hw : newO o = true) (h : vcD E md f false false o s K) : md.b = false ∧ vc1 E o s K := by
  obtain ⟨dst, op, ty, pos, after, guard⟩ := o
  obtain ⟨fr, hp', ks⟩ := s
  unfold vcD at h
  cases hc : md.c with
  | true =>
    rw [hc] at h
    have h : cond (!false && notLoad op) (pvP E dst op fr hp' ks K) False := h
    exact (new_nopv (o := ⟨dst, op, ty, pos, after, guard⟩) (s := ⟨fr, hp', ks⟩) hw (cond_elim h).2).elim
  | false =>
    rw [hc] at h
    have h : cond (false || newO ⟨dst, op, ty, pos, after, guard⟩) (cond md.b False (vcOp E dst op fr hp' ks K)) (cond (rdOk md f fr op) (pvP E dst op fr hp' ks K) False) := h
    rw [hw] at h
    have h : cond md.b False (vcOp E dst op fr hp' ks K) := h
    cases hb : md.b with
    | true => rw [hb] at h; exact h.elim
    | false => rw [hb] at h; exact ⟨rfl, h⟩
theorem vcD_pv {K : St → Prop} (hw : newO o = false) (h : vcD E md f false false o s K) : pvP E o.dst o.op s.fr s.hp s.ks K ∧ (md.c = true → notLoad o.op = true) ∧ (md.c = false → rdOk md f s.fr o.op = true) := by
  obtain ⟨dst, op, ty, pos, after, guard⟩ := o
  obtain ⟨fr, hp', ks⟩ := s
  unfold vcD at h
  cases hc : md.c with
  | true =>
    rw [hc] at h
    have h : cond (!false && notLoad op) (pvP E dst op fr hp' ks K) False := h
    obtain ⟨h1, h2⟩ := cond_elim h
    exact ⟨h2, fun _ => by simpa using h1, fun h => by cases h⟩
  | false =>
    rw [hc] at h
    have h : cond (false || newO ⟨dst, op, ty, pos, after, guard⟩) (cond md.b False (vcOp E dst op fr hp' ks K)) (cond (rdOk md f fr op) (pvP E dst op fr hp' ks K) False) := h
    rw [hw] at h
    have h : cond (rdOk md f fr op) (pvP E dst op fr hp' ks K) False := h
    obtain ⟨h1, h2⟩ := cond_elim h
    exact ⟨h2, (fun h => by cases h), fun _ => h1⟩
theorem notLoad_none {op : Op} (h : notLoad op = true) : loadB a op = none := by
  cases op <;> first | rfl | cases h
theorem conj2_out {l : Alts} {A B : Prop} (h : conj2 l A B) : A ∧ (l = .nil ∨ B) := by
  cases l with
  | nil => exact ⟨h, .inl rfl⟩
  | cons i r l =>
    obtain ⟨h1, h2⟩ := both_out h
    exact ⟨h1, .inr h2⟩
/-- One of those that come in whatever order. -/
theorem s_step {K : List Nat → St → Prop} (hE : EnvC E X.P) (hn : E.nt = X.nt) (R : RR X ρ s a w) (hI : Dr md S b0 f G ρ s.hp w) (h : vcS E md G o s K) {next : Act → World → Prop} (hK : ∀ G' ρ' s' a' w', K G' s' → Chg S w w' → RR X ρ' s' a' w' → Dr md S b0 false G' ρ' s'.hp w' → next a' w') : o.guard = none ∧ o.wp X.P a w next Q := by
  obtain ⟨dst, op, ty, pos, after, guard⟩ := o
  obtain ⟨fr, hp', ks⟩ := s
  unfold vcS at h
  cases hmc : md.c with
  | true => rw [hmc] at h; exact h.elim
  | false =>
  rw [hmc] at h
  cases guard with
  | some g => cases op <;> exact h.elim
  | none =>
    refine ⟨rfl, ?_⟩
    have mk : newO ⟨dst, op, ty, pos, after, none⟩ = true → md.b = false → vcOp E dst op fr hp' ks (K G) → (Oper.mk dst op ty pos after none).wp X.P a w next Q := fun hw hb h =>
      new_sound (s := ⟨fr, hp', ks⟩) hE hn hw R h fun ρ' s' a' w' k1 hB k2 => hK G _ _ _ _ k1 (.of_below hB) k2 (hI.plain hb)
    have other : cond (newO ⟨dst, op, ty, pos, after, none⟩) (cond md.b False (vcOp E dst op fr hp' ks (K G))) (cond (callO ⟨dst, op, ty, pos, after, none⟩) (pvP E dst op fr hp' ks (K G)) False) → (Oper.mk dst op ty pos after none).wp X.P a w next Q := by
      intro h
      cases hw : newO ⟨dst, op, ty, pos, after, none⟩ with
      | true =>
        rw [hw] at h
        have h : cond md.b False (vcOp E dst op fr hp' ks (K G)) := h
        cases hb : md.b with
        | true => rw [hb] at h; exact h.elim
        | false => rw [hb] at h; exact mk hw hb h
      | false =>
        rw [hw] at h
        have h : cond (callO ⟨dst, op, ty, pos, after, none⟩) (pvP E dst op fr hp' ks (K G)) False := h
        obtain ⟨hc, h⟩ := cond_elim h
        exact c_step (s := ⟨fr, hp', ks⟩) hE hn hc R h fun v a' w' k1 hB k2 => hK G _ _ _ _ k1 (.of_below hB) k2 (hI.grow hB.size).put
    cases op with
    | store t x y =>
      have h : (match opn fr x with
        | .ptr id _ => cond (md.b && (memN md.ids id || memN G id)) (wvP E dst (.store t x y) fr hp' ks (K G)) False
        | _ => False) := h
      split at h
      · rename_i id p hx
        obtain ⟨hm, h⟩ := cond_elim h
        rw [Bool.and_eq_true, Bool.or_eq_true] at hm
        obtain ⟨hb, hm⟩ := hm
        unfold wvP at h
        obtain ⟨s1, w1, h1, h2, h3, ⟨id2, p2, g1, g2, g3⟩, g4⟩ := ex_store (o := ⟨dst, .store t x y, ty, pos, after, none⟩) (s := ⟨fr, hp', ks⟩) hE.t R rfl h
        rw [show opn (⟨fr, hp', ks⟩ : St).fr x = .ptr id p from hx] at g1
        cases g1
        obtain ⟨k1, k2⟩ := putF_next2 (z := undef) (v := .dead) hn h1 h3 trivial
        have hlive : live (lkb hp' id) ∨ w1.heap = w1.heap := .inr rfl
        have hS : S (ρ id) := by
          rcases hm with hm | hm
          · exact (hI.ids hb id (memN_iff.1 hm)).1
          · refine hI.up hb _ (hI.new hb id (memN_iff.1 hm) ?_)
            have hxv := VR_opn R x
            rw [show opn (⟨fr, hp', ks⟩ : St).fr x = .ptr id p from hx] at hxv
            obtain ⟨off, t', q1, q2⟩ := VR_ptr hxv
            have q1 : pathB (lkb hp' id) p = some (off, t') := q1
            show live (lkb hp' id)
            cases hk : lkb hp' id with
            | none => rw [hk] at q1; simp [pathB] at q1
            | var e v f => trivial
            | row te e xs f =>
              intro h0
              rw [hk] at q1
              subst h0
              cases p with
              | nil => simp [pathB] at q1
              | cons st p => cases st with
                | fld i => simp [pathB] at q1
                | «at» i =>
                  simp only [pathB] at q1
                  split at q1
                  · rename_i hr; simp at hr; omega
                  · cases q1
        unfold Oper.wp
        rw [h2, Oper.upon_skip]
        refine hK G _ _ _ _ k1 ⟨by rw [g2]; exact Nat.le_refl _, fun b hbl hnS => g3 b (fun e => hnS (e ▸ hS))⟩ k2 ?_
        rw [put_hp]
        exact ⟨hI.off, hI.call, fun hb => by rw [g2]; exact hI.sz hb, fun _ hf => (by cases hf), fun hb id hi => ⟨(hI.ids hb id hi).1, (g4 id).1 (hI.ids hb id hi).2.1, (hI.ids hb id hi).2.2⟩, fun hb id hl hG => hI.old hb id ((g4 id).2 hl) hG, fun hb id hG hl => hI.new hb id hG ((g4 id).2 hl), hI.gf, hI.inS, hI.up⟩
      · exact h.elim
    | alloc t =>
      cases dst with
      | none =>
        have h : cond md.b False (vcOp E none (.alloc t) fr hp' ks (K G)) := h
        cases hb : md.b with
        | true => rw [hb] at h; exact h.elim
        | false => rw [hb] at h; exact mk rfl hb h
      | some d =>
        have h : cond md.b (cond (memN md.F (E.off + d) && !memN md.ids (E.off + d)) (avP E (some d) (.alloc t) fr hp' ks (K ((E.off + d) :: G))) False) (vcOp E (some d) (.alloc t) fr hp' ks (K G)) := h
        cases hb : md.b with
        | false => rw [hb] at h; exact mk rfl hb h
        | true =>
          rw [hb] at h
          have h : cond (memN md.F (E.off + d) && !memN md.ids (E.off + d)) (avP E (some d) (.alloc t) fr hp' ks (K ((E.off + d) :: G))) False := h
          obtain ⟨hm, h⟩ := cond_elim h
          rw [Bool.and_eq_true, Bool.not_eq_true'] at hm
          obtain ⟨m1, m2⟩ := hm
          rw [avP_some] at h
          obtain ⟨s1, v, z, w1, h1, h2, h3, h4, h5, h6⟩ := ex_alloc2 (o := ⟨some d, .alloc t, ty, pos, after, none⟩) (s := ⟨fr, hp', ks⟩) hE.t R rfl h
          obtain ⟨k1, k2⟩ := putF_next2 hn h1 h3 h4
          unfold Oper.wp
          rw [h2, Oper.upon_value]
          have ne : ∀ id ∈ md.ids, id ≠ E.off + d := fun id hi e => by rw [e] at hi; rw [memN_iff.2 hi] at m2; cases m2
          refine hK _ _ _ _ _ k1 (.of_below h5) k2 ?_
          rw [put_hp]
          refine ⟨hI.off, hI.call, fun hb => Nat.le_trans (hI.sz hb) h5.size, fun _ hf => (by cases hf), fun hb id hi => ?_, fun hb id hl hG => ?_, fun hb id hG hl => ?_, fun hb id hG => ?_, fun hb b hS => ?_, hI.up⟩
          · have hne := ne id hi
            rw [upd_other hne, (h6 id hne).2]
            exact hI.ids hb id hi
          · have hne : id ≠ E.off + d := fun e => hG (by rw [e]; exact List.mem_cons_self)
            rw [upd_other hne]
            rw [(h6 id hne).1] at hl
            exact hI.old hb id hl (fun h => hG (List.mem_cons_of_mem _ h))
          · by_cases hne : id = E.off + d
            · rw [hne, upd_same]; exact hI.sz hb
            · rw [upd_other hne]
              rw [(h6 id hne).1] at hl
              rcases List.mem_cons.1 hG with e | hG
              · exact absurd e hne
              · exact hI.new hb id hG hl
          · rcases List.mem_cons.1 hG with e | hG
            · rw [e]; exact m1
            · exact hI.gf hb id hG
          · rcases hI.inS hb b hS with h | ⟨id, hi, e⟩
            · exact .inl h
            · exact .inr ⟨id, hi, by rw [upd_other (ne id hi)]; exact e⟩
    | _ => exact other h

set_option maxHeartbeats 2000000 in
mutual
theorem draw_sound (hE : EnvC E X.P) (hyl : E.yl = none) (hq : ∀ c, EqLaw X c) (hn : E.nt = X.nt) {all : List Oper} (hsel : Region.noSelect all.toArray = true) (hQ : ∀ c a w, ¬ Q (.panic c) a w) (hK : Hold X K (Q .normal)) : ∀ (ord : Ord) (n : Nat) (L : Array Bool) (f : Bool) (G : List Nat) (s : St) (ρ : Nat → Nat) (a : Act) (w : World), drawFrom all.toArray ord n L = true → Closed all.toArray L → RR X ρ s a w → Dr md S b0 f G ρ s.hp w → vcOrd E all md ord f G s K →
    wpAnyB X.P all.toArray S Q n L a w
  | .nil, n, L, f, G, s, ρ, a, w, hd, hc, R, hI, h => by
    have hd : (Nat.beq n 0 && (Region.ready .any all.toArray L).isEmpty) = true := hd
    rw [Bool.and_eq_true] at hd
    obtain rfl := Nat.eq_of_beq_eq_true hd.1
    exact ⟨List.isEmpty_iff.1 hd.2, hK _ _ _ _ h R⟩
  | .alt l, 0, L, f, G, s, ρ, a, w, hd, hc, R, hI, h => by cases hd
  | .alt l, n + 1, L, f, G, s, ρ, a, w, hd, hc, R, hI, h => by
    have hd : (decide (Region.ready .any all.toArray L = l.ids) && Nat.ble 1 l.ids.length && altsFrom all.toArray l n L) = true := hd
    rw [Bool.and_eq_true, Bool.and_eq_true] at hd
    obtain ⟨⟨h1, h2⟩, h3⟩ := hd
    have h1 := of_decide_eq_true h1
    have h2 := Nat.le_of_ble_eq_true h2
    refine ⟨fun h0 => (by rw [h1] at h0; rw [h0] at h2; simp at h2), fun j hj => ?_⟩
    exact alts_sound hE hyl hq hn hsel hQ hK l n L f G s ρ a w h3 hc (fun i hi => by rw [h1]; exact hi) R hI h j (by rw [← h1]; exact hj)
  | .one m rest, 0, L, f, G, s, ρ, a, w, hd, hc, R, hI, h => by cases hd
  | .one m rest, n + 1, L, f, G, s, ρ, a, w, hd, hc, R, hI, h => by
    have h : (match all[idxO m]? with
      | none => False
      | some o => match o.guard with
        | none => vcD E md f (isBar m) (isLone m) o s fun s' => vcOrd E all md rest (f && pureO o) G s' K
        | some (g, want) => match guardSlot all g with
          | some c => match lk s.fr c with
            | .bool t => br t
              (putF E.nt (some c) s (.bool true) fun s => cond want (vcD E md f (isBar m) (isLone m) o s fun s' => vcOrd E all md rest (f && pureO o) G s' K) (putF E.nt o.dst s .und fun s' => vcOrd E all md rest (f && pureO o) G s' K))
              (putF E.nt (some c) s (.bool false) fun s => cond want (putF E.nt o.dst s .und fun s' => vcOrd E all md rest (f && pureO o) G s' K) (vcD E md f (isBar m) (isLone m) o s fun s' => vcOrd E all md rest (f && pureO o) G s' K))
            | .und => putF E.nt o.dst s .und fun s' => vcOrd E all md rest (f && pureO o) G s' K
            | _ => False
          | none => False) := h
    have hd : ((match all.toArray[idxO m]? with
      | some o => (Region.ready .any all.toArray L).contains (idxO m) && cond (isLone m) (decide (Region.ready .any all.toArray L = [idxO m])) (cond (isBar m) (decide (Region.ready .any all.toArray L = [idxO m]) && barO all.toArray L (idxO m)) (cond (pureO o) (Region.free .any all.toArray L (idxO m)) ((callO o || newO o) && decide (Region.ready .any all.toArray L = [idxO m]))))
      | none => false) && drawFrom all.toArray rest n (L.setIfInBounds (idxO m) true)) = true := hd
    generalize idxO m = i at h hd
    generalize isBar m = b at h hd
    generalize isLone m = z at h hd
    rw [Bool.and_eq_true] at hd
    obtain ⟨hd, hd2⟩ := hd
    split at h
    · exact h.elim
    · rename_i o hi
      have hi' : all.toArray[i]? = some o := by rw [List.getElem?_toArray]; exact hi
      rw [hi'] at hd
      simp only [Bool.and_eq_true] at hd
      obtain ⟨hr, hd⟩ := hd
      have hr' : i ∈ Region.ready .any all.toArray L := by simpa using hr
      -- what is left is done in the same way
      have go : ∀ (f' : Bool) (s' : St) (ρ' : Nat → Nat) (a' : Act) (w' : World), RR X ρ' s' a' w' → Dr md S b0 f' G ρ' s'.hp w' → vcOrd E all md rest f' G s' K → wpAnyB X.P all.toArray S Q n (L.setIfInBounds i true) a' w' :=
        fun f' s' ρ' a' w' R' hI' h' => draw_sound hE hyl hq hn hsel hQ hK rest n _ f' G s' ρ' a' w' hd2 (hc.set hr') R' hI' h'
      -- alone
      have lone : Region.ready .any all.toArray L = [i] → wpOp X.P all.toArray Q i (fun a' w' => (Chg S w w' ∨ barO all.toArray L i = true ∨ ∀ b, S b) ∧ wpAnyB X.P all.toArray S Q n (L.setIfInBounds i true) a' w') a w → wpAnyB X.P all.toArray S Q (n + 1) L a w := by
        intro hrd hw
        refine ⟨fun h0 => (by rw [hrd] at h0; cases h0), fun j hj => ?_⟩
        rw [hrd] at hj
        obtain rfl : j = i := by simpa using hj
        exact hw
      have skip : Region.wanted o (yielded all.toArray a.tmps) = false → ∀ s1 : St, RR X ρ s1 a w → Dr md S b0 f G ρ s1.hp w → putF E.nt o.dst s1 .und (fun s' => vcOrd E all md rest (f && pureO o) G s' K) → wpAnyB X.P all.toArray S Q (n + 1) L a w := by
        intro hw s1 R1 hI1 h1
        obtain ⟨k1, k2⟩ := putF_next2 (z := undef) hn h1 R1 rfl
        have alone : Region.ready .any all.toArray L = [i] → wpAnyB X.P all.toArray S Q (n + 1) L a w := by
          intro hrd
          refine lone hrd ?_
          unfold wpOp
          rw [hi']
          simp only [hw, Bool.false_eq_true, if_false]
          exact ⟨.inl (Chg.refl _ _), go _ _ ρ _ w k2 hI1.put.weak k1⟩
        cases z with
        | true => exact alone (of_decide_eq_true hd)
        | false =>
        cases b with
        | true =>
          have hd : (decide (Region.ready .any all.toArray L = [i]) && barO all.toArray L i) = true := hd
          rw [Bool.and_eq_true] at hd
          exact alone (of_decide_eq_true hd.1)
        | false =>
          have hd : cond (pureO o) (Region.free .any all.toArray L i) ((callO o || newO o) && decide (Region.ready .any all.toArray L = [i])) = true := hd
          cases hp : pureO o with
          | true =>
            rw [hp] at hd
            exact wpAnyB_first (rd := none) (fun b hb => by cases hb) hi' (Region.noSelect_spec hsel) (fun c a w h => absurd h (hQ _ _ _)) n L a w (Region.free_spec hi' hd) hc hr' (.inr ⟨hw, rfl⟩) (go _ _ ρ _ w k2 hI1.put.weak k1)
          | false =>
            rw [hp] at hd
            have hd : ((callO o || newO o) && decide (Region.ready .any all.toArray L = [i])) = true := hd
            rw [Bool.and_eq_true] at hd
            exact alone (of_decide_eq_true hd.2)
      have step : Region.wanted o (yielded all.toArray a.tmps) = true → ∀ s1 : St, RR X ρ s1 a w → Dr md S b0 f G ρ s1.hp w → vcD E md f b z o s1 (fun s' => vcOrd E all md rest (f && pureO o) G s' K) → wpAnyB X.P all.toArray S Q (n + 1) L a w := by
        intro hw s1 R1 hI1 h1
        cases z with
        | true =>
          obtain ⟨hmc, h1⟩ := vcD_lone h1
          obtain ⟨hmb, hall⟩ := hI1.call hmc
          refine lone (of_decide_eq_true hd) ?_
          unfold wpOp
          rw [hi']
          simp only [hw, if_true]
          exact .inl (vc1_sound hE hyl hq hn R1 h1 fun ρ' s' a' w' k1 k2 => ⟨.inr (.inr hall), go _ s' ρ' a' w' k2 (hI1.plain hmb) k1⟩)
        | false =>
        cases b with
        | true =>
          have hd : (decide (Region.ready .any all.toArray L = [i]) && barO all.toArray L i) = true := hd
          rw [Bool.and_eq_true] at hd
          refine lone (of_decide_eq_true hd.1) ?_
          obtain ⟨he, h1⟩ := vcD_true h1
          unfold wpOp
          rw [hi']
          simp only [hw, if_true]
          exact .inl (vc1_sound hE hyl hq hn R1 h1 fun ρ' s' a' w' k1 k2 => ⟨.inr (.inl hd.2), go _ s' ρ' a' w' k2 (hI1.plain he) k1⟩)
        | false =>
          have hd : cond (pureO o) (Region.free .any all.toArray L i) ((callO o || newO o) && decide (Region.ready .any all.toArray L = [i])) = true := hd
          cases hp : pureO o with
          | true =>
            rw [hp] at hd
            obtain ⟨hpv, hm1, hm2⟩ := vcD_pv (new_pure hp) h1
            obtain ⟨z, v, k1, k2, k3⟩ := p_step hE hq hn (calls_of_pure hp) R1 hpv
            have hrd : ∀ b, loadB a o.op = some b → ¬ S b := by
              cases hmc : md.c with
              | true => intro b hb; rw [notLoad_none (hm1 hmc)] at hb; cases hb
              | false => exact rd_not (z := z) hmc R1 hI1 (hm2 hmc) ⟨_, hpv⟩
            exact wpAnyB_first hrd hi' (Region.noSelect_spec hsel) (fun c a w h => absurd h (hQ _ _ _)) n L a w (Region.free_spec hi' hd) hc hr' (.inl ⟨hw, k1⟩) (go _ _ ρ _ w k3 hI1.put.weak k2)
          | false =>
            rw [hp] at hd
            have hd : ((callO o || newO o) && decide (Region.ready .any all.toArray L = [i])) = true := hd
            rw [Bool.and_eq_true] at hd
            refine lone (of_decide_eq_true hd.2) ?_
            unfold wpOp
            rw [hi']
            simp only [hw, if_true]
            have hff : (f && pureO o) = false := by rw [hp, Bool.and_false]
            cases hc' : callO o with
            | true => exact .inl (c_step hE hn hc' R1 (vcD_pv (new_call hc') h1).1 fun v a' w' k1 hB k2 => ⟨.inl (.of_below hB), go _ _ ρ a' w' k2 (by rw [hff]; exact (hI1.grow hB.size).put) k1⟩)
            | false =>
              have hnw : newO o = true := by
                have := hd.1
                rw [hc'] at this; exact this
              obtain ⟨he, h1⟩ := vcD_new hnw h1
              exact .inl (new_sound hE hn hnw R1 h1 fun ρ' s' a' w' k1 hB k2 => ⟨.inl (.of_below hB), go _ s' ρ' a' w' k2 (hI1.plain he) k1⟩)
      split at h
      · rename_i hg
        exact step (by unfold Region.wanted; rw [hg]) s R hI h
      · rename_i g want hg
        split at h
        · rename_i c hc
          obtain ⟨g1, g2⟩ := guard_cases hc hg R
          split at h
          · rename_i t ht
            obtain ⟨e1, e2, e3⟩ := g1 t ht
            obtain ⟨hT, hF⟩ := br_and h
            cases t with
            | true =>
              have h := hT rfl
              rw [putF_eq] at h
              obtain ⟨_, h⟩ := h
              have R1 := R.alias (d := c) (v := .bool true) (by rw [e1]; exact mkVR_bool _)
              have hI1 : Dr md S b0 f G ρ (s.put (some c) (.bool true)).hp w := hI.put
              cases want with
              | true => exact step (e2 rfl) _ R1 hI1 h
              | false => exact skip (e3 (by simp)) _ R1 hI1 h
            | false =>
              have h := hF rfl
              rw [putF_eq] at h
              obtain ⟨_, h⟩ := h
              have R1 := R.alias (d := c) (v := .bool false) (by rw [e1]; exact mkVR_bool _)
              have hI1 : Dr md S b0 f G ρ (s.put (some c) (.bool false)).hp w := hI.put
              cases want with
              | true => exact skip (e3 (by simp)) _ R1 hI1 h
              | false => exact step (e2 rfl) _ R1 hI1 h
          · rename_i ht
            exact skip (g2 ht) _ R hI h
          · exact h.elim
        · exact h.elim
theorem alts_sound (hE : EnvC E X.P) (hyl : E.yl = none) (hq : ∀ c, EqLaw X c) (hn : E.nt = X.nt) {all : List Oper} (hsel : Region.noSelect all.toArray = true) (hQ : ∀ c a w, ¬ Q (.panic c) a w) (hK : Hold X K (Q .normal)) : ∀ (l : Alts) (n : Nat) (L : Array Bool) (f : Bool) (G : List Nat) (s : St) (ρ : Nat → Nat) (a : Act) (w : World), altsFrom all.toArray l n L = true → Closed all.toArray L → (∀ i ∈ l.ids, i ∈ Region.ready .any all.toArray L) → RR X ρ s a w → Dr md S b0 f G ρ s.hp w → vcAlts E all md l G s K →
    ∀ j ∈ l.ids, wpOp X.P all.toArray Q j (fun a' w' => (Chg S w w' ∨ barO all.toArray L j = true ∨ ∀ b, S b) ∧ wpAnyB X.P all.toArray S Q n (L.setIfInBounds j true) a' w') a w
  | .nil, n, L, f, G, s, ρ, a, w, hd, hc, hr, R, hI, h, j, hj => by cases hj
  | .cons i r l, n, L, f, G, s, ρ, a, w, hd, hc, hr, R, hI, h, j, hj => by
    have hd : (drawFrom all.toArray r n (L.setIfInBounds i true) && altsFrom all.toArray l n L) = true := hd
    rw [Bool.and_eq_true] at hd
    obtain ⟨h1, h2⟩ := conj2_out h
    rcases List.mem_cons.1 hj with e | hj
    · subst e
      split at h1
      · rename_i o ho
        have ho' : all.toArray[j]? = some o := by rw [List.getElem?_toArray]; exact ho
        have hrj := hr j List.mem_cons_self
        cases hmc : md.c with
        | true =>
          rw [hmc] at h1
          have h1 : vcW E all o s (fun s' => vcOrd E all md r false G s' K) := h1
          obtain ⟨hmb, hall⟩ := hI.call hmc
          have step : Region.wanted o (yielded all.toArray a.tmps) = true → ∀ s1 : St, RR X ρ s1 a w → Dr md S b0 f G ρ s1.hp w → vc1 E o s1 (fun s' => vcOrd E all md r false G s' K) → wpOp X.P all.toArray Q j (fun a' w' => (Chg S w w' ∨ barO all.toArray L j = true ∨ ∀ b, S b) ∧ wpAnyB X.P all.toArray S Q n (L.setIfInBounds j true) a' w') a w := by
            intro hw s1 R1 hI1 h1
            unfold wpOp
            rw [ho']
            simp only [hw, if_true]
            exact .inl (vc1_sound hE hyl hq hn R1 h1 fun ρ' s' a' w' k1 k2 => ⟨.inr (.inr hall), draw_sound hE hyl hq hn hsel hQ hK r n _ false G s' ρ' a' w' hd.1 (hc.set hrj) k2 (hI1.plain hmb) k1⟩)
          have skip : Region.wanted o (yielded all.toArray a.tmps) = false → ∀ s1 : St, RR X ρ s1 a w → Dr md S b0 f G ρ s1.hp w → putF E.nt o.dst s1 .und (fun s' => vcOrd E all md r false G s' K) → wpOp X.P all.toArray Q j (fun a' w' => (Chg S w w' ∨ barO all.toArray L j = true ∨ ∀ b, S b) ∧ wpAnyB X.P all.toArray S Q n (L.setIfInBounds j true) a' w') a w := by
            intro hw s1 R1 hI1 h1
            obtain ⟨k1, k2⟩ := putF_next2 (z := undef) hn h1 R1 rfl
            unfold wpOp
            rw [ho']
            simp only [hw, Bool.false_eq_true, if_false]
            exact ⟨.inl (Chg.refl _ _), draw_sound hE hyl hq hn hsel hQ hK r n _ false G _ ρ _ w hd.1 (hc.set hrj) k2 (hI1.plain hmb) k1⟩
          unfold vcW at h1
          split at h1
          · rename_i hg
            exact step (by unfold Region.wanted; rw [hg]) s R hI h1
          · rename_i g want hg
            split at h1
            · rename_i c hc
              obtain ⟨g1, g2⟩ := guard_cases hc hg R
              split at h1
              · rename_i t ht
                obtain ⟨e1, e2, e3⟩ := g1 t ht
                obtain ⟨hT, hF⟩ := br_and h1
                cases t with
                | true =>
                  have h := hT rfl
                  rw [putF_eq] at h
                  obtain ⟨_, h⟩ := h
                  have R1 := R.alias (d := c) (v := .bool true) (by rw [e1]; exact mkVR_bool _)
                  have hI1 : Dr md S b0 f G ρ (s.put (some c) (.bool true)).hp w := hI.put
                  cases want with
                  | true => exact step (e2 rfl) _ R1 hI1 h
                  | false => exact skip (e3 (by simp)) _ R1 hI1 h
                | false =>
                  have h := hF rfl
                  rw [putF_eq] at h
                  obtain ⟨_, h⟩ := h
                  have R1 := R.alias (d := c) (v := .bool false) (by rw [e1]; exact mkVR_bool _)
                  have hI1 : Dr md S b0 f G ρ (s.put (some c) (.bool false)).hp w := hI.put
                  cases want with
                  | true => exact skip (e3 (by simp)) _ R1 hI1 h
                  | false => exact step (e2 rfl) _ R1 hI1 h
              · rename_i ht
                exact skip (g2 ht) _ R hI h1
              · exact h1.elim
            · exact h1.elim
        | false =>
        rw [hmc] at h1
        have h1 : vcSG E all md G o s (fun G' s' => vcOrd E all md r false G' s' K) := h1
        have step : Region.wanted o (yielded all.toArray a.tmps) = true → ∀ s1 : St, RR X ρ s1 a w → Dr md S b0 f G ρ s1.hp w → vcS E md G ⟨o.dst, o.op, o.type, o.pos, o.after, none⟩ s1 (fun G' s' => vcOrd E all md r false G' s' K) → wpOp X.P all.toArray Q j (fun a' w' => (Chg S w w' ∨ barO all.toArray L j = true ∨ ∀ b, S b) ∧ wpAnyB X.P all.toArray S Q n (L.setIfInBounds j true) a' w') a w := by
          intro hw s1 R1 hI1 h1
          obtain ⟨hg, hwp⟩ := s_step (Q := Q) (next := fun a' w' => (Chg S w w' ∨ barO all.toArray L j = true ∨ ∀ b, S b) ∧ wpAnyB X.P all.toArray S Q n (L.setIfInBounds j true) a' w') hE hn R1 hI1 h1 fun G' ρ' s' a' w' k1 hC R' hI' =>
            ⟨.inl hC, draw_sound hE hyl hq hn hsel hQ hK r n _ false G' s' ρ' a' w' hd.1 (hc.set hrj) R' hI' k1⟩
          unfold wpOp
          rw [ho']
          simp only [hw, if_true]
          exact .inl hwp
        have skip : Region.wanted o (yielded all.toArray a.tmps) = false → ∀ s1 : St, RR X ρ s1 a w → Dr md S b0 f G ρ s1.hp w → putF E.nt o.dst s1 .und (fun s' => vcOrd E all md r false G s' K) → wpOp X.P all.toArray Q j (fun a' w' => (Chg S w w' ∨ barO all.toArray L j = true ∨ ∀ b, S b) ∧ wpAnyB X.P all.toArray S Q n (L.setIfInBounds j true) a' w') a w := by
          intro hw s1 R1 hI1 h1
          obtain ⟨k1, k2⟩ := putF_next2 (z := undef) hn h1 R1 rfl
          unfold wpOp
          rw [ho']
          simp only [hw, Bool.false_eq_true, if_false]
          exact ⟨.inl (Chg.refl _ _), draw_sound hE hyl hq hn hsel hQ hK r n _ false G _ ρ _ w hd.1 (hc.set hrj) k2 (hI1.put.grow (Nat.le_refl _)) k1⟩
        unfold vcSG at h1
        split at h1
        · rename_i hg
          refine step (by unfold Region.wanted; rw [hg]) s R hI ?_
          rw [← hg]; exact h1
        · rename_i g want hg
          split at h1
          · rename_i c hc
            obtain ⟨g1, g2⟩ := guard_cases hc hg R
            split at h1
            · rename_i t ht
              obtain ⟨e1, e2, e3⟩ := g1 t ht
              obtain ⟨hT, hF⟩ := br_and h1
              cases t with
              | true =>
                have h := hT rfl
                rw [putF_eq] at h
                obtain ⟨_, h⟩ := h
                have R1 := R.alias (d := c) (v := .bool true) (by rw [e1]; exact mkVR_bool _)
                have hI1 : Dr md S b0 f G ρ (s.put (some c) (.bool true)).hp w := hI.put
                cases want with
                | true => exact step (e2 rfl) _ R1 hI1 h
                | false => exact skip (e3 (by simp)) _ R1 hI1 h
              | false =>
                have h := hF rfl
                rw [putF_eq] at h
                obtain ⟨_, h⟩ := h
                have R1 := R.alias (d := c) (v := .bool false) (by rw [e1]; exact mkVR_bool _)
                have hI1 : Dr md S b0 f G ρ (s.put (some c) (.bool false)).hp w := hI.put
                cases want with
                | true => exact skip (e3 (by simp)) _ R1 hI1 h
                | false => exact step (e2 rfl) _ R1 hI1 h
            · rename_i ht
              exact skip (g2 ht) _ R hI h1
            · exact h1.elim
          · exact h1.elim
      · exact h1.elim
    · rcases h2 with e | h2
      · rw [e] at hj; cases hj
      · exact alts_sound hE hyl hq hn hsel hQ hK l n L f G s ρ a w hd.2 hc (fun i hi => hr i (List.mem_cons_of_mem _ hi)) R hI h2 j hj
end
end
theorem idsOk_spec {F : List Nat} {hp : List (Nat × Blk)} : ∀ {l : List Nat}, idsOk F hp l = true → ∀ id ∈ l, isVar (lkb hp id) = true ∧ memN F id = false
  | i :: l, h, id, hm => by
    unfold idsOk at h
    rw [Bool.and_eq_true, Bool.and_eq_true, Bool.not_eq_true'] at h
    rcases List.mem_cons.1 hm with rfl | hm
    · exact h.1
    · exact idsOk_spec h.2 id hm

/-! ### Code -/
def HoldE (X : Fix) (K : Exit → St → Prop) (Q : Exit → Act → World → Prop) : Prop := ∀ e ρ s a w, K e s → RR X ρ s a w → Q e a w

section
variable {F : Fence} {n : Nat} {P : Program}
theorem wpIn_loop_n {c : Code} (I : Nat → Act → World → Prop) {j : Nat} (h0 : I j a w)
    (round : ∀ j a w, I j a w → c.wpIn F n P (Exit.then (fun a' w' => ∃ m, m < j ∧ I m a' w') Q) a w) : (Code.loop c).wpIn F n P Q a w := by
  intro b k cs hro hb hr
  have key : ∀ j a w, I j a w → ∃ e a' w', Q e a' w' ∧ ArrivesIn (Machine.fenced P F) P (lone (b.atR a (.code c :: .inLoop c :: k)) cs w) b k cs e a' w' := by
    intro j
    induction j using Nat.strongRecOn with
    | _ j ih =>
      intro a w hI
      obtain ⟨e, a₁, w₁, hq, harr⟩ := round j a w hI b (.inLoop c :: k) cs hro hb hr
      cases e with
      | normal =>
        obtain ⟨m, hlt, hI₁⟩ := hq
        obtain ⟨e₂, a₂, w₂, hq₂, harr₂⟩ := ih m hlt a₁ w₁ hI₁
        exact ⟨e₂, a₂, w₂, hq₂, .of_steps (StepsIn.trans harr (.one (fenced_calm hb hr rfl) stepR_inLoop)) harr₂⟩
      | exit id => exact ⟨_, a₁, w₁, hq, .pass (x := .inLoop c) rfl (fun _ _ => .inl (by simp)) harr⟩
      | goto l => exact ⟨_, a₁, w₁, hq, .pass (x := .inLoop c) rfl (fun _ _ => .inl (by simp)) harr⟩
      | ret => exact ⟨_, a₁, w₁, hq, .pass (x := .inLoop c) rfl (fun _ _ => .inl (by simp)) harr⟩
      | panic ch => exact ⟨_, a₁, w₁, hq, .pass (x := .inLoop c) rfl (fun _ _ => .inl (by simp)) harr⟩
      | outgrown => exact ⟨_, a₁, w₁, hq, .pass (x := .inLoop c) rfl (fun _ _ => .inl (by simp)) harr⟩
  obtain ⟨e, a', w', hq, harr⟩ := key _ a w h0
  exact ⟨e, a', w', hq, .of_steps (.one (fenced_calm hb hr rfl) stepR_loop) harr⟩
end

/-! ### Objects that are no cells -/
theorem cell_obj {l : Nat} {o o' : Obj} (hl : w.heap[l]? = some o) (ho : ∀ cs T z, o ≠ .cells cs T z) (ho' : ∀ cs T z, o' ≠ .cells cs T z) (b : Nat) : SameC w (w.putObj l o') b := by
  intro off sp
  by_cases h : b = l
  · subst h
    have h2 : (w.putObj b o').heap[b]? = some o' := World.putObj_heap_same (Array.getElem?_eq_some_iff.1 hl).1
    have e1 : w.cell? ⟨b, off, sp⟩ = none := by
      unfold World.cell?
      rw [hl]
      cases o <;> first | rfl | exact absurd rfl (ho _ _ _)
    have e2 : (w.putObj b o').cell? ⟨b, off, sp⟩ = none := by
      unfold World.cell?
      rw [h2]
      cases o' <;> first | rfl | exact absurd rfl (ho' _ _ _)
    rw [e1, e2]
  · exact cell_same (World.putObj_heap_other h) off sp
theorem KeepsB.obj {l m : Nat} {o' : Obj} (h : m ≤ l) : KeepsB m w (w.putObj l o') := fun k o hk ho _ => (World.putObj_heap_other (by omega)).trans ho
theorem putObj_size {l : Nat} {o' : Obj} : (w.putObj l o').heap.size = w.heap.size := by simp [World.putObj]
/-- Such an object, above the base, is another one now. -/
theorem RR.obj (R : RR X ρ s a w) {l : Nat} {o o' : Obj} (hl : w.heap[l]? = some o) (ho : ∀ cs T z, o ≠ .cells cs T z) (ho' : ∀ cs T z, o' ≠ .cells cs T z) (hb : X.base ≤ l) {X' : Fix} {a' : Act}
    (e1 : X'.ok0 = X.ok0) (e2 : X'.w0 = X.w0) (e3 : X'.stk = X.stk) (e4 : X'.stv = X.stv) (e5 : X'.nt = X.nt) (ha : a'.tmps = a.tmps)
    (hd : DefOk X'.nm (max X'.base X'.lim) a'.defers (w.putObj l o')) (hsp : ∀ ks, s.ks = some ks → X'.sp ks.2 (w.putObj l o')) (hlim : X'.lim ≤ w.heap.size) : RR X' ρ s a' (w.putObj l o') := by
  have hbase : X'.base = X.base := by unfold Fix.base; rw [e2]
  have hc : ∀ hp w, cx X' ρ hp w = cx X ρ hp w := by
    intro hp w
    unfold cx okC
    rw [e1, hbase]
  have hne : ∀ id, live (lkb s.hp id) → ρ id ≠ l := by
    intro id hlv he
    have hh := R.heap id
    cases hk : lkb s.hp id with
    | none => rw [hk] at hlv; exact hlv
    | var e v f =>
      rw [hk] at hh
      obtain ⟨_, cs, T, h2, _⟩ := hh
      have h2 : w.heap[ρ id]? = some (.cells cs T (0, 0)) := h2
      rw [he, hl] at h2; cases h2; exact ho _ _ _ rfl
    | row te e xs f =>
      rw [hk] at hh hlv
      obtain ⟨_, cs, h2, _⟩ := hh.2 hlv
      have h2 : w.heap[ρ id]? = some (.cells cs te (0, 0)) := h2
      rw [he, hl] at h2; cases h2; exact ho _ _ _ rfl
  have hblk : ∀ id, live (lkb s.hp id) → (w.putObj l o').heap[ρ id]? = w.heap[ρ id]? := fun id hlv => World.putObj_heap_other (hne id hlv)
  have hext : Ext (fun _ => False) (cx X ρ s.hp w) (cx X ρ s.hp (w.putObj l o')) := by
    refine ⟨fun b hb => ⟨⟨hb.1, by rw [putObj_size]; exact hb.2.1, hb.2.2⟩, cell_obj hl ho ho' b⟩, fun id e v f _ h => ⟨rfl, v, f, h⟩, fun id te e xs f _ h => ⟨xs, f, h, rfl, fun hx => ⟨rfl, ?_⟩⟩⟩
    have h : lkb s.hp id = .row te e xs f := h
    show cellsN (w.putObj l o') (ρ id) = cellsN w (ρ id)
    unfold cellsN
    rw [hblk id (by rw [h]; exact hx)]
  have hB : Below X.base X.w0 (w.putObj l o') := by
    have h0 := R.below
    exact ⟨h0.os, h0.tape, h0.output, by rw [putObj_size]; exact h0.size, fun k hk => (World.putObj_heap_other (by omega)).trans (h0.block k hk)⟩
  refine ⟨by rw [ha, e5]; exact R.size, hd, fun b hb' => by rw [hbase]; exact R.ok0 b (by rw [e1] at hb'; exact hb'), by rw [hbase, e2]; exact hB, fun id => ?_, R.inj, fun d => ?_, fun ks hks i => ?_, hsp, by rw [putObj_size]; exact hlim⟩
  · rw [hc]
    have hh := R.heap id
    cases hk : lkb s.hp id with
    | none => trivial
    | var e v f =>
      rw [hk] at hh
      obtain ⟨g1, cs, T, g2, g3, g4, g5⟩ := hh
      exact ⟨by rw [hbase]; exact g1, cs, T, (hblk id (by rw [hk]; trivial)).trans g2, CR_ext hext _ _ (Free_no _) g3, g4, g5⟩
    | row te e xs f =>
      rw [hk] at hh
      obtain ⟨g0, hh⟩ := hh
      refine ⟨g0, fun hne => ?_⟩
      obtain ⟨g1, cs, g2, g3, g4⟩ := hh hne
      exact ⟨by rw [hbase]; exact g1, cs, (hblk id (by rw [hk]; exact hne)).trans g2, g3, EncL_mono (fun x vs h => Enc_mono hext.ok e x vs h) _ _ g4⟩
  · rw [hc, ha]; exact VR_ext hext _ _ (Free_no _) (R.fr d)
  · rw [hc, e3, e4]; exact VR_ext hext _ _ (Free_no _) (R.stk ks hks i)
theorem setPs_fr {c : Cx} : ∀ (ps : List Nat) (as : List AV) (xs : List Value) (fr : List (Nat × AV)) (tm : Array Value), CVs c as xs → okVs as = true → as.length = ps.length → allLt tm.size ps = true → (∀ d, VR c (lk fr d) (tm.getD d undef)) →
    ∀ d, VR c (lk (setPs ps as fr) d) (((ps.zip xs).foldl (fun t (p, v) => t.setIfInBounds p v) tm).getD d undef)
  | [], [], xs, fr, tm, _, _, _, _, h, d => h d
  | [], _ :: _, _, _, _, _, _, hl, _, _, _ => by cases hl
  | _ :: _, [], _, _, _, _, _, hl, _, _, _ => by cases hl
  | p :: ps, v :: as, xs, fr, tm, hv, hok, hl, hlt, h, d => by
    obtain ⟨x, ys, rfl, g1, g2, g3⟩ := hv
    simp only [okVs, Bool.and_eq_true] at hok
    have hlt : (Nat.ble (p + 1) tm.size && allLt tm.size ps) = true := hlt
    rw [Bool.and_eq_true] at hlt
    have hp := Nat.le_of_ble_eq_true hlt.1
    have hx : VR c v x := by cases v <;> first | exact ⟨g1, g2⟩ | cases hok.1
    refine setPs_fr ps as ys ((p, v) :: fr) (tm.setIfInBounds p x) g3 hok.2 (by simpa using hl) (by simpa using hlt.2) (fun i => ?_) d
    rw [lk_cons]
    by_cases e : p = i
    · subst e
      rw [if_pos rfl]
      have : (tm.setIfInBounds p x).getD p undef = x := by simp [Array.getD, show p < tm.size by omega]
      rw [this]; exact hx
    · rw [if_neg e]
      have : (tm.setIfInBounds p x).getD i undef = tm.getD i undef := by
        simp only [Array.getD_eq_getD_getElem?, Array.getElem?_setIfInBounds]
        rw [if_neg e]
      rw [this]; exact h i
theorem fold_size : ∀ (l : List (Nat × Value)) (tm : Array Value), (l.foldl (fun t (p, v) => t.setIfInBounds p v) tm).size = tm.size
  | [], _ => rfl
  | (p, v) :: l, tm => by rw [List.foldl_cons, fold_size l]; simp
theorem wp_unr {P : Program} {ro : Option Nat} {n : Nat} {c : Code} (hc : ∀ (s : St) (ρ : Nat → Nat) (a : Act) (w : World) (K : Exit → St → Prop) (Q : Exit → Act → World → Prop), (∀ c a w, ¬ Q (.panic c) a w) → RR X ρ s a w → vc E c s K → HoldE X K Q → c.wpIn (FW ro) n P Q a w)
    {K : Exit → St → Prop} {Q : Exit → Act → World → Prop} (hQ : ∀ c a w, ¬ Q (.panic c) a w) (hK : HoldE X K Q) (j : Nat) (R : RR X ρ s a w) (h : unr (fun s K => vc E c s K) j s K) : (Code.loop c).wpIn (FW ro) n P Q a w := by
  refine wpIn_loop_n (fun j a w => ∃ s ρ, RR X ρ s a w ∧ unr (fun s K => vc E c s K) j s K) (j := j) ⟨s, ρ, R, h⟩ fun j a' w' ⟨s', ρ', R', h'⟩ => ?_
  cases j with
  | zero => exact h'.elim
  | succ j =>
    refine hc s' ρ' a' w' _ _ (fun c a w => hQ c a w) R' h' fun e ρ2 s2 a2 w2 h2 R2 => ?_
    cases e with
    | normal => exact ⟨j, Nat.lt_succ_self _, s2, ρ2, R2, h2⟩
    | _ => exact hK _ _ _ _ _ h2 R2

/-- The jump by which a round was left. -/
def jmp : Nat → Option Code
  | 0 => none
  | 1 => some .ret
  | i + 2 => some (.exit i)
theorem appK_p (S : List Nat) (p q : Nat) (ks : Option Ks) : appK (some (S, p)) ks = appK (some (S, q)) ks := by cases ks <;> rfl

/-- A scope in which the run jumps back to a label of its spine; what holds at a jump is known by how often one jumps yet. -/
theorem wp_scope_n {P : Program} {Q : Exit → Act → World → Prop} {a : Act} {w : World} {c rest : Code} (l : Nat) (J : Nat → Act → World → Prop) (hf : findLabel c l = some rest)
    (first : c.wp P (Exit.jump l (fun a w => ∃ n, J n a w) Q) a w)
    (pass : ∀ n a w, J n a w → rest.wp P (Exit.jump l (fun a' w' => ∃ m, m < n ∧ J m a' w') Q) a w) : (Code.scope c).wp P Q a w := by
  intro b k cs
  have hg : gotoIn l (.inScope c :: k) = some (.code rest :: .inScope c :: k) := by simp [gotoIn, hf]
  have key : ∀ n a w, J n a w → ∃ e a' w', Q e a' w' ∧ Arrives P (lone (b.at a (.code rest :: .inScope c :: k)) cs w) b k cs e a' w' := by
    intro n
    induction n using Nat.strongRecOn with
    | _ n ih =>
      intro a w hJ
      obtain ⟨e, a₁, w₁, hq, harr⟩ := pass n a w hJ b (.inScope c :: k) cs
      cases e with
      | normal => exact ⟨.normal, a₁, w₁, hq, Steps.trans harr (.one step_inScope)⟩
      | exit id => exact ⟨.exit id, a₁, w₁, hq, fun k' hk => harr k' (by simp [exitTo, hk])⟩
      | goto l' =>
        obtain ⟨rfl, m, hlt, hJ'⟩ := hq
        obtain ⟨e₂, a₂, w₂, hq₂, harr₂⟩ := ih m hlt a₁ w₁ hJ'
        exact ⟨e₂, a₂, w₂, hq₂, .of_steps (harr _ hg) harr₂⟩
      | ret => exact ⟨_, a₁, w₁, hq, harr⟩
      | panic ch => exact ⟨_, a₁, w₁, hq, harr⟩
      | outgrown => exact ⟨_, a₁, w₁, hq, harr⟩
  obtain ⟨e, a₁, w₁, hq, harr⟩ := first b (.inScope c :: k) cs
  cases e with
  | normal => exact ⟨.normal, a₁, w₁, hq, .head step_scope (Steps.trans harr (.one step_inScope))⟩
  | exit id => exact ⟨.exit id, a₁, w₁, hq, fun k' hk => .head step_scope (harr k' (by simp [exitTo, hk]))⟩
  | goto l' =>
    obtain ⟨rfl, n, hJ'⟩ := hq
    obtain ⟨e₂, a₂, w₂, hq₂, harr₂⟩ := key n a₁ w₁ hJ'
    exact ⟨e₂, a₂, w₂, hq₂, .of_steps (.head step_scope (harr _ hg)) harr₂⟩
  | ret => exact ⟨_, a₁, w₁, hq, .of_steps (.one step_scope) harr⟩
  | panic ch => exact ⟨_, a₁, w₁, hq, .of_steps (.one step_scope) harr⟩
  | outgrown => exact ⟨_, a₁, w₁, hq, .of_steps (.one step_scope) harr⟩

theorem vc_scope_eq (E : Env) (x c1 : Code) (s : St) (K : Exit → St → Prop) : vc E (.scope (.seq x c1)) s K = cond (isLab x) (vc E c1 s (noJump K)) (match c1 with
      | .seq b c2 => (match c2 with
        | .seq d c3 => (match c3 with
          | .seq y r => cond (isLab y && noLab x (labN y) && noLab b (labN y) && noLab d (labN y)) (vc E x s fun e s1 => match e with
              | .normal => vc E b s1 fun e s2 => match e with
                | .normal => vc E d s2 fun e s3 => match e with
                  | .normal => jumpI E (labN y) (fun s K => vc E r s K) s3 K
                  | e => noJump K e s3
                | e => noJump K e s2
              | e => noJump K e s1) False
          | _ => False)
        | _ => False)
      | _ => False) := by
  cases c1 with
  | seq b c2 => cases c2 with
    | seq d c3 => cases c3 with
      | seq y r => rfl
      | _ => rfl
    | _ => rfl
  | _ => rfl
theorem vc_sound {E : Env} {P : Program} (hE : EnvC E P) (hP : PrOk P) : ∀ (c : Code) (X : Fix) (ro : Option Nat) (n : Nat), X.P = P → E.nt = X.nt → (ro = none → X.nm = E.yl.isSome) → (∀ l Y, E.yl = some (l, Y) → YOk X l Y ∧ ro = none) → (ro.isSome = true → roundOk c = true) →
    ∀ (s : St) (ρ : Nat → Nat) (a : Act) (w : World) (K : Exit → St → Prop) (Q : Exit → Act → World → Prop), (∀ c a w, ¬ Q (.panic c) a w) → RR X ρ s a w → vc E c s K → HoldE X K Q → c.wpIn (FW ro) n P Q a w
  | .skip, X, ro, n, hX, hn, hnm, hY, hro, s, ρ, a, w, K, Q, hQ, R, h, hK => wpIn_skip (hK _ _ _ _ _ h R)
  | .region id ops dr, X, ro, n, hX, hn, hnm, hY, hro, s, ρ, a, w, K, Q, hQ, R, h, hK => by
    obtain ⟨l⟩ := ops
    have h : cond dr (vcDraw { E with yl := none } id l s (K .normal)) (cutP (cutQ E id) (fun J => vcOps E l l s (pruneK E id J)) (K .normal)) := h
    have hE' : EnvC E X.P := by rw [hX]; exact hE
    rw [← hX]
    cases dr with
    | false =>
      refine wpIn_region ?_
      obtain ⟨J, h, hJ⟩ : ∃ J : St → Prop, vcOps E l l s (pruneK E id J) ∧ ∀ s, J s → K .normal s := by
        have h : cutP (cutQ E id) (fun J => vcOps E l l s (pruneK E id J)) (K .normal) := h
        cases hc : cutQ E id with
        | false => rw [hc] at h; exact ⟨K .normal, h, fun _ h => h⟩
        | true => rw [hc] at h; exact cutI_out h
      have := ops_sound (ro := ro) (n := n) (Q := Q) hE' (fun l Y e => ⟨(hY l Y e).1, by rw [hnm (hY l Y e).2, e]; rfl, (hY l Y e).2⟩) (hP.eq X hX) hn (all := l) l 0 s ρ a w rfl R h (prune_hold (K := J) (fun ρ' s' a' w' h => hK .normal ρ' s' a' w' (hJ s' h)))
      rw [List.range_eq_range']; simpa using this
    | true =>
      obtain rfl : ro = none := by
        cases ro with
        | none => rfl
        | some l => have := hro rfl; simp [roundOk] at this
      have h : vcDraw { E with yl := none } id l s (K .normal) := h
      unfold vcDraw at h
      split at h
      · rename_i ord _
        obtain ⟨h1, h⟩ := h
        rw [show mdOf { E with yl := none } id = mdOf E id from rfl] at h
        have hcb : (mdOf E id).c = true → (mdOf E id).b = false := by
          unfold mdOf
          split
          · intro h; cases h
          · intro _; rfl
        generalize mdOf E id = md at h hcb
        obtain ⟨mb, ids, F, mc⟩ := md
        obtain ⟨h2, h⟩ := cond_elim h
        unfold drawOk at h1
        rw [Bool.and_eq_true] at h1
        have hB : Below w.heap.size w { w with drawn := w.drawn + 1 } := ⟨rfl, rfl, rfl, Nat.le_refl _, fun _ _ => rfl⟩
        have hids := idsOk_spec h2
        have hI : Dr ⟨mb, ids, F, mc⟩ (fun b => mc = true ∨ mb = true ∧ (w.heap.size ≤ b ∨ ∃ i ∈ ids, ρ i = b)) w.heap.size true [] ρ s.hp { w with drawn := w.drawn + 1 } :=
          ⟨fun hb hc b hS => (by rw [show mb = false from hb, show mc = false from hc] at hS; rcases hS with h | ⟨h, _⟩ <;> cases h), fun hc => ⟨hcb hc, fun b => .inl hc⟩, fun _ => Nat.le_refl _, fun _ _ => rfl, fun hb i hi => ⟨.inr ⟨hb, .inr ⟨i, hi, rfl⟩⟩, (hids i hi).1, (hids i hi).2⟩, fun hb i hl _ => (R.lt hl).2, fun _ i hi => (by cases hi), fun _ i hi => (by cases hi), fun hb b hS => (by rcases hS with h | h; (· have := hcb h; rw [show mb = true from hb] at this; cases this); exact h.2), fun hb b hl => .inr ⟨hb, .inl hl⟩⟩
        obtain ⟨J, h, hJ⟩ : ∃ J : St → Prop, vcOrd { E with yl := none } l ⟨mb, ids, F, mc⟩ ord true [] s (pruneK { E with yl := none } id J) ∧ ∀ s, J s → K .normal s := by
          cases mc with
          | false => exact ⟨K .normal, h, fun _ h => h⟩
          | true => exact cutI_out h
        have := draw_sound (Q := Q) hE'.noY rfl (hP.eq X hX) hn (all := l) h1.1 hQ (prune_hold (K := J) (fun ρ' s' a' w' h => hK .normal ρ' s' a' w' (hJ s' h))) ord _ _ true [] s ρ a { w with drawn := w.drawn + 1 } h1.2 Closed.none (R.world hB).2 hI h
        refine (wpIn_wide (n := n)).2 (wp_region_B (S := fun b => mc = true ∨ mb = true ∧ (w.heap.size ≤ b ∨ ∃ i ∈ ids, ρ i = b)) (by rw [hX]; exact hP.mixed) ?_)
        rw [show (l.toArray).size = l.length by simp]
        exact this
      · exact h.elim
  | .seq x y, X, ro, n, hX, hn, hnm, hY, hro, s, ρ, a, w, K, Q, hQ, R, h, hK => by
    have hro' : ro.isSome = true → roundOk x = true ∧ roundOk y = true := fun h => by
      have := hro h
      simpa [roundOk] using this
    refine wpIn_seq (vc_sound hE hP x X ro n hX hn hnm hY (fun h => (hro' h).1) s ρ a w _ _ (fun c a w => hQ c a w) R h fun e ρ' s' a' w' h1 R1 => ?_)
    cases e with
    | normal => exact vc_sound hE hP y X ro n hX hn hnm hY (fun h => (hro' h).2) s' ρ' a' w' K Q hQ R1 h1 hK
    | _ => exact hK _ _ _ _ _ h1 R1
  | .cond c x y, X, ro, n, hX, hn, hnm, hY, hro, s, ρ, a, w, K, Q, hQ, R, h, hK => by
    have hro' : ro.isSome = true → roundOk x = true ∧ roundOk y = true := fun h => by
      have := hro h
      simpa [roundOk] using this
    simp only [vc] at h
    split at h
    · rename_i t ht
      have hc := VR_opn R c
      rw [ht] at hc
      have ec := VR_bool hc
      obtain ⟨hT, hF⟩ := br_and h
      have alias : ∀ b : Bool, a.eval c = .bool b → RR X ρ (s.put (slotOf c) (.bool b)) a w := by
        intro b hb
        cases c with
        | tmp d => exact R.alias (by show VR _ _ (a.eval (.tmp d)); rw [hb]; exact mkVR_bool _)
        | _ => exact R
      cases t with
      | true =>
        have h := hT rfl
        rw [putF_eq] at h
        exact wpIn_cond_true ec (vc_sound hE hP x X ro n hX hn hnm hY (fun h => (hro' h).1) _ ρ a w K Q hQ (alias true ec) h.2 hK)
      | false =>
        have h := hF rfl
        rw [putF_eq] at h
        exact wpIn_cond_false ec (vc_sound hE hP y X ro n hX hn hnm hY (fun h => (hro' h).2) _ ρ a w K Q hQ (alias false ec) h.2 hK)
    · exact h.elim
  | .block id c, X, ro, n, hX, hn, hnm, hY, hro, s, ρ, a, w, K, Q, hQ, R, h, hK => by
    obtain ⟨J, h, hJ⟩ : ∃ J : St → Prop, vc E c s (blkK E id K J) ∧ ∀ s, J s → K .normal s := by
      have h : cutP (cutQ E (7000000 + id)) (fun J => vc E c s (blkK E id K J)) (K .normal) := by
        have h : blkP (cutQ E (7000000 + id)) E id (vc E c) s K := h
        rwa [blkP_eq] at h
      cases hc : cutQ E (7000000 + id) with
      | false => rw [hc] at h; exact ⟨K .normal, h, fun _ h => h⟩
      | true => rw [hc] at h; exact cutI_out h
    have hN : Hold X (pruneK E (7000000 + id) J) (Q .normal) := prune_hold (K := J) (fun ρ' s' a' w' h R => hK .normal ρ' s' a' w' (hJ s' h) R)
    refine wpIn_block (vc_sound hE hP c X ro n hX hn hnm hY (fun h => by simpa [roundOk] using hro h) s ρ a w _ _ (fun c a w => hQ c a w) R h fun e ρ' s' a' w' h1 R1 => ?_)
    cases e with
    | exit i =>
      have h1 : cond (Nat.beq i id) (pruneK E (7000000 + id) J s') (K (.exit i) s') := h1
      by_cases hi : i = id
      · subst hi
        rw [Nat.beq_refl] at h1
        simp only [Exit.inBlock, if_true]
        exact hN _ _ _ _ h1 R1
      · have : Nat.beq i id = false := by
          cases hb : Nat.beq i id with
          | false => rfl
          | true => exact absurd (Nat.eq_of_beq_eq_true hb) hi
        rw [this] at h1
        simp only [Exit.inBlock, hi, if_false]
        exact hK _ _ _ _ _ h1 R1
    | normal => exact hN _ _ _ _ h1 R1
    | _ => exact hK _ _ _ _ _ h1 R1
  | .loop c, X, ro, n, hX, hn, hnm, hY, hro, s, ρ, a, w, K, Q, hQ, R, h, hK => by
    have hE' : EnvC E X.P := by rw [hX]; exact hE
    rcases h with ⟨I, μ, M, h0, h1⟩ | ⟨j, h⟩
    · obtain ⟨s0, hI, R0⟩ := mask_sound hE'.t R h0
      refine wpIn_loop_n (fun n a w => ∃ s ρ, μ s = n ∧ I s ∧ RR X ρ s a w) ⟨s0, ρ, rfl, hI, R0⟩ fun j a' w' ⟨s', ρ', hm, hI', R'⟩ => ?_
      refine vc_sound hE hP c X ro n hX hn hnm hY (fun h => by simpa [roundOk] using hro h) s' ρ' a' w' _ _ (fun c a w => hQ c a w) R' (h1 s' hI') fun e ρ2 s2 a2 w2 h2 R2 => ?_
      cases e with
      | normal =>
        obtain ⟨s3, ⟨k1, k2⟩, R3⟩ := mask_sound hE'.t R2 h2
        exact ⟨μ s3, by rw [← hm]; exact k2, s3, ρ2, rfl, k1, R3⟩
      | _ => exact hK _ _ _ _ _ h2 R2
    · exact wp_unr (fun s ρ a w K Q => vc_sound hE hP c X ro n hX hn hnm hY (fun h => by simpa [roundOk] using hro h) s ρ a w K Q) hQ hK j R h
  | .exit id, X, ro, n, hX, hn, hnm, hY, hro, s, ρ, a, w, K, Q, hQ, R, h, hK => wpIn_exit (hK _ _ _ _ _ h R)
  | .ret, X, ro, n, hX, hn, hnm, hY, hro, s, ρ, a, w, K, Q, hQ, R, h, hK => wpIn_ret (hK _ _ _ _ _ h R)
  | .goto l, X, ro, n, hX, hn, hnm, hY, hro, s, ρ, a, w, K, Q, hQ, R, h, hK => wpIn_goto (hK _ _ _ _ _ h R)
  | .label l, X, ro, n, hX, hn, hnm, hY, hro, s, ρ, a, w, K, Q, hQ, R, h, hK => wpIn_label (hK _ _ _ _ _ h R)
  | .scope c, X, ro, n, hX, hn, hnm, hY, hro, s, ρ, a, w, K, Q, hQ, R, h, hK => by
    obtain rfl : ro = none := by
      cases ro with
      | none => rfl
      | some l => have := hro rfl; simp [roundOk] at this
    have hE' : EnvC E X.P := by rw [hX]; exact hE
    cases c with
    | seq x c1 =>
      rw [vc_scope_eq] at h
      cases hl0 : isLab x with
      | true =>
        rw [hl0] at h
        have hx := isLab_some hl0
        rw [hx]
        refine (wpIn_wide (n := n)).2 (wp_scope_straight ?_)
        refine wp_seq (wp_label ?_)
        refine (wpIn_wide (n := n)).1 (vc_sound hE hP c1 X none n hX hn hnm hY (fun h => by cases h) s ρ a w (noJump K) (Exit.noGoto Q) (fun c a w => hQ c a w) R h fun e ρ' s' a' w' h1 R1 => ?_)
        cases e with
        | goto l' => exact h1
        | _ => exact hK _ _ _ _ _ h1 R1
      | false =>
        rw [hl0] at h
        cases c1 with
        | seq y c2 =>
          cases c2 with
          | seq z c3 =>
            cases c3 with
            | seq lb r =>
              obtain ⟨hlb, h5⟩ := cond_elim h
              simp only [Bool.and_eq_true] at hlb
              obtain ⟨⟨⟨hlb, f1⟩, f2⟩, f3⟩ := hlb
              have hlb := isLab_some hlb
              generalize labN lb = l at h5 hlb f1 f2 f3
              subst hlb
              have hf : findLabel (.seq x (.seq y (.seq z (.seq (.label l) r)))) l = some (.seq .skip r) := by
                simp [findLabel, noLab_none f1, noLab_none f2, noLab_none f3]
              obtain ⟨J, hJ⟩ : ∃ J : Nat → Act → World → Prop, J = fun m a' w' => ∃ (I : St → Prop) (μ : St → Nat) (M : Msk) (s' : St) (ρ' : Nat → Nat), (∀ s', I s' → vc E r s' fun e s'' => match e with
                  | .goto l' => cond (Nat.beq l' l) (maskK E M s'' fun s3 => I s3 ∧ μ s3 < μ s') False
                  | e => K e s'') ∧ I s' ∧ μ s' = m ∧ RR X ρ' s' a' w' := ⟨_, rfl⟩
              have pass : ∀ m a' w', J m a' w' → r.wp P (Exit.jump l (fun a1 w1 => ∃ k, k < m ∧ J k a1 w1) Q) a' w' := by
                intro m a' w' hj
                have hj2 := hj
                rw [hJ] at hj2
                obtain ⟨I, μ, M, s', ρ', k1, k2, k3, k4⟩ := hj2
                refine (wpIn_wide (n := n)).1 (vc_sound hE hP r X none n hX hn hnm hY (fun h => by cases h) s' ρ' a' w' _ (Exit.jump l (fun a1 w1 => ∃ k, k < m ∧ J k a1 w1) Q) (fun c a w => hQ c a w) k4 (k1 s' k2) fun e ρ2 s2 a2 w2 h2 R2 => ?_)
                cases e with
                | goto l' =>
                  obtain ⟨hb, h2⟩ := cond_elim h2
                  obtain ⟨s3, ⟨q1, q2⟩, R3⟩ := mask_sound hE'.t R2 h2
                  refine ⟨Nat.eq_of_beq_eq_true hb, μ s3, by rw [← k3]; exact q2, ?_⟩
                  rw [hJ]
                  exact ⟨I, μ, M, s3, ρ2, k1, q1, rfl, R3⟩
                | _ => exact hK _ _ _ _ _ h2 R2
              have nj : ∀ (J0 : Act → World → Prop) e ρ' s' a' w', noJump K e s' → RR X ρ' s' a' w' → e ≠ .normal → Exit.jump l J0 Q e a' w' := by
                intro J0 e ρ' s' a' w' h1 R1 _
                cases e with
                | goto l' => exact h1.elim
                | _ => exact hK _ _ _ _ _ h1 R1
              refine (wpIn_wide (n := n)).2 (wp_scope_n l J hf ?_ fun m a' w' hj => wp_seq (wp_skip (pass m a' w' hj)))
              refine wp_seq ((wpIn_wide (n := n)).1 (vc_sound hE hP x X none n hX hn hnm hY (fun h => by cases h) s ρ a w _ (Exit.then _ (Exit.jump l (fun a w => ∃ n, J n a w) Q)) (fun c a w => hQ c a w) R h5 fun e ρ1 s1 a1 w1 h1 R1 => ?_))
              cases e with
              | normal =>
                refine wp_seq ((wpIn_wide (n := n)).1 (vc_sound hE hP y X none n hX hn hnm hY (fun h => by cases h) s1 ρ1 a1 w1 _ (Exit.then _ (Exit.jump l (fun a w => ∃ n, J n a w) Q)) (fun c a w => hQ c a w) R1 h1 fun e ρ2 s2 a2 w2 h2 R2 => ?_))
                cases e with
                | normal =>
                  refine wp_seq ((wpIn_wide (n := n)).1 (vc_sound hE hP z X none n hX hn hnm hY (fun h => by cases h) s2 ρ2 a2 w2 _ (Exit.then _ (Exit.jump l (fun a w => ∃ n, J n a w) Q)) (fun c a w => hQ c a w) R2 h2 fun e ρ3 s3 a3 w3 h3 R3 => ?_))
                  cases e with
                  | normal =>
                    refine wp_seq (wp_label ?_)
                    have h3 : jumpI E l (fun s K => vc E r s K) s3 K := h3
                    obtain ⟨I, μ, M, k0, k1⟩ := jumpI_out h3
                    obtain ⟨s4, q1, R4⟩ := mask_sound hE'.t R3 k0
                    have hj : J (μ s4) a3 w3 := by rw [hJ]; exact ⟨I, μ, M, s4, ρ3, k1, q1, rfl, R4⟩
                    refine wp_mono (pass _ a3 w3 hj) fun e a4 w4 hq => ?_
                    cases e with
                    | goto l' => exact ⟨hq.1, hq.2.imp fun _ h => h.2⟩
                    | _ => exact hq
                  | _ => exact nj (fun a w => ∃ n, J n a w) _ _ _ _ _ h3 R3 (by simp)
                | _ => exact nj (fun a w => ∃ n, J n a w) _ _ _ _ _ h2 R2 (by simp)
              | _ => exact nj (fun a w => ∃ n, J n a w) _ _ _ _ _ h1 R1 (by simp)
            | _ => exact h.elim
          | _ => exact h.elim
        | _ => exact h.elim
    | _ => exact h.elim
  | .rangeFunc g ps asg body, X, ro, n, hX, hn, hnm, hY, hro, s, ρ, a, w, K, Q, hQ, R, h, hK => by
    obtain rfl : ro = none := by
      cases ro with
      | none => rfl
      | some l => have := hro rfl; simp [roundOk] at this
    have hE' : EnvC E X.P := by rw [hX]; exact hE
    obtain ⟨fr, hp, ks⟩ := s
    have h : (match opn fr g, E.yl with
      | .fn (.func gf) [] cs, none => (match lkI E.its gf with
        | some I => cond (okVs cs && roundOk asg && roundOk body) (∀ l : Nat, forceN E.off fun o => forceN ((o + 999) * 1024) fun o => I l (bodyY E ps.toList fr (fun s K => vc E asg s K) (fun s K => vc E body s K)) o hp (.fn (.yield l) [] [] :: cs) fun hp' ks' _ => afterY fr ks K hp' ks') False
        | none => False)
      | _, _ => False) := h
    split at h
    · rename_i gf cs hg hyl
      split at h
      · rename_i I hI
        obtain ⟨h1, h⟩ := cond_elim h
        simp only [forceN_eq] at h
        rw [Bool.and_eq_true, Bool.and_eq_true] at h1
        obtain ⟨⟨hok, hra⟩, hrb⟩ := h1
        obtain ⟨hent, hcon⟩ := hE.its gf I hI
        have hgv := VR_opn R g
        rw [show (⟨fr, hp, ks⟩ : St).fr = fr from rfl, hg] at hgv
        obtain ⟨fs', cs', eg, hfs, hcs⟩ := VR_fn hgv
        obtain rfl : fs' = #[] := by
          have : fs'.toList = [] := hfs
          simpa using this
        have hnm' : X.nm = false := by rw [hnm rfl, hyl]; rfl
        refine wpIn_rangeFunc ?_
        intro fn hfn
        obtain ⟨rec, hrec⟩ : ∃ rec : LoopState → Option Code → Loop, rec = fun st pe => { state := st, pending := pe, fn, tmps := a.tmps, params := ps, assign := asg, body, defers := w.heap.size } := ⟨_, rfl⟩
        obtain ⟨W1, hW1⟩ : ∃ W1, (w.alloc (.deferred (some []))).alloc (.loop (rec .ready none)) = W1 := ⟨_, rfl⟩
        have hL1 : W1.heap[w.heap.size + 1]? = some (.loop (rec .ready none)) := by
          rw [← hW1]; have := World.alloc_heap_new (w.alloc (.deferred (some []))) (.loop (rec .ready none)); rwa [World.size_alloc] at this
        have hK1 : W1.heap[w.heap.size]? = some (.deferred (some [])) := by
          rw [← hW1]; exact (Below.heap_alloc _ _ _ (by simp)).trans (World.alloc_heap_new w _)
        have hB1 : Below w.heap.size w W1 := by
          rw [← hW1]; exact ((Below.refl _ w).alloc (Nat.le_refl _) _).alloc (by simp) _
        have R1 := (R.world hB1).2
        refine ⟨w.heap.size + 1, [{ target := .collected w.heap.size, args := #[] }], W1, { target := .fn (.func gf) cs', args := #[.func (.yield (w.heap.size + 1)) #[] #[]] }, W1, gf,
          #[.func (.yield (w.heap.size + 1)) #[] #[]] ++ cs', W1, ?_, ?_, fun _ _ => trivial, ?_, fun h => (by cases h), ?_⟩
        · rw [← hW1, hrec]; exact run_enterLoop_outer _ _ _ _ _
        · simp only [resolve, eg]
          simp [go_sem]
        · simp [invoke, go_sem, hent]
        · -- what is kept of the record, and of what lay when the loop began
          obtain ⟨rest, hrest⟩ : ∃ rest : World → Prop, rest = fun w' => w'.heap[w.heap.size]? = some (.deferred (some [])) ∧ (∀ k, ks = some k → X.sp k.2 w') ∧ DefOk X.nm (max X.base X.lim) a.defers w' := ⟨_, rfl⟩
          have hlimX : X.lim ≤ w.heap.size := R.lim
          have rest_keep : ∀ w1 w2 : World, KeepsB (w.heap.size + 1) w1 w2 → w1.heap.size ≤ w2.heap.size → rest w1 → rest w2 := by
            intro w1 w2 hk hz hr
            rw [hrest] at hr ⊢
            exact ⟨hk _ _ (Nat.lt_succ_self _) hr.1 (fun _ _ _ h => by cases h), fun k e => X.spk _ _ _ (hk.mono (by omega)) hz (hr.2.1 k e), hr.2.2.keepB R.defers.1 (hk.mono (by omega))⟩
          have hrest1 : rest W1 := by
            rw [hrest]
            exact ⟨hK1, fun k e => R1.sp k e, R1.defers⟩
          obtain ⟨SP, hSP⟩ : ∃ SP : Nat → World → Prop, SP = fun p w' => w'.heap[w.heap.size + 1]? = some (.loop (rec (if (jmp p).isNone then .ready else .done) (jmp p))) ∧ rest w' := ⟨_, rfl⟩
          have SP_keep : ∀ p w1 w2, KeepsB (w.heap.size + 2) w1 w2 → w1.heap.size ≤ w2.heap.size → SP p w1 → SP p w2 := by
            intro p w1 w2 hk hz h
            rw [hSP] at h ⊢
            exact ⟨hk _ _ (by omega) h.1 (fun _ _ _ h => by cases h), rest_keep _ _ (hk.mono (by omega)) hz h.2⟩
          obtain ⟨Xi, hXi⟩ : ∃ Xi : Fix, Xi = { X with stk := stkOf X ⟨fr, hp, ks⟩, stv := stvOf X a, nm := true, lim := w.heap.size + 2, sp := SP, spk := SP_keep } := ⟨_, rfl⟩
          have hsz1 : w.heap.size + 2 ≤ W1.heap.size := by have := (Array.getElem?_eq_some_iff.1 hL1).1; omega
          have Ri : RR Xi ρ ⟨[], hp, some ([], 0)⟩ { a with defers := [] } W1 := by
            subst hXi
            refine ⟨R1.size, ⟨Marks.nil _ _, fun _ => rfl⟩, R1.ok0, R1.below, R1.heap, R1.inj, fun d => trivial, fun k hk i => ?_, fun k hk => ?_, hsz1⟩
            · cases hk
              show VR (cx X ρ hp W1) (stkOf X ⟨fr, hp, ks⟩ i) (stvOf X a i)
              unfold stkOf stvOf
              by_cases hi : i % 2 = 0
              · rw [if_pos hi, if_pos hi]; exact R1.fr _
              · rw [if_neg hi, if_neg hi]
                cases hk : ks with
                | none => trivial
                | some k => exact R1.stk k hk _
            · cases hk
              show SP 0 W1
              rw [hSP]
              exact ⟨hL1, hrest1⟩
          have hPi : Xi.P = P := by rw [hXi]; exact hX
          -- a round
          have hYi : YOk Xi (w.heap.size + 1) (bodyY E ps.toList fr (fun s K => vc E asg s K) (fun s K => vc E body s K)) := by
            intro S off X1 ρ1 hp1 w1 as xs a0 K1 e1 e2 e3 e4 e5 RX hoka hargs hb
            obtain ⟨hb1, hb⟩ := cond_elim hb
            rw [Bool.and_eq_true] at hb1
            obtain ⟨hlen, hlt⟩ := hb1
            have hlen := Nat.eq_of_beq_eq_true hlen
            rw [forceF_eq] at hb
            have hs1 : SP 0 w1 := by have := RX.sp _ rfl; rw [e4, hXi] at this; exact this
            have hs1' := hs1
            rw [hSP] at hs1'
            obtain ⟨hl1, hr1⟩ := hs1'
            have hl1 : w1.heap[w.heap.size + 1]? = some (.loop (rec .ready none)) := hl1
            have hxs : xs.size = ps.size := by
              have : ∀ (as : List AV) (xs : List Value), CVs (cx X1 ρ1 hp1 w1) as xs → xs.length = as.length := by
                intro as
                induction as with
                | nil => intro xs h; have h : xs = [] := h; subst h; rfl
                | cons v l ih => intro xs h; obtain ⟨x, ys, rfl, _, _, g3⟩ := h; simp [ih ys g3]
              have := this _ _ hargs
              simp at this hlen ⊢
              omega
            have hy := run_yield (P := P) (args := xs) hl1 (by rw [hrec]; exact hxs)
            rw [hrec] at hy
            rw [hPi]
            have hbase1 : X1.base = X.base := by unfold Fix.base; rw [e3, hXi]
            refine ⟨fn, _, asg, body, hy, roundIn_of_wpIn (F := Fence.wide) trivial ?_⟩
            -- the frame of the round
            obtain ⟨Xr, hXr⟩ : ∃ Xr : Fix, Xr = { X1 with nt := X.nt, nm := true } := ⟨_, rfl⟩
            obtain ⟨tm, htm⟩ : ∃ tm, tm = (ps.toList.zip xs.toList).foldl (fun t (p, v) => t.setIfInBounds p v) a.tmps := ⟨_, rfl⟩
            have htm' : (ps.zip xs).foldl (fun tmps (t, a) => tmps.setIfInBounds t a) a.tmps = tm := by
              rw [htm, ← Array.foldl_toList, Array.toList_zip]
            have Rr : RR Xr ρ1 ⟨setPs ps.toList as (killAllF S fr), hp1, some ([], 0)⟩ { tmps := tm, defers := [] } w1 := by
              subst hXr
              refine ⟨by rw [htm, fold_size]; exact R.size, ⟨Marks.nil _ _, fun _ => rfl⟩, RX.ok0, RX.below, RX.heap, RX.inj, fun d => ?_, RX.stk, RX.sp, RX.lim⟩
              rw [htm]
              refine setPs_fr ps.toList as xs.toList (killAllF S fr) a.tmps hargs hoka hlen (by rw [R.size, ← hn]; exact hlt) (fun i => ?_) d
              obtain ⟨j, j1, j2⟩ := e5 (2 * i)
              have := RX.stk _ rfl j
              rw [show ((([], 0) : Ks)).1 = [] from rfl] at this
              have this : VR (cx X1 ρ1 hp1 w1) (X1.stk j) (X1.stv j) := this
              rw [j1, j2, hXi] at this
              rw [lk_killAllF]
              have e1 : stkOf X ⟨fr, hp, ks⟩ (2 * i) = lk fr i := by
                unfold stkOf
                rw [if_pos (by omega)]
                show lk fr (2 * i / 2) = _
                congr 1; omega
              have e2 : stvOf X a (2 * i) = a.tmps.getD i undef := by
                unfold stvOf
                rw [if_pos (by omega)]; congr 1; omega
              have this : VR (cx X1 ρ1 hp1 w1) (killAll S (stkOf X ⟨fr, hp, ks⟩ (2 * i))) (stvOf X a (2 * i)) := this
              rw [e1, e2] at this
              exact this
            rw [htm']
            have hXrP : Xr.P = P := by rw [hXr]; exact e1.trans hPi
            refine vc_sound hE hP asg Xr (some (w.heap.size + 1)) 0 hXrP (by rw [hXr]; exact hn) (fun h => by cases h) (fun l Y e => by rw [hyl] at e; cases e) (fun _ => hra) _ ρ1 _ w1 _ _ (fun c a w h => h) Rr hb fun e ρ2 s1 a1 w2 hk1 R2 => ?_
            cases e with
            | normal =>
              obtain ⟨fr1, hp2, ks1⟩ := s1
              cases ks1 with
              | none => exact hk1.elim
              | some ks1 =>
                obtain ⟨k1, p1⟩ := ks1
                cases p1 with
                | succ p1 => exact hk1.elim
                | zero =>
                  have hs2 : SP 0 w2 := by have := R2.sp _ rfl; rw [hXr] at this; rw [show ({ X1 with nt := X.nt, nm := true } : Fix).sp = X1.sp from rfl, e4, hXi] at this; exact this
                  rw [hSP] at hs2
                  obtain ⟨hl2, hr2⟩ := hs2
                  have hl2 : w2.heap[w.heap.size + 1]? = some (.loop (rec .ready none)) := hl2
                  refine ⟨_, run_beginRound hl2 (by rw [hrec]), ?_⟩
                  obtain ⟨bz, hbz⟩ : ∃ bz : Loop, bz = { rec .ready none with state := .busy } := ⟨_, rfl⟩
                  rw [← hbz]
                  obtain ⟨SB, hSB⟩ : ∃ SB : Nat → World → Prop, SB = fun _ w' => w'.heap[w.heap.size + 1]? = some (.loop bz) ∧ rest w' := ⟨_, rfl⟩
                  have SB_keep : ∀ p w1 w2, KeepsB (max X1.lim (w.heap.size + 2)) w1 w2 → w1.heap.size ≤ w2.heap.size → SB p w1 → SB p w2 := by
                    intro p w1 w2 hk hz h
                    rw [hSB] at h ⊢
                    have hk := hk.mono (m := w.heap.size + 2) (by omega)
                    exact ⟨hk _ _ (by omega) h.1 (fun _ _ _ h => by cases h), rest_keep _ _ (hk.mono (by omega)) hz h.2⟩
                  obtain ⟨Xb, hXb⟩ : ∃ Xb : Fix, Xb = { Xr with lim := max X1.lim (w.heap.size + 2), sp := SB, spk := SB_keep } := ⟨_, rfl⟩
                  have hlt2 : w.heap.size + 1 < w2.heap.size := (Array.getElem?_eq_some_iff.1 hl2).1
                  have hxb : X.base ≤ w.heap.size + 1 := Nat.le_trans R.base_le (Nat.le_succ _)
                  have hrbase : Xr.base = X.base := by rw [hXr]; exact hbase1
                  have Rb : RR Xb ρ2 ⟨fr1, hp2, some (k1, 0)⟩ { tmps := a1.tmps, defers := [] } (w2.putObj (w.heap.size + 1) (.loop bz)) := by
                    subst hXb
                    refine RR.obj R2 hl2 (fun _ _ _ h => by cases h) (fun _ _ _ h => by cases h) (by rw [hrbase]; exact hxb) rfl rfl rfl rfl rfl rfl ⟨Marks.nil _ _, fun _ => rfl⟩ (fun k hk => ?_) (by have := R2.lim; rw [hXr] at this; have this : X1.lim ≤ w2.heap.size := this; show max X1.lim (w.heap.size + 2) ≤ _; omega)
                    show SB _ _
                    rw [hSB]
                    exact ⟨World.putObj_heap_same hlt2, rest_keep _ _ (KeepsB.obj (Nat.le_refl _)) (by rw [putObj_size]; exact Nat.le_refl _) hr2⟩
                  have hd1 : a1.defers = [] := R2.defers.2 (by rw [hXr])
                  have ha1 : a1 = { tmps := a1.tmps, defers := [] } := by obtain ⟨t, d⟩ := a1; cases hd1; rfl
                  rw [ha1]
                  refine vc_sound hE hP body Xb (some (w.heap.size + 1)) 0 (by rw [hXb]; exact hXrP) (by rw [hXb, hXr]; exact hn) (fun h => by cases h) (fun l Y e => by rw [hyl] at e; cases e) (fun _ => hrb) _ ρ2 _ _ _ _ (fun c a w h => h) Rb hk1 fun e ρ3 s2 a3 w4 hk2 R3 => ?_
                  obtain ⟨fr2, hp3, ks2⟩ := s2
                  cases ks2 with
                  | none => cases e <;> exact hk2.elim
                  | some ks2 =>
                    obtain ⟨k2, p2⟩ := ks2
                    cases p2 with
                    | succ p2 => cases e <;> exact hk2.elim
                    | zero =>
                      have hs4 : SB 0 w4 := by have := R3.sp _ rfl; rw [hXb] at this; exact this
                      rw [hSB] at hs4
                      obtain ⟨hl4, hr4⟩ := hs4
                      have fin : ∀ (p : Nat), K1 hp3 (some (k2, p)) (.bool (jmp p).isNone) → ∃ v w', (Instr.endRound (w.heap.size + 1) (jmp p)).run P w4 = .ok v w' ∧ ∃ z, Ending.returned v = .returned z ∧ ∃ ρ' hp' ks r a1, K1 hp' (some ks) r ∧ RR X1 ρ' ⟨[], hp', some ks⟩ a1 w' ∧ VR (cx X1 ρ' hp' w') r z := by
                        intro p hKp
                        have hrun := run_endRound (P := P) (jmp p) hl4
                        have he : ({ bz with state := if (jmp p).isNone then .ready else .done, pending := jmp p } : Loop) = rec (if (jmp p).isNone then .ready else .done) (jmp p) := by rw [hbz, hrec]
                        rw [he] at hrun
                        refine ⟨_, _, hrun, _, rfl, ρ3, hp3, (k2, p), _, { a0 with defers := [] }, hKp, ?_, mkVR_bool _⟩
                        have hlt4 : w.heap.size + 1 < w4.heap.size := (Array.getElem?_eq_some_iff.1 hl4).1
                        have Rz := RR.obj (X' := { X1 with nt := X.nt, nm := true, sp := fun _ _ => True, spk := fun _ _ _ _ _ _ => trivial }) (a' := { tmps := a3.tmps, defers := [] }) R3 hl4 (fun _ _ _ h => by cases h) (o' := .loop (rec (if (jmp p).isNone then .ready else .done) (jmp p))) (fun _ _ _ h => by cases h) (by rw [hXb]; show Xr.base ≤ _; rw [hrbase]; exact hxb) (by rw [hXb, hXr]) (by rw [hXb, hXr]) (by rw [hXb, hXr]) (by rw [hXb, hXr]) (by rw [hXb, hXr]) rfl ⟨Marks.nil _ _, fun _ => rfl⟩ (fun k hk => trivial) (by
                          have := R3.lim
                          rw [hXb] at this
                          have this : max X1.lim (w.heap.size + 2) ≤ w4.heap.size := this
                          show X1.lim ≤ _
                          omega)
                        refine ⟨RX.size, ⟨Marks.nil _ _, fun _ => rfl⟩, Rz.ok0, Rz.below, Rz.heap, Rz.inj, fun d => trivial, fun k hk i => ?_, fun k hk => ?_, Rz.lim⟩
                        · cases hk
                          exact Rz.stk (k2, 0) rfl i
                        · cases hk
                          show X1.sp p _
                          rw [e4, hXi]
                          show SP p _
                          rw [hSP]
                          exact ⟨World.putObj_heap_same hlt4, rest_keep _ _ (KeepsB.obj (Nat.le_refl _)) (by rw [putObj_size]; exact Nat.le_refl _) hr4⟩
                      cases e with
                      | normal => exact fin 0 hk2
                      | ret => exact fin 1 hk2
                      | exit i => exact fin (i + 2) hk2
                      | goto l => exact hk2.elim
                      | panic ch => exact hk2.elim
                      | outgrown => exact hk2.elim
            | _ => exact hk1.elim
          refine (callsIn_wide (n := n - 1)).2 (calls_mono (hcon (w.heap.size + 1) _ _ Xi ρ hp W1 (.fn (.yield (w.heap.size + 1)) [] [] :: cs) _ { a with defers := [] } _ hPi hYi Ri (by simp only [okVs, hok, Bool.and_true]) ?_ (h (w.heap.size + 1))) ?_)
          · rw [Array.toList_append]
            exact ⟨_, _, rfl, ⟨#[], #[], rfl, rfl, rfl⟩, rfl, by subst hXi; exact CVs_ext (R.world hB1).1 cs _ (Frees_no cs) hcs⟩
          · rintro e w3 ⟨z, rfl, ρ', hp', ⟨S, p⟩, r, a1, hA, R2, _⟩
            have hs3 : SP p w3 := by have := R2.sp _ rfl; rw [hXi] at this; exact this
            rw [hSP] at hs3
            obtain ⟨hl3, hr3⟩ := hs3
            have hend := run_endLoop (P := P) hl3 (by rw [hrec]; cases (jmp p).isNone <;> simp)
            obtain ⟨xh, hxh⟩ : ∃ xh : Loop, xh = { rec (if (jmp p).isNone then .ready else .done) (jmp p) with state := .exhausted } := ⟨_, rfl⟩
            have hend : (Instr.endLoop (w.heap.size + 1)).run P w3 = .ok (rec (if (jmp p).isNone then .ready else .done) (jmp p)).pending (w3.putObj (w.heap.size + 1) (.loop xh)) := by rw [hxh]; exact hend
            rw [show (rec (if (jmp p).isNone then .ready else .done) (jmp p)).pending = jmp p by rw [hrec]] at hend
            have hlt3 : w.heap.size + 1 < w3.heap.size := (Array.getElem?_eq_some_iff.1 hl3).1
            have hxb : X.base ≤ w.heap.size + 1 := Nat.le_trans R.base_le (Nat.le_succ _)
            have hr4 : rest (w3.putObj (w.heap.size + 1) (.loop xh)) := rest_keep _ _ (KeepsB.obj (Nat.le_refl _)) (by rw [putObj_size]; exact Nat.le_refl _) hr3
            have R4 := RR.obj (X' := { Xi with nm := true, lim := 0, sp := fun _ _ => True, spk := fun _ _ _ _ _ _ => trivial }) (a' := { tmps := a1.tmps, defers := [] }) R2 hl3 (fun _ _ _ h => by cases h) (o' := .loop xh) (fun _ _ _ h => by cases h) (by rw [hXi]; exact hxb) rfl rfl rfl rfl rfl rfl ⟨Marks.nil _ _, fun _ => rfl⟩ (fun k hk => trivial) (Nat.zero_le _)
            rw [hrest] at hr4
            obtain ⟨m1, m2, m3⟩ := hr4
            have hmk : DefOk X.nm (max X.base X.lim) (mark w.heap.size :: a.defers) (w3.putObj (w.heap.size + 1) (.loop xh)) := by
              refine ⟨?_, fun h => by rw [hnm'] at h; cases h⟩
              obtain ⟨l0, q0, _, q3⟩ := R.defers.1
              obtain ⟨l1, p1, p2, p3⟩ := m3.1
              obtain rfl : l0 = l1 := mark_inj (q0.symm.trans p1)
              refine ⟨w.heap.size :: l0, by rw [p1]; rfl, List.nodup_cons.2 ⟨fun hm => ?_, p2⟩, fun D hD => ?_⟩
              · have := (Array.getElem?_eq_some_iff.1 (q3 _ hm).2).1; omega
              · rcases List.mem_cons.1 hD with rfl | hD
                · exact ⟨Nat.max_le.2 ⟨R.base_le, hlimX⟩, m1⟩
                · exact p3 D hD
            have Rf := back_up (X := X) (s := ⟨fr, hp, ks⟩) (a := a) (a' := { a with defers := mark w.heap.size :: a.defers }) (by rw [hXi]) (by rw [hXi]) (by rw [hXi]) (by rw [hXi]) R R4 rfl m2 hmk (by rw [putObj_size]; omega)
            refine ⟨jmp p, _, hend, ?_⟩
            unfold afterY at hA
            simp only [forceF_eq] at hA
            rw [appK_p S p 0 ks] at Rf
            cases p with
            | zero => exact hK _ _ _ _ _ hA Rf
            | succ p => cases p with
              | zero => exact wpIn_ret (hK _ _ _ _ _ hA Rf)
              | succ i => exact wpIn_exit (hK _ _ _ _ _ hA Rf)
      · exact h.elim
    · exact h.elim
  | .refuse _, X, ro, n, hX, hn, hnm, hY, hro, s, ρ, a, w, K, Q, hQ, R, h, hK => h.elim
end
end Go.Proofs.YtejedlpnejjnbaaV
