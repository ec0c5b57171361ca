/- Regions that draw, code, functions. -/
import Derived.Test.YtbkccpddkpclaaaVcS
import Derived.Test.YtbkccpddkpclaaaVcZ
set_option linter.unusedVariables false
set_option linter.unusedSimpArgs false
namespace Go.Proofs.YtbkccpddkpclaaaV
open Go.RowKit

/-- What the program is to be, besides. -/
structure PrOk (P : Program) : Prop where
  mixed : P.follows .mixedOrders = true
  eq : ∀ X : Fix, X.P = P → ∀ c, EqLaw X c

section
variable {E : Env} {X : Fix} {ρ : Nat → Nat} {s : St} {a : Act} {w w' : World} {o : Oper} {K : St → Prop} {Q : Exit → Act → World → Prop}

/-! ### Draws -/
theorem d_step {md : Md} {f : Bool} (hE : EnvC E X.P) (hq : ∀ c, EqLaw X c) (hn : E.nt = X.nt) (hp : calls o.op = false) (hw : newO o = false) (R : RR X ρ s a w) (h : vcD E md f false o s K) :
    ∃ z v, Up X.P a o z w ∧ K (s.put o.dst v) ∧ RR X ρ (s.put o.dst v) (a.put o.dst z) w ∧ rdOk md f s.fr o.op = true := by
  obtain ⟨dst, op, ty, pos, after, guard⟩ := o
  obtain ⟨fr, hp', ks⟩ := s
  have h : cond (false || newO ⟨dst, op, ty, pos, after, guard⟩) (cond md.b False (vcOp E dst op fr hp' ks K)) (cond (rdOk md f fr op) (pvP E dst op fr hp' ks K) False) := h
  rw [hw] at h
  have h : cond (rdOk md f fr op) (pvP E dst op fr hp' ks K) False := h
  obtain ⟨hr, h⟩ := cond_elim h
  obtain ⟨v, z, h1, h2, h3⟩ := ex_pv (o := ⟨dst, op, ty, pos, after, guard⟩) hE.t (hq _) R rfl hp h
  obtain ⟨k1, k2⟩ := putF_next2 hn h1 R h3
  exact ⟨z, v, h2, k1, k2, hr⟩

theorem calls_of_pure (hp : pureO o = true) : calls o.op = false := by
  obtain ⟨dst, op, ty, pos, after, guard⟩ := o
  cases op with
  | call c =>
    simp only [pureO, cls] at hp
    simp only [calls]
    cases hcc : c.callee with
    | value f => rw [hcc] at hp; simp at hp
    | _ => rfl
  | _ => rfl

theorem new_pure (hp : pureO o = true) : newO o = false := by
  unfold pureO at hp
  unfold newO
  split at hp
  · rename_i h; rw [h]; rfl
  · rename_i h; rw [h]; rfl
  · cases hp
theorem new_call (hp : callO o = true) : newO o = false := by
  unfold callO at hp
  unfold newO cls
  split at hp
  · rename_i c hc
    rw [hc]
    split at hp
    · rename_i f hf; simp only [hf]; rfl
    · cases hp
  · cases hp
theorem c_step (hE : EnvC E X.P) (hn : E.nt = X.nt) (hp : callO o = true) (R : RR X ρ s a w) (h : pvP E o.dst o.op s.fr s.hp s.ks K) {next : Act → World → Prop} (hK : ∀ v a' w', K (s.put o.dst v) → Below w.heap.size w w' → RR X ρ (s.put o.dst v) a' w' → next a' w') : o.wp X.P a w next Q := by
  obtain ⟨dst, op, ty, pos, after, guard⟩ := o
  obtain ⟨fr, hp', ks⟩ := s
  have h : pvP E dst op fr hp' ks K := h
  cases op with
  | call c =>
    cases hcc : c.callee with
    | value f =>
      refine ex_callC (o := ⟨dst, .call c, ty, pos, after, guard⟩) (s := ⟨fr, hp', ks⟩) hE R rfl hcc h fun v z w' hD hB R' hv => ?_
      obtain ⟨k1, k2⟩ := putF_next2 hn hD R' hv
      exact hK _ _ _ k1 hB k2
    | _ => simp only [callO, hcc] at hp; cases hp
  | _ => simp only [callO] at hp; cases hp

/-- What is known while a region is gone through. S: where it may write; b0: how much was there when it began. -/
structure Dr (md : Md) (S : Nat → Prop) (b0 : Nat) (f : Bool) (G : List Nat) (ρ : Nat → Nat) (hp : List (Nat × Blk)) (w : World) : Prop where
  off : md.b = false → ∀ b, ¬ S b
  sz : md.b = true → b0 ≤ w.heap.size
  first : md.b = true → f = true → w.heap.size = b0
  ids : md.b = true → ∀ id ∈ md.ids, S (ρ id) ∧ isVar (lkb hp id) = true ∧ memN md.F id = false
  old : md.b = true → ∀ id, live (lkb hp id) → id ∉ G → ρ id < b0
  new : md.b = true → ∀ id ∈ G, live (lkb hp id) → b0 ≤ ρ id
  gf : md.b = true → ∀ id ∈ G, memN md.F id = true
  inS : md.b = true → ∀ b, S b → b0 ≤ b ∨ ∃ id ∈ md.ids, ρ id = b
  up : md.b = true → ∀ b, b0 ≤ b → S b
section
variable {md : Md} {S : Nat → Prop} {b0 : Nat} {f : Bool} {G : List Nat}
theorem Dr.put {d : Option Nat} {v : AV} (h : Dr md S b0 f G ρ s.hp w) : Dr md S b0 f G ρ (s.put d v).hp w := by rw [put_hp]; exact h
theorem Dr.weak {g : Bool} (h : Dr md S b0 f G ρ s.hp w) : Dr md S b0 (f && g) G ρ s.hp w := by
  refine ⟨h.off, h.sz, fun hb hf => h.first hb ?_, h.ids, h.old, h.new, h.gf, h.inS, h.up⟩
  rw [Bool.and_eq_true] at hf; exact hf.1
theorem Dr.grow (h : Dr md S b0 f G ρ s.hp w) (hz : w.heap.size ≤ w'.heap.size) : Dr md S b0 false G ρ s.hp w' :=
  ⟨h.off, fun hb => Nat.le_trans (h.sz hb) hz, fun _ hf => (by cases hf), h.ids, h.old, h.new, h.gf, h.inS, h.up⟩
/-- Where nothing is written in whatever order. -/
theorem Dr.plain {f' : Bool} {G' : List Nat} {ρ' : Nat → Nat} {hp hp' : List (Nat × Blk)} (h : Dr md S b0 f G ρ hp w) (hb : md.b = false) : Dr md S b0 f' G' ρ' hp' w' := by
  have no : ∀ {A : Prop}, md.b = true → A := fun h => by rw [hb] at h; cases h
  exact ⟨h.off, fun h => no h, fun h => no h, fun h => no h, fun h => no h, fun h => no h, fun h => no h, fun h => no h, fun h => no h⟩
theorem isVar_live {b : Blk} (h : isVar b = true) : liveW b := by
  unfold isVar at h
  split at h
  · trivial
  · cases h
/-- What it reads is none of them. -/
theorem rd_not {z : Value} (R : RR X ρ s a w) (hI : Dr md S b0 f G ρ s.hp w) (hr : rdOk md f s.fr o.op = true) (hpv : ∃ C : AV → Prop, pv E s.hp (opn s.fr) o.op C) : ∀ b, loadB a o.op = some b → ¬ S b := by
  intro b hb hS
  cases hmd : md.b with
  | false => exact hI.off hmd b hS
  | true =>
    cases hop : o.op with
    | load t x =>
      rw [hop] at hb hr hpv
      obtain ⟨C, hpv⟩ := hpv
      simp only [pv] at hpv
      have hx := VR_opn R x
      simp only [rdOk, hmd, Bool.not_true, Bool.false_or] at hr
      generalize opn s.fr x = va at hpv hx hr
      split at hpv
      · rename_i id p
        split at hpv
        · rename_i u hg
          obtain ⟨off, t', k1, k2⟩ := VR_ptr hx
          simp only [loadB, k2, Option.some.injEq] at hb
          have hb : ρ id = b := hb
          have hlive : live (lkb s.hp id) := by
            cases hk : lkb s.hp id with
            | none => rw [hk] at hg; simp [getB] at hg
            | var e v f => trivial
            | row te e xs f =>
              intro h0
              rw [show (cx X ρ s.hp w).hp = s.hp from rfl, hk] at k1
              subst h0
              cases p with
              | nil => simp [pathB] at k1
              | cons st p => cases st with
                | fld i => simp [pathB] at k1
                | «at» i =>
                  simp only [pathB] at k1
                  split at k1
                  · rename_i hr; simp at hr; omega
                  · cases k1
          simp only [Bool.and_eq_true, Bool.not_eq_true'] at hr
          have hlt := hI.old hmd id hlive (fun hG => by rw [hI.gf hmd id hG] at hr; cases hr.2)
          rcases hI.inS hmd b hS with h1 | ⟨id', m1, m2⟩
          · omega
          · have hv' := isVar_live (hI.ids hmd id' m1).2.1
            have hne := R.inj id id' hlive (liveW_live hv') (by rw [hb, m2])
            subst hne
            rw [memN_iff.2 m1] at hr
            cases hr.1
        · exact hpv.elim
      · rename_i e y
        obtain ⟨b', off, k2, k4, _⟩ := VR_rop hx
        simp only [loadB, k2, Option.some.injEq] at hb
        have hb : b' = b := hb
        subst hb
        have hr : f = true := hr
        have hz := hI.first hmd hr
        rcases hI.inS hmd _ hS with h1 | ⟨id', m1, m2⟩
        · have := k4.2.1
          have : b' < w.heap.size := this
          omega
        · exact k4.2.2 id' (isVar_live (hI.ids hmd id' m1).2.1) m2
      · exact hpv.elim
    | _ => rw [hop] at hb; simp [loadB] at hb

theorem vcD_true {K : St → Prop} (h : vcD E md f true o s K) : md.b = false ∧ vc1 E o s K := by
  obtain ⟨dst, op, ty, pos, after, guard⟩ := o
  obtain ⟨fr, hp', ks⟩ := s
  have h : cond md.b False (vcOp E dst op fr hp' ks K) := h
  cases hb : md.b with
  | true => rw [hb] at h; exact h.elim
  | false => rw [hb] at h; exact ⟨rfl, h⟩
theorem vcD_new {K : St → Prop} (hw : newO o = true) (h : vcD E md f false o s K) : md.b = false ∧ vc1 E o s K := by
  obtain ⟨dst, op, ty, pos, after, guard⟩ := o
  obtain ⟨fr, hp', ks⟩ := s
  have h : cond (false || newO ⟨dst, op, ty, pos, after, guard⟩) (cond md.b False (vcOp E dst op fr hp' ks K)) (cond (rdOk md f fr op) (pvP E dst op fr hp' ks K) False) := h
  rw [hw] at h
  have h : cond md.b False (vcOp E dst op fr hp' ks K) := h
  cases hb : md.b with
  | true => rw [hb] at h; exact h.elim
  | false => rw [hb] at h; exact ⟨rfl, h⟩
theorem vcD_pv {K : St → Prop} (hw : newO o = false) (h : vcD E md f false o s K) : pvP E o.dst o.op s.fr s.hp s.ks K := by
  obtain ⟨dst, op, ty, pos, after, guard⟩ := o
  obtain ⟨fr, hp', ks⟩ := s
  have h : cond (false || newO ⟨dst, op, ty, pos, after, guard⟩) (cond md.b False (vcOp E dst op fr hp' ks K)) (cond (rdOk md f fr op) (pvP E dst op fr hp' ks K) False) := h
  rw [hw] at h
  have h : cond (rdOk md f fr op) (pvP E dst op fr hp' ks K) False := h
  exact (cond_elim h).2
theorem conj2_out {l : Alts} {A B : Prop} (h : conj2 l A B) : A ∧ (l = .nil ∨ B) := by
  cases l with
  | nil => exact ⟨h, .inl rfl⟩
  | cons i r l =>
    obtain ⟨h1, h2⟩ := both_out h
    exact ⟨h1, .inr h2⟩
/-- One of those that come in whatever order. -/
theorem s_step {K : List Nat → St → Prop} (hE : EnvC E X.P) (hn : E.nt = X.nt) (R : RR X ρ s a w) (hI : Dr md S b0 f G ρ s.hp w) (h : vcS E md G o s K) {next : Act → World → Prop} (hK : ∀ G' ρ' s' a' w', K G' s' → Chg S w w' → RR X ρ' s' a' w' → Dr md S b0 false G' ρ' s'.hp w' → next a' w') : o.guard = none ∧ o.wp X.P a w next Q := by
  obtain ⟨dst, op, ty, pos, after, guard⟩ := o
  obtain ⟨fr, hp', ks⟩ := s
  cases guard with
  | some g => cases op <;> exact h.elim
  | none =>
    refine ⟨rfl, ?_⟩
    have mk : newO ⟨dst, op, ty, pos, after, none⟩ = true → md.b = false → vcOp E dst op fr hp' ks (K G) → (Oper.mk dst op ty pos after none).wp X.P a w next Q := fun hw hb h =>
      new_sound (s := ⟨fr, hp', ks⟩) hE hn hw R h fun ρ' s' a' w' k1 hB k2 => hK G _ _ _ _ k1 (.of_below hB) k2 (hI.plain hb)
    have other : cond (newO ⟨dst, op, ty, pos, after, none⟩) (cond md.b False (vcOp E dst op fr hp' ks (K G))) (cond (callO ⟨dst, op, ty, pos, after, none⟩) (pvP E dst op fr hp' ks (K G)) False) → (Oper.mk dst op ty pos after none).wp X.P a w next Q := by
      intro h
      cases hw : newO ⟨dst, op, ty, pos, after, none⟩ with
      | true =>
        rw [hw] at h
        have h : cond md.b False (vcOp E dst op fr hp' ks (K G)) := h
        cases hb : md.b with
        | true => rw [hb] at h; exact h.elim
        | false => rw [hb] at h; exact mk hw hb h
      | false =>
        rw [hw] at h
        have h : cond (callO ⟨dst, op, ty, pos, after, none⟩) (pvP E dst op fr hp' ks (K G)) False := h
        obtain ⟨hc, h⟩ := cond_elim h
        exact c_step (s := ⟨fr, hp', ks⟩) hE hn hc R h fun v a' w' k1 hB k2 => hK G _ _ _ _ k1 (.of_below hB) k2 (hI.grow hB.size).put
    cases op with
    | store t x y =>
      have h : (match opn fr x with
        | .ptr id _ => cond (md.b && (memN md.ids id || memN G id)) (wvP E dst (.store t x y) fr hp' ks (K G)) False
        | _ => False) := h
      split at h
      · rename_i id p hx
        obtain ⟨hm, h⟩ := cond_elim h
        rw [Bool.and_eq_true, Bool.or_eq_true] at hm
        obtain ⟨hb, hm⟩ := hm
        unfold wvP at h
        obtain ⟨s1, w1, h1, h2, h3, ⟨id2, p2, g1, g2, g3⟩, g4⟩ := ex_store (o := ⟨dst, .store t x y, ty, pos, after, none⟩) (s := ⟨fr, hp', ks⟩) hE.t R rfl h
        rw [show opn (⟨fr, hp', ks⟩ : St).fr x = .ptr id p from hx] at g1
        cases g1
        obtain ⟨k1, k2⟩ := putF_next2 (z := undef) (v := .dead) hn h1 h3 trivial
        have hlive : live (lkb hp' id) ∨ w1.heap = w1.heap := .inr rfl
        have hS : S (ρ id) := by
          rcases hm with hm | hm
          · exact (hI.ids hb id (memN_iff.1 hm)).1
          · refine hI.up hb _ (hI.new hb id (memN_iff.1 hm) ?_)
            have hxv := VR_opn R x
            rw [show opn (⟨fr, hp', ks⟩ : St).fr x = .ptr id p from hx] at hxv
            obtain ⟨off, t', q1, q2⟩ := VR_ptr hxv
            have q1 : pathB (lkb hp' id) p = some (off, t') := q1
            show live (lkb hp' id)
            cases hk : lkb hp' id with
            | none => rw [hk] at q1; simp [pathB] at q1
            | var e v f => trivial
            | row te e xs f =>
              intro h0
              rw [hk] at q1
              subst h0
              cases p with
              | nil => simp [pathB] at q1
              | cons st p => cases st with
                | fld i => simp [pathB] at q1
                | «at» i =>
                  simp only [pathB] at q1
                  split at q1
                  · rename_i hr; simp at hr; omega
                  · cases q1
        unfold Oper.wp
        rw [h2, Oper.upon_skip]
        refine hK G _ _ _ _ k1 ⟨by rw [g2]; exact Nat.le_refl _, fun b hbl hnS => g3 b (fun e => hnS (e ▸ hS))⟩ k2 ?_
        rw [put_hp]
        exact ⟨hI.off, fun hb => by rw [g2]; exact hI.sz hb, fun _ hf => (by cases hf), fun hb id hi => ⟨(hI.ids hb id hi).1, (g4 id).1 (hI.ids hb id hi).2.1, (hI.ids hb id hi).2.2⟩, fun hb id hl hG => hI.old hb id ((g4 id).2 hl) hG, fun hb id hG hl => hI.new hb id hG ((g4 id).2 hl), hI.gf, hI.inS, hI.up⟩
      · exact h.elim
    | alloc t =>
      cases dst with
      | none =>
        have h : cond md.b False (vcOp E none (.alloc t) fr hp' ks (K G)) := h
        cases hb : md.b with
        | true => rw [hb] at h; exact h.elim
        | false => rw [hb] at h; exact mk rfl hb h
      | some d =>
        have h : cond md.b (cond (memN md.F (E.off + d) && !memN md.ids (E.off + d)) (avP E (some d) (.alloc t) fr hp' ks (K ((E.off + d) :: G))) False) (vcOp E (some d) (.alloc t) fr hp' ks (K G)) := h
        cases hb : md.b with
        | false => rw [hb] at h; exact mk rfl hb h
        | true =>
          rw [hb] at h
          have h : cond (memN md.F (E.off + d) && !memN md.ids (E.off + d)) (avP E (some d) (.alloc t) fr hp' ks (K ((E.off + d) :: G))) False := h
          obtain ⟨hm, h⟩ := cond_elim h
          rw [Bool.and_eq_true, Bool.not_eq_true'] at hm
          obtain ⟨m1, m2⟩ := hm
          have h : av E ⟨fr, hp', ks⟩ (opn fr) (E.off + d) (.alloc t) fun s' v => putF E.nt (some d) s' v (K ((E.off + d) :: G)) := h
          obtain ⟨s1, v, z, w1, h1, h2, h3, h4, h5, h6⟩ := ex_alloc2 (o := ⟨some d, .alloc t, ty, pos, after, none⟩) (s := ⟨fr, hp', ks⟩) hE.t R rfl h
          obtain ⟨k1, k2⟩ := putF_next2 hn h1 h3 h4
          unfold Oper.wp
          rw [h2, Oper.upon_value]
          have ne : ∀ id ∈ md.ids, id ≠ E.off + d := fun id hi e => by rw [e] at hi; rw [memN_iff.2 hi] at m2; cases m2
          refine hK _ _ _ _ _ k1 (.of_below h5) k2 ?_
          rw [put_hp]
          refine ⟨hI.off, fun hb => Nat.le_trans (hI.sz hb) h5.size, fun _ hf => (by cases hf), fun hb id hi => ?_, fun hb id hl hG => ?_, fun hb id hG hl => ?_, fun hb id hG => ?_, fun hb b hS => ?_, hI.up⟩
          · have hne := ne id hi
            rw [upd_other hne, (h6 id hne).2]
            exact hI.ids hb id hi
          · have hne : id ≠ E.off + d := fun e => hG (by rw [e]; exact List.mem_cons_self)
            rw [upd_other hne]
            rw [(h6 id hne).1] at hl
            exact hI.old hb id hl (fun h => hG (List.mem_cons_of_mem _ h))
          · by_cases hne : id = E.off + d
            · rw [hne, upd_same]; exact hI.sz hb
            · rw [upd_other hne]
              rw [(h6 id hne).1] at hl
              rcases List.mem_cons.1 hG with e | hG
              · exact absurd e hne
              · exact hI.new hb id hG hl
          · rcases List.mem_cons.1 hG with e | hG
            · rw [e]; exact m1
            · exact hI.gf hb id hG
          · rcases hI.inS hb b hS with h | ⟨id, hi, e⟩
            · exact .inl h
            · exact .inr ⟨id, hi, by rw [upd_other (ne id hi)]; exact e⟩
    | _ => exact other h

mutual
theorem draw_sound (hE : EnvC E X.P) (hq : ∀ c, EqLaw X c) (hn : E.nt = X.nt) {all : List Oper} (hsel : Region.noSelect all.toArray = true) (hQ : ∀ c a w, ¬ Q (.panic c) a w) (hK : Hold X K (Q .normal)) : ∀ (ord : Ord) (n : Nat) (L : Array Bool) (f : Bool) (G : List Nat) (s : St) (ρ : Nat → Nat) (a : Act) (w : World), drawFrom all.toArray ord n L = true → Closed all.toArray L → RR X ρ s a w → Dr md S b0 f G ρ s.hp w → vcOrd E all md ord f G s K →
    wpAnyB X.P all.toArray S Q n L a w
  | .nil, n, L, f, G, s, ρ, a, w, hd, hc, R, hI, h => by
    have hd : (Nat.beq n 0 && (Region.ready .any all.toArray L).isEmpty) = true := hd
    rw [Bool.and_eq_true] at hd
    obtain rfl := Nat.eq_of_beq_eq_true hd.1
    exact ⟨List.isEmpty_iff.1 hd.2, hK _ _ _ _ h R⟩
  | .alt l, 0, L, f, G, s, ρ, a, w, hd, hc, R, hI, h => by cases hd
  | .alt l, n + 1, L, f, G, s, ρ, a, w, hd, hc, R, hI, h => by
    have hd : (decide (Region.ready .any all.toArray L = l.ids) && Nat.ble 1 l.ids.length && altsFrom all.toArray l n L) = true := hd
    rw [Bool.and_eq_true, Bool.and_eq_true] at hd
    obtain ⟨⟨h1, h2⟩, h3⟩ := hd
    have h1 := of_decide_eq_true h1
    have h2 := Nat.le_of_ble_eq_true h2
    refine ⟨fun h0 => (by rw [h1] at h0; rw [h0] at h2; simp at h2), fun j hj => ?_⟩
    exact alts_sound hE hq hn hsel hQ hK l n L f G s ρ a w h3 hc (fun i hi => by rw [h1]; exact hi) R hI h j (by rw [← h1]; exact hj)
  | .one m rest, 0, L, f, G, s, ρ, a, w, hd, hc, R, hI, h => by cases hd
  | .one m rest, n + 1, L, f, G, s, ρ, a, w, hd, hc, R, hI, h => by
    have h : (match all[idxO m]? with
      | none => False
      | some o => match o.guard with
        | none => vcD E md f (isBar m) o s fun s' => vcOrd E all md rest (f && pureO o) G s' K
        | some (g, want) => match guardSlot all g with
          | some c => match lk s.fr c with
            | .bool t => br t
              (putF E.nt (some c) s (.bool true) fun s => cond want (vcD E md f (isBar m) o s fun s' => vcOrd E all md rest (f && pureO o) G s' K) (putF E.nt o.dst s .und fun s' => vcOrd E all md rest (f && pureO o) G s' K))
              (putF E.nt (some c) s (.bool false) fun s => cond want (putF E.nt o.dst s .und fun s' => vcOrd E all md rest (f && pureO o) G s' K) (vcD E md f (isBar m) o s fun s' => vcOrd E all md rest (f && pureO o) G s' K))
            | .und => putF E.nt o.dst s .und fun s' => vcOrd E all md rest (f && pureO o) G s' K
            | _ => False
          | none => False) := h
    have hd : ((match all.toArray[idxO m]? with
      | some o => (Region.ready .any all.toArray L).contains (idxO m) && cond (isBar m) (decide (Region.ready .any all.toArray L = [idxO m]) && barO all.toArray L (idxO m)) (cond (pureO o) (Region.free .any all.toArray L (idxO m)) ((callO o || newO o) && decide (Region.ready .any all.toArray L = [idxO m])))
      | none => false) && drawFrom all.toArray rest n (L.setIfInBounds (idxO m) true)) = true := hd
    generalize idxO m = i at h hd
    generalize isBar m = b at h hd
    rw [Bool.and_eq_true] at hd
    obtain ⟨hd, hd2⟩ := hd
    split at h
    · exact h.elim
    · rename_i o hi
      have hi' : all.toArray[i]? = some o := by rw [List.getElem?_toArray]; exact hi
      rw [hi'] at hd
      simp only [Bool.and_eq_true] at hd
      obtain ⟨hr, hd⟩ := hd
      have hr' : i ∈ Region.ready .any all.toArray L := by simpa using hr
      -- what is left is done in the same way
      have go : ∀ (f' : Bool) (s' : St) (ρ' : Nat → Nat) (a' : Act) (w' : World), RR X ρ' s' a' w' → Dr md S b0 f' G ρ' s'.hp w' → vcOrd E all md rest f' G s' K → wpAnyB X.P all.toArray S Q n (L.setIfInBounds i true) a' w' :=
        fun f' s' ρ' a' w' R' hI' h' => draw_sound hE hq hn hsel hQ hK rest n _ f' G s' ρ' a' w' hd2 (hc.set hr') R' hI' h'
      -- alone
      have lone : Region.ready .any all.toArray L = [i] → wpOp X.P all.toArray Q i (fun a' w' => (Chg S w w' ∨ barO all.toArray L i = true) ∧ wpAnyB X.P all.toArray S Q n (L.setIfInBounds i true) a' w') a w → wpAnyB X.P all.toArray S Q (n + 1) L a w := by
        intro hrd hw
        refine ⟨fun h0 => (by rw [hrd] at h0; cases h0), fun j hj => ?_⟩
        rw [hrd] at hj
        obtain rfl : j = i := by simpa using hj
        exact hw
      have skip : Region.wanted o (yielded all.toArray a.tmps) = false → ∀ s1 : St, RR X ρ s1 a w → Dr md S b0 f G ρ s1.hp w → putF E.nt o.dst s1 .und (fun s' => vcOrd E all md rest (f && pureO o) G s' K) → wpAnyB X.P all.toArray S Q (n + 1) L a w := by
        intro hw s1 R1 hI1 h1
        obtain ⟨k1, k2⟩ := putF_next2 (z := undef) hn h1 R1 rfl
        have alone : Region.ready .any all.toArray L = [i] → wpAnyB X.P all.toArray S Q (n + 1) L a w := by
          intro hrd
          refine lone hrd ?_
          unfold wpOp
          rw [hi']
          simp only [hw, Bool.false_eq_true, if_false]
          exact ⟨.inl (Chg.refl _ _), go _ _ ρ _ w k2 hI1.put.weak k1⟩
        cases b with
        | true =>
          have hd : (decide (Region.ready .any all.toArray L = [i]) && barO all.toArray L i) = true := hd
          rw [Bool.and_eq_true] at hd
          exact alone (of_decide_eq_true hd.1)
        | false =>
          have hd : cond (pureO o) (Region.free .any all.toArray L i) ((callO o || newO o) && decide (Region.ready .any all.toArray L = [i])) = true := hd
          cases hp : pureO o with
          | true =>
            rw [hp] at hd
            exact wpAnyB_first (rd := none) (fun b hb => by cases hb) hi' (Region.noSelect_spec hsel) (fun c a w h => absurd h (hQ _ _ _)) n L a w (Region.free_spec hi' hd) hc hr' (.inr ⟨hw, rfl⟩) (go _ _ ρ _ w k2 hI1.put.weak k1)
          | false =>
            rw [hp] at hd
            have hd : ((callO o || newO o) && decide (Region.ready .any all.toArray L = [i])) = true := hd
            rw [Bool.and_eq_true] at hd
            exact alone (of_decide_eq_true hd.2)
      have step : Region.wanted o (yielded all.toArray a.tmps) = true → ∀ s1 : St, RR X ρ s1 a w → Dr md S b0 f G ρ s1.hp w → vcD E md f b o s1 (fun s' => vcOrd E all md rest (f && pureO o) G s' K) → wpAnyB X.P all.toArray S Q (n + 1) L a w := by
        intro hw s1 R1 hI1 h1
        cases b with
        | true =>
          have hd : (decide (Region.ready .any all.toArray L = [i]) && barO all.toArray L i) = true := hd
          rw [Bool.and_eq_true] at hd
          refine lone (of_decide_eq_true hd.1) ?_
          obtain ⟨he, h1⟩ := vcD_true h1
          unfold wpOp
          rw [hi']
          simp only [hw, if_true]
          exact .inl (vc1_sound hE hq hn R1 h1 fun ρ' s' a' w' k1 k2 => ⟨.inr hd.2, go _ s' ρ' a' w' k2 (hI1.plain he) k1⟩)
        | false =>
          have hd : cond (pureO o) (Region.free .any all.toArray L i) ((callO o || newO o) && decide (Region.ready .any all.toArray L = [i])) = true := hd
          cases hp : pureO o with
          | true =>
            rw [hp] at hd
            have hpv := vcD_pv (new_pure hp) h1
            obtain ⟨z, v, k1, k2, k3, k4⟩ := d_step hE hq hn (calls_of_pure hp) (new_pure hp) R1 h1
            exact wpAnyB_first (rd_not (z := z) R1 hI1 k4 ⟨_, hpv⟩) hi' (Region.noSelect_spec hsel) (fun c a w h => absurd h (hQ _ _ _)) n L a w (Region.free_spec hi' hd) hc hr' (.inl ⟨hw, k1⟩) (go _ _ ρ _ w k3 hI1.put.weak k2)
          | false =>
            rw [hp] at hd
            have hd : ((callO o || newO o) && decide (Region.ready .any all.toArray L = [i])) = true := hd
            rw [Bool.and_eq_true] at hd
            refine lone (of_decide_eq_true hd.2) ?_
            unfold wpOp
            rw [hi']
            simp only [hw, if_true]
            have hff : (f && pureO o) = false := by rw [hp, Bool.and_false]
            cases hc' : callO o with
            | true => exact .inl (c_step hE hn hc' R1 (vcD_pv (new_call hc') h1) fun v a' w' k1 hB k2 => ⟨.inl (.of_below hB), go _ _ ρ a' w' k2 (by rw [hff]; exact (hI1.grow hB.size).put) k1⟩)
            | false =>
              have hnw : newO o = true := by
                have := hd.1
                rw [hc'] at this; exact this
              obtain ⟨he, h1⟩ := vcD_new hnw h1
              exact .inl (new_sound hE hn hnw R1 h1 fun ρ' s' a' w' k1 hB k2 => ⟨.inl (.of_below hB), go _ s' ρ' a' w' k2 (hI1.plain he) k1⟩)
      split at h
      · rename_i hg
        exact step (by unfold Region.wanted; rw [hg]) s R hI h
      · rename_i g want hg
        split at h
        · rename_i c hc
          obtain ⟨g1, g2⟩ := guard_cases hc hg R
          split at h
          · rename_i t ht
            obtain ⟨e1, e2, e3⟩ := g1 t ht
            obtain ⟨hT, hF⟩ := br_and h
            cases t with
            | true =>
              have h := hT rfl
              rw [putF_eq] at h
              obtain ⟨_, h⟩ := h
              have R1 := R.alias (d := c) (v := .bool true) (by rw [e1]; exact mkVR_bool _)
              have hI1 : Dr md S b0 f G ρ (s.put (some c) (.bool true)).hp w := hI.put
              cases want with
              | true => exact step (e2 rfl) _ R1 hI1 h
              | false => exact skip (e3 (by simp)) _ R1 hI1 h
            | false =>
              have h := hF rfl
              rw [putF_eq] at h
              obtain ⟨_, h⟩ := h
              have R1 := R.alias (d := c) (v := .bool false) (by rw [e1]; exact mkVR_bool _)
              have hI1 : Dr md S b0 f G ρ (s.put (some c) (.bool false)).hp w := hI.put
              cases want with
              | true => exact skip (e3 (by simp)) _ R1 hI1 h
              | false => exact step (e2 rfl) _ R1 hI1 h
          · rename_i ht
            exact skip (g2 ht) _ R hI h
          · exact h.elim
        · exact h.elim
theorem alts_sound (hE : EnvC E X.P) (hq : ∀ c, EqLaw X c) (hn : E.nt = X.nt) {all : List Oper} (hsel : Region.noSelect all.toArray = true) (hQ : ∀ c a w, ¬ Q (.panic c) a w) (hK : Hold X K (Q .normal)) : ∀ (l : Alts) (n : Nat) (L : Array Bool) (f : Bool) (G : List Nat) (s : St) (ρ : Nat → Nat) (a : Act) (w : World), altsFrom all.toArray l n L = true → Closed all.toArray L → (∀ i ∈ l.ids, i ∈ Region.ready .any all.toArray L) → RR X ρ s a w → Dr md S b0 f G ρ s.hp w → vcAlts E all md l G s K →
    ∀ j ∈ l.ids, wpOp X.P all.toArray Q j (fun a' w' => (Chg S w w' ∨ barO all.toArray L j = true) ∧ wpAnyB X.P all.toArray S Q n (L.setIfInBounds j true) a' w') a w
  | .nil, n, L, f, G, s, ρ, a, w, hd, hc, hr, R, hI, h, j, hj => by cases hj
  | .cons i r l, n, L, f, G, s, ρ, a, w, hd, hc, hr, R, hI, h, j, hj => by
    have hd : (drawFrom all.toArray r n (L.setIfInBounds i true) && altsFrom all.toArray l n L) = true := hd
    rw [Bool.and_eq_true] at hd
    obtain ⟨h1, h2⟩ := conj2_out h
    rcases List.mem_cons.1 hj with e | hj
    · subst e
      split at h1
      · rename_i o ho
        have ho' : all.toArray[j]? = some o := by rw [List.getElem?_toArray]; exact ho
        have hrj := hr j List.mem_cons_self
        obtain ⟨hg, hwp⟩ := s_step (Q := Q) (next := fun a' w' => (Chg S w w' ∨ barO all.toArray L j = true) ∧ wpAnyB X.P all.toArray S Q n (L.setIfInBounds j true) a' w') hE hn R hI h1 fun G' ρ' s' a' w' k1 hC R' hI' =>
          ⟨.inl hC, draw_sound hE hq hn hsel hQ hK r n _ false G' s' ρ' a' w' hd.1 (hc.set hrj) R' hI' k1⟩
        unfold wpOp
        rw [ho']
        have hw : Region.wanted o (yielded all.toArray a.tmps) = true := by unfold Region.wanted; rw [hg]
        simp only [hw, if_true]
        exact .inl hwp
      · exact h1.elim
    · rcases h2 with e | h2
      · rw [e] at hj; cases hj
      · exact alts_sound hE hq hn hsel hQ hK l n L f G s ρ a w hd.2 hc (fun i hi => hr i (List.mem_cons_of_mem _ hi)) R hI h2 j hj
end
end
theorem idsOk_spec {F : List Nat} {hp : List (Nat × Blk)} : ∀ {l : List Nat}, idsOk F hp l = true → ∀ id ∈ l, isVar (lkb hp id) = true ∧ memN F id = false
  | i :: l, h, id, hm => by
    unfold idsOk at h
    rw [Bool.and_eq_true, Bool.and_eq_true, Bool.not_eq_true'] at h
    rcases List.mem_cons.1 hm with rfl | hm
    · exact h.1
    · exact idsOk_spec h.2 id hm

/-! ### Code -/
def HoldE (X : Fix) (K : Exit → St → Prop) (Q : Exit → Act → World → Prop) : Prop := ∀ e ρ s a w, K e s → RR X ρ s a w → Q e a w

theorem wp_loop_n {P : Program} {c : Code} (I : Nat → Act → World → Prop) {n : Nat} (h0 : I n a w)
    (round : ∀ n a w, I n a w → c.wp P (Exit.then (fun a' w' => ∃ m, m < n ∧ I m a' w') Q) a w) : (Code.loop c).wp P Q a w := by
  intro b k cs
  have key : ∀ n a w, I n a w → ∃ e a' w', Q e a' w' ∧ Arrives P (lone (b.at a (.code c :: .inLoop c :: k)) cs w) b k cs e a' w' := by
    intro n
    induction n using Nat.strongRecOn with
    | _ n ih =>
      intro a w hI
      obtain ⟨e, a₁, w₁, hq, harr⟩ := round n a w hI b (.inLoop c :: k) cs
      cases e with
      | normal =>
        obtain ⟨m, hlt, hI₁⟩ := hq
        obtain ⟨e₂, a₂, w₂, hq₂, harr₂⟩ := ih m hlt a₁ w₁ hI₁
        exact ⟨e₂, a₂, w₂, hq₂, .of_steps (Steps.trans harr (.one step_inLoop)) harr₂⟩
      | exit id => exact ⟨_, a₁, w₁, hq, .pass (x := .inLoop c) rfl (fun _ _ => .inl (by simp)) harr⟩
      | goto l => exact ⟨_, a₁, w₁, hq, .pass (x := .inLoop c) rfl (fun _ _ => .inl (by simp)) harr⟩
      | ret => exact ⟨_, a₁, w₁, hq, .pass (x := .inLoop c) rfl (fun _ _ => .inl (by simp)) harr⟩
      | panic ch => exact ⟨_, a₁, w₁, hq, .pass (x := .inLoop c) rfl (fun _ _ => .inl (by simp)) harr⟩
      | outgrown => exact ⟨_, a₁, w₁, hq, .pass (x := .inLoop c) rfl (fun _ _ => .inl (by simp)) harr⟩
  obtain ⟨e, a', w', hq, harr⟩ := key _ a w h0
  exact ⟨e, a', w', hq, .of_steps (.one step_loop) harr⟩

theorem pruneH_hold {id : Nat} {next : Act → World → Prop} (h : Hold X K next) (R : RR X ρ s a w) (hk : pruneH E id s K) : next a w := by
  unfold pruneH at hk
  split at hk
  · exact h _ _ _ _ hk R
  · rename_i mb _
    obtain ⟨fr, hp, ks⟩ := s
    simp only [dropT_eq] at hk
    have R1 := RR.drops (outK mb hp) R
    generalize dropK (outK mb hp) ⟨fr, hp, ks⟩ = s1 at hk R1
    obtain ⟨fr1, hp1, ks1⟩ := s1
    obtain ⟨h2, hk⟩ := cond_elim hk
    rw [lookT_eq] at hk
    exact h _ _ _ _ hk (R1.same (hp' := pickH mb hp1) (fun id => lkb_pickH mb hp1 h2 id))
theorem prune_hold {id : Nat} {next : Act → World → Prop} (h : Hold X K next) : Hold X (pruneK E id K) next := by
  intro ρ s a w hk R
  obtain ⟨fr, hp, ks⟩ := s
  unfold pruneK at hk
  cases hm : lkO E.keep id with
  | none => rw [hm] at hk; exact h _ _ _ _ hk R
  | some m =>
    rw [hm] at hk
    simp only [forceF_eq] at hk
    exact pruneH_hold h (R.pick m) hk
theorem vc_sound (hE : EnvC E X.P) (hP : PrOk X.P) (hn : E.nt = X.nt) : ∀ (c : Code) (s : St) (ρ : Nat → Nat) (a : Act) (w : World) (K : Exit → St → Prop) (Q : Exit → Act → World → Prop), (∀ c a w, ¬ Q (.panic c) a w) → RR X ρ s a w → vc E c s K → HoldE X K Q → c.wp X.P Q a w
  | .skip, s, ρ, a, w, K, Q, hQ, R, h, hK => wp_skip (hK _ _ _ _ _ h R)
  | .region id ops dr, s, ρ, a, w, K, Q, hQ, R, h, hK => by
    obtain ⟨l⟩ := ops
    have h : cond dr (vcDraw E id l s (pruneK E id (K .normal))) (vcOps E l l s (pruneK E id (K .normal))) := h
    cases dr with
    | false =>
      refine wp_region ?_
      have := ops_sound (Q := Q) hE (hP.eq X rfl) hn (all := l) l 0 s ρ a w rfl R h (prune_hold (fun ρ' s' a' w' => hK .normal ρ' s' a' w'))
      rw [List.range_eq_range']; simpa using this
    | true =>
      have h : vcDraw E id l s (pruneK E id (K .normal)) := h
      unfold vcDraw at h
      split at h
      · rename_i ord _
        obtain ⟨h1, h⟩ := h
        generalize mdOf E id = md at h
        obtain ⟨mb, ids, F⟩ := md
        obtain ⟨h2, h⟩ := cond_elim h
        unfold drawOk at h1
        rw [Bool.and_eq_true] at h1
        have hB : Below w.heap.size w { w with drawn := w.drawn + 1 } := ⟨rfl, rfl, rfl, Nat.le_refl _, fun _ _ => rfl⟩
        have hids := idsOk_spec h2
        have hI : Dr ⟨mb, ids, F⟩ (fun b => mb = true ∧ (w.heap.size ≤ b ∨ ∃ i ∈ ids, ρ i = b)) w.heap.size true [] ρ s.hp { w with drawn := w.drawn + 1 } :=
          ⟨fun hb b hS => (by rw [show mb = false from hb] at hS; cases hS.1), fun _ => Nat.le_refl _, fun _ _ => rfl, fun hb i hi => ⟨⟨hb, .inr ⟨i, hi, rfl⟩⟩, (hids i hi).1, (hids i hi).2⟩, fun hb i hl _ => (R.lt hl).2, fun _ i hi => (by cases hi), fun _ i hi => (by cases hi), fun _ b hS => hS.2, fun hb b hl => ⟨hb, .inl hl⟩⟩
        have := draw_sound (Q := Q) hE (hP.eq X rfl) hn (all := l) h1.1 hQ (prune_hold (fun ρ' s' a' w' => hK .normal ρ' s' a' w')) ord _ _ true [] s ρ a { w with drawn := w.drawn + 1 } h1.2 Closed.none (R.world hB).2 hI h
        refine wp_region_B (S := fun b => mb = true ∧ (w.heap.size ≤ b ∨ ∃ i ∈ ids, ρ i = b)) hP.mixed ?_
        rw [show (l.toArray).size = l.length by simp]
        exact this
      · exact h.elim
  | .seq x y, s, ρ, a, w, K, Q, hQ, R, h, hK => by
    refine wp_seq (vc_sound hE hP hn x s ρ a w _ _ (fun c a w => hQ c a w) R h fun e ρ' s' a' w' h1 R1 => ?_)
    cases e with
    | normal => exact vc_sound hE hP hn y s' ρ' a' w' K Q hQ R1 h1 hK
    | _ => exact hK _ _ _ _ _ h1 R1
  | .cond c x y, s, ρ, a, w, K, Q, hQ, R, h, hK => by
    simp only [vc] at h
    split at h
    · rename_i t ht
      have hc := VR_opn R c
      rw [ht] at hc
      have ec := VR_bool hc
      obtain ⟨hT, hF⟩ := br_and h
      have alias : ∀ b : Bool, a.eval c = .bool b → RR X ρ (s.put (slotOf c) (.bool b)) a w := by
        intro b hb
        cases c with
        | tmp d => exact R.alias (by show VR _ _ (a.eval (.tmp d)); rw [hb]; exact mkVR_bool _)
        | _ => exact R
      cases t with
      | true =>
        have h := hT rfl
        rw [putF_eq] at h
        exact wp_cond_true ec (vc_sound hE hP hn x _ ρ a w K Q hQ (alias true ec) h.2 hK)
      | false =>
        have h := hF rfl
        rw [putF_eq] at h
        exact wp_cond_false ec (vc_sound hE hP hn y _ ρ a w K Q hQ (alias false ec) h.2 hK)
    · exact h.elim
  | .block id c, s, ρ, a, w, K, Q, hQ, R, h, hK => by
    refine wp_block (vc_sound hE hP hn c s ρ a w _ _ (fun c a w => hQ c a w) R h fun e ρ' s' a' w' h1 R1 => ?_)
    cases e with
    | exit i =>
      have h1 : cond (Nat.beq i id) (K .normal s') (K (.exit i) s') := h1
      by_cases hi : i = id
      · subst hi
        rw [Nat.beq_refl] at h1
        simp only [Exit.inBlock, if_true]
        exact hK _ _ _ _ _ h1 R1
      · have : Nat.beq i id = false := by
          cases hb : Nat.beq i id with
          | false => rfl
          | true => exact absurd (Nat.eq_of_beq_eq_true hb) hi
        rw [this] at h1
        simp only [Exit.inBlock, hi, if_false]
        exact hK _ _ _ _ _ h1 R1
    | _ => exact hK _ _ _ _ _ h1 R1
  | .loop c, s, ρ, a, w, K, Q, hQ, R, h, hK => by
    obtain ⟨I, μ, M, h0, h1⟩ := h
    obtain ⟨s0, hI, R0⟩ := mask_sound hE.t R h0
    refine wp_loop_n (fun n a w => ∃ s ρ, μ s = n ∧ I s ∧ RR X ρ s a w) ⟨s0, ρ, rfl, hI, R0⟩ fun n a' w' ⟨s', ρ', hm, hI', R'⟩ => ?_
    refine vc_sound hE hP hn c s' ρ' a' w' _ _ (fun c a w => hQ c a w) R' (h1 s' hI') fun e ρ2 s2 a2 w2 h2 R2 => ?_
    cases e with
    | normal =>
      obtain ⟨s3, ⟨k1, k2⟩, R3⟩ := mask_sound hE.t R2 h2
      exact ⟨μ s3, by rw [← hm]; exact k2, s3, ρ2, rfl, k1, R3⟩
    | _ => exact hK _ _ _ _ _ h2 R2
  | .exit id, s, ρ, a, w, K, Q, hQ, R, h, hK => wp_exit (hK _ _ _ _ _ h R)
  | .ret, s, ρ, a, w, K, Q, hQ, R, h, hK => wp_ret (hK _ _ _ _ _ h R)
  | .label _, s, ρ, a, w, K, Q, hQ, R, h, hK => h.elim
  | .goto _, s, ρ, a, w, K, Q, hQ, R, h, hK => h.elim
  | .scope _, s, ρ, a, w, K, Q, hQ, R, h, hK => h.elim
  | .rangeFunc _ _ _ _, s, ρ, a, w, K, Q, hQ, R, h, hK => h.elim
  | .refuse _, s, ρ, a, w, K, Q, hQ, R, h, hK => h.elim
end
end Go.Proofs.YtbkccpddkpclaaaV
