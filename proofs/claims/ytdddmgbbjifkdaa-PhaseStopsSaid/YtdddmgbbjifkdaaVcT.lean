/- Regions that draw, code, functions. -/
import Derived.Test.YtdddmgbbjifkdaaVcS
import Derived.Test.YtdddmgbbjifkdaaVcZ
set_option linter.unusedVariables false
set_option linter.unusedSimpArgs false
namespace Go.Proofs.YtdddmgbbjifkdaaV
open Go.RowKit

/-- What the program is to be, besides. -/
structure PrOk (P : Program) : Prop where
  mixed : P.follows .mixedOrders = true
  eq : ∀ X : Fix, X.P = P → ∀ c, EqLaw X c

section
variable {E : Env} {X : Fix} {ρ : Nat → Nat} {s : St} {a : Act} {w w' : World} {o : Oper} {K : St → Prop} {Q : Exit → Act → World → Prop}

/-! ### Draws -/
theorem d_step (hE : EnvC E X.P) (hq : ∀ c, EqLaw X c) (hn : E.nt = X.nt) (hp : calls o.op = false) (hw : newO o = false) (R : RR X ρ s a w) (h : vcD E false o s K) :
    ∃ z s', Up X.P a o z w ∧ K s' ∧ RR X ρ s' (a.put o.dst z) w := by
  obtain ⟨dst, op, ty, pos, after, guard⟩ := o
  obtain ⟨fr, hp', ks⟩ := s
  have h : cond (false || newO ⟨dst, op, ty, pos, after, guard⟩) (vcOp E dst op fr hp' ks K) (pvP E dst op fr hp' ks K) := h
  rw [hw] at h
  have h : pvP E dst op fr hp' ks K := h
  obtain ⟨v, z, h1, h2, h3⟩ := ex_pv (o := ⟨dst, op, ty, pos, after, guard⟩) hE.t (hq _) R rfl hp h
  obtain ⟨s', k1, k2⟩ := putF_next hn h1 R h3
  exact ⟨z, s', h2, k1, k2⟩

theorem vcD_true {K : St → Prop} (h : vcD E true o s K) : vc1 E o s K := by
  obtain ⟨dst, op, ty, pos, after, guard⟩ := o
  obtain ⟨fr, hp', ks⟩ := s
  exact h
theorem calls_of_pure (hp : pureO o = true) : calls o.op = false := by
  obtain ⟨dst, op, ty, pos, after, guard⟩ := o
  cases op with
  | call c =>
    simp only [pureO, cls] at hp
    simp only [calls]
    cases hcc : c.callee with
    | value f => rw [hcc] at hp; simp at hp
    | _ => rfl
  | _ => rfl

theorem new_pure (hp : pureO o = true) : newO o = false := by
  unfold pureO at hp
  unfold newO
  split at hp
  · rename_i h; rw [h]; rfl
  · rename_i h; rw [h]; rfl
  · cases hp
theorem new_call (hp : callO o = true) : newO o = false := by
  unfold callO at hp
  unfold newO cls
  split at hp
  · rename_i c hc
    rw [hc]
    split at hp
    · rename_i f hf; simp only [hf]; rfl
    · cases hp
  · cases hp
theorem c_step (hE : EnvC E X.P) (hn : E.nt = X.nt) (hp : callO o = true) (R : RR X ρ s a w) (h : vcD E false o s K) {next : Act → World → Prop} (hK : ∀ s' a' w', K s' → Below w.heap.size w w' → RR X ρ s' a' w' → next a' w') : o.wp X.P a w next Q := by
  obtain ⟨dst, op, ty, pos, after, guard⟩ := o
  obtain ⟨fr, hp', ks⟩ := s
  have h : cond (false || newO ⟨dst, op, ty, pos, after, guard⟩) (vcOp E dst op fr hp' ks K) (pvP E dst op fr hp' ks K) := h
  rw [new_call hp] at h
  have h : pvP E dst op fr hp' ks K := h
  cases op with
  | call c =>
    cases hcc : c.callee with
    | value f =>
      refine ex_callC (o := ⟨dst, .call c, ty, pos, after, guard⟩) (s := ⟨fr, hp', ks⟩) hE R rfl hcc h fun v z w' hD hB R' hv => ?_
      obtain ⟨s', k1, k2⟩ := putF_next hn hD R' hv
      exact hK _ _ _ k1 hB k2
    | _ => simp only [callO, hcc] at hp; cases hp
  | _ => simp only [callO] at hp; cases hp

theorem draw_sound (hE : EnvC E X.P) (hq : ∀ c, EqLaw X c) (hn : E.nt = X.nt) {all : List Oper} (hsel : Region.noSelect all.toArray = true) (hQ : ∀ c a w, ¬ Q (.panic c) a w) (hK : Hold X K (Q .normal)) : ∀ (ord : List Nat) (L : Array Bool) (s : St) (ρ : Nat → Nat) (a : Act) (w : World), drawFrom all.toArray L ord = true → Closed all.toArray L → RR X ρ s a w → vcOrd E all ord s K →
    wpAnyB X.P all.toArray Q ord.length L a w
  | [], L, s, ρ, a, w, hd, hc, R, h => ⟨List.isEmpty_iff.1 hd, hK _ _ _ _ h R⟩
  | n :: rest, L, s, ρ, a, w, hd, hc, R, h => by
    simp only [vcOrd] at h
    have hd : ((match all.toArray[idxO n]? with
      | some o => (Region.ready .any all.toArray L).contains (idxO n) && cond (isBar n) (decide (Region.ready .any all.toArray L = [idxO n]) && barO all.toArray L (idxO n)) (cond (pureO o) (Region.free .any all.toArray L (idxO n)) ((callO o || newO o) && decide (Region.ready .any all.toArray L = [idxO n])))
      | none => false) && drawFrom all.toArray (L.setIfInBounds (idxO n) true) rest) = true := hd
    generalize idxO n = i at h hd
    generalize isBar n = b at h hd
    rw [Bool.and_eq_true] at hd
    obtain ⟨hd, hd2⟩ := hd
    split at h
    · exact h.elim
    · rename_i o hi
      have hi' : all.toArray[i]? = some o := by rw [List.getElem?_toArray]; exact hi
      rw [hi'] at hd
      simp only [Bool.and_eq_true] at hd
      obtain ⟨hr, hd⟩ := hd
      have hr' : i ∈ Region.ready .any all.toArray L := by simpa using hr
      -- what is left is done in the same way
      have go : ∀ (s' : St) (ρ' : Nat → Nat) (a' : Act) (w' : World), RR X ρ' s' a' w' → vcOrd E all rest s' K → wpAnyB X.P all.toArray Q rest.length (L.setIfInBounds i true) a' w' :=
        fun s' ρ' a' w' R' h' => draw_sound hE hq hn hsel hQ hK rest _ s' ρ' a' w' hd2 (hc.set hr') R' h'
      -- alone
      have lone : Region.ready .any all.toArray L = [i] → wpOp X.P all.toArray Q i (fun a' w' => (Below w.heap.size w w' ∨ barO all.toArray L i = true) ∧ wpAnyB X.P all.toArray Q rest.length (L.setIfInBounds i true) a' w') a w → wpAnyB X.P all.toArray Q (n :: rest).length L a w := by
        intro hrd hw
        refine ⟨fun h0 => (by rw [hrd] at h0; cases h0), fun j hj => ?_⟩
        rw [hrd] at hj
        obtain rfl : j = i := by simpa using hj
        exact hw
      have skip : Region.wanted o (yielded all.toArray a.tmps) = false → ∀ s1 : St, RR X ρ s1 a w → putF E.nt o.dst s1 .und (fun s' => vcOrd E all rest s' K) → wpAnyB X.P all.toArray Q (n :: rest).length L a w := by
        intro hw s1 R1 h1
        obtain ⟨s', k1, k2⟩ := putF_next (z := undef) hn h1 R1 rfl
        have alone : Region.ready .any all.toArray L = [i] → wpAnyB X.P all.toArray Q (n :: rest).length L a w := by
          intro hrd
          refine lone hrd ?_
          unfold wpOp
          rw [hi']
          simp only [hw, Bool.false_eq_true, if_false]
          exact ⟨.inl (Below.refl _ _), go s' ρ _ w k2 k1⟩
        cases b with
        | true =>
          have hd : (decide (Region.ready .any all.toArray L = [i]) && barO all.toArray L i) = true := hd
          rw [Bool.and_eq_true] at hd
          exact alone (of_decide_eq_true hd.1)
        | false =>
          have hd : cond (pureO o) (Region.free .any all.toArray L i) ((callO o || newO o) && decide (Region.ready .any all.toArray L = [i])) = true := hd
          cases hp : pureO o with
          | true =>
            rw [hp] at hd
            exact wpAnyB_first hi' (Region.noSelect_spec hsel) (fun c a w h => absurd h (hQ _ _ _)) rest.length L a w (Region.free_spec hi' hd) hc hr' (.inr ⟨hw, rfl⟩) (go s' ρ _ w k2 k1)
          | false =>
            rw [hp] at hd
            have hd : ((callO o || newO o) && decide (Region.ready .any all.toArray L = [i])) = true := hd
            rw [Bool.and_eq_true] at hd
            exact alone (of_decide_eq_true hd.2)
      have step : Region.wanted o (yielded all.toArray a.tmps) = true → ∀ s1 : St, RR X ρ s1 a w → vcD E b o s1 (fun s' => vcOrd E all rest s' K) → wpAnyB X.P all.toArray Q (n :: rest).length L a w := by
        intro hw s1 R1 h1
        cases b with
        | true =>
          have hd : (decide (Region.ready .any all.toArray L = [i]) && barO all.toArray L i) = true := hd
          rw [Bool.and_eq_true] at hd
          refine lone (of_decide_eq_true hd.1) ?_
          have h1 : vc1 E o s1 (fun s' => vcOrd E all rest s' K) := vcD_true h1
          unfold wpOp
          rw [hi']
          simp only [hw, if_true]
          exact .inl (vc1_sound hE hq hn R1 h1 fun ρ' s' a' w' k1 k2 => ⟨.inr hd.2, go s' ρ' a' w' k2 k1⟩)
        | false =>
          have hd : cond (pureO o) (Region.free .any all.toArray L i) ((callO o || newO o) && decide (Region.ready .any all.toArray L = [i])) = true := hd
          cases hp : pureO o with
          | true =>
            rw [hp] at hd
            obtain ⟨z, s', k1, k2, k3⟩ := d_step hE hq hn (calls_of_pure hp) (new_pure hp) R1 h1
            exact wpAnyB_first hi' (Region.noSelect_spec hsel) (fun c a w h => absurd h (hQ _ _ _)) rest.length L a w (Region.free_spec hi' hd) hc hr' (.inl ⟨hw, k1⟩) (go s' ρ _ w k3 k2)
          | false =>
            rw [hp] at hd
            have hd : ((callO o || newO o) && decide (Region.ready .any all.toArray L = [i])) = true := hd
            rw [Bool.and_eq_true] at hd
            refine lone (of_decide_eq_true hd.2) ?_
            unfold wpOp
            rw [hi']
            simp only [hw, if_true]
            cases hc' : callO o with
            | true => exact .inl (c_step hE hn hc' R1 h1 fun s' a' w' k1 hB k2 => ⟨.inl hB, go s' ρ a' w' k2 k1⟩)
            | false =>
              have hnw : newO o = true := by
                have := hd.1
                rw [hc'] at this; exact this
              have h1 : vc1 E o s1 (fun s' => vcOrd E all rest s' K) := by
                obtain ⟨dst, op, ty, pos, after, guard⟩ := o
                obtain ⟨fr, hp', ks⟩ := s1
                have h1 : cond (false || newO ⟨dst, op, ty, pos, after, guard⟩) (vcOp E dst op fr hp' ks (fun s' => vcOrd E all rest s' K)) (pvP E dst op fr hp' ks (fun s' => vcOrd E all rest s' K)) := h1
                rw [hnw] at h1
                exact h1
              exact .inl (new_sound hE hn hnw R1 h1 fun ρ' s' a' w' k1 hB k2 => ⟨.inl hB, go s' ρ' a' w' k2 k1⟩)
      split at h
      · rename_i hg
        exact step (by unfold Region.wanted; rw [hg]) s R h
      · rename_i g want hg
        split at h
        · rename_i c hc
          obtain ⟨g1, g2⟩ := guard_cases hc hg R
          split at h
          · rename_i t ht
            obtain ⟨e1, e2, e3⟩ := g1 t ht
            obtain ⟨hT, hF⟩ := br_and h
            cases t with
            | true =>
              have h := hT rfl
              rw [putF_eq] at h
              obtain ⟨_, h⟩ := h
              have R1 := R.alias (d := c) (v := .bool true) (by rw [e1]; exact mkVR_bool _)
              cases want with
              | true => exact step (e2 rfl) _ R1 h
              | false => exact skip (e3 (by simp)) _ R1 h
            | false =>
              have h := hF rfl
              rw [putF_eq] at h
              obtain ⟨_, h⟩ := h
              have R1 := R.alias (d := c) (v := .bool false) (by rw [e1]; exact mkVR_bool _)
              cases want with
              | true => exact skip (e3 (by simp)) _ R1 h
              | false => exact step (e2 rfl) _ R1 h
          · rename_i ht
            exact skip (g2 ht) _ R h
          · exact h.elim
        · exact h.elim

/-! ### Code -/
def HoldE (X : Fix) (K : Exit → St → Prop) (Q : Exit → Act → World → Prop) : Prop := ∀ e ρ s a w, K e s → RR X ρ s a w → Q e a w

theorem wp_loop_n {P : Program} {c : Code} (I : Nat → Act → World → Prop) {n : Nat} (h0 : I n a w)
    (round : ∀ n a w, I n a w → c.wp P (Exit.then (fun a' w' => ∃ m, m < n ∧ I m a' w') Q) a w) : (Code.loop c).wp P Q a w := by
  intro b k cs
  have key : ∀ n a w, I n a w → ∃ e a' w', Q e a' w' ∧ Arrives P (lone (b.at a (.code c :: .inLoop c :: k)) cs w) b k cs e a' w' := by
    intro n
    induction n using Nat.strongRecOn with
    | _ n ih =>
      intro a w hI
      obtain ⟨e, a₁, w₁, hq, harr⟩ := round n a w hI b (.inLoop c :: k) cs
      cases e with
      | normal =>
        obtain ⟨m, hlt, hI₁⟩ := hq
        obtain ⟨e₂, a₂, w₂, hq₂, harr₂⟩ := ih m hlt a₁ w₁ hI₁
        exact ⟨e₂, a₂, w₂, hq₂, .of_steps (Steps.trans harr (.one step_inLoop)) harr₂⟩
      | exit id => exact ⟨_, a₁, w₁, hq, .pass (x := .inLoop c) rfl (fun _ _ => .inl (by simp)) harr⟩
      | goto l => exact ⟨_, a₁, w₁, hq, .pass (x := .inLoop c) rfl (fun _ _ => .inl (by simp)) harr⟩
      | ret => exact ⟨_, a₁, w₁, hq, .pass (x := .inLoop c) rfl (fun _ _ => .inl (by simp)) harr⟩
      | panic ch => exact ⟨_, a₁, w₁, hq, .pass (x := .inLoop c) rfl (fun _ _ => .inl (by simp)) harr⟩
      | outgrown => exact ⟨_, a₁, w₁, hq, .pass (x := .inLoop c) rfl (fun _ _ => .inl (by simp)) harr⟩
  obtain ⟨e, a', w', hq, harr⟩ := key _ a w h0
  exact ⟨e, a', w', hq, .of_steps (.one step_loop) harr⟩

theorem prune_hold {id : Nat} {next : Act → World → Prop} (h : Hold X K next) : Hold X (pruneK E id K) next := by
  intro ρ s a w hk R
  obtain ⟨fr, hp, ks⟩ := s
  unfold pruneK at hk
  cases hm : lkO E.keep id with
  | none => rw [hm] at hk; exact h _ _ _ _ hk R
  | some m =>
    rw [hm] at hk
    simp only [forceF_eq] at hk
    exact h _ _ _ _ hk (R.pick m)
theorem vc_sound (hE : EnvC E X.P) (hP : PrOk X.P) (hn : E.nt = X.nt) : ∀ (c : Code) (s : St) (ρ : Nat → Nat) (a : Act) (w : World) (K : Exit → St → Prop) (Q : Exit → Act → World → Prop), (∀ c a w, ¬ Q (.panic c) a w) → RR X ρ s a w → vc E c s K → HoldE X K Q → c.wp X.P Q a w
  | .skip, s, ρ, a, w, K, Q, hQ, R, h, hK => wp_skip (hK _ _ _ _ _ h R)
  | .region id ops dr, s, ρ, a, w, K, Q, hQ, R, h, hK => by
    obtain ⟨l⟩ := ops
    have h : cond dr (vcDraw E id l s (pruneK E id (K .normal))) (vcOps E l l s (pruneK E id (K .normal))) := h
    cases dr with
    | false =>
      refine wp_region ?_
      have := ops_sound (Q := Q) hE (hP.eq X rfl) hn (all := l) l 0 s ρ a w rfl R h (prune_hold (fun ρ' s' a' w' => hK .normal ρ' s' a' w'))
      rw [List.range_eq_range']; simpa using this
    | true =>
      have h : vcDraw E id l s (pruneK E id (K .normal)) := h
      unfold vcDraw at h
      split at h
      · rename_i ord _
        obtain ⟨h1, h⟩ := h
        unfold drawOk at h1
        rw [Bool.and_eq_true, Bool.and_eq_true] at h1
        refine wp_region_B hP.mixed ?_
        have hB : Below w.heap.size w { w with drawn := w.drawn + 1 } := ⟨rfl, rfl, rfl, Nat.le_refl _, fun _ _ => rfl⟩
        have := draw_sound (Q := Q) hE (hP.eq X rfl) hn (all := l) h1.1.2 hQ (prune_hold (fun ρ' s' a' w' => hK .normal ρ' s' a' w')) ord _ s ρ a { w with drawn := w.drawn + 1 } h1.2 Closed.none (R.world hB).2 h
        rw [Nat.eq_of_beq_eq_true h1.1.1] at this
        rw [show (l.toArray).size = l.length by simp]
        exact this
      · exact h.elim
  | .seq x y, s, ρ, a, w, K, Q, hQ, R, h, hK => by
    refine wp_seq (vc_sound hE hP hn x s ρ a w _ _ (fun c a w => hQ c a w) R h fun e ρ' s' a' w' h1 R1 => ?_)
    cases e with
    | normal => exact vc_sound hE hP hn y s' ρ' a' w' K Q hQ R1 h1 hK
    | _ => exact hK _ _ _ _ _ h1 R1
  | .cond c x y, s, ρ, a, w, K, Q, hQ, R, h, hK => by
    simp only [vc] at h
    split at h
    · rename_i t ht
      have hc := VR_opn R c
      rw [ht] at hc
      have ec := VR_bool hc
      obtain ⟨hT, hF⟩ := br_and h
      have alias : ∀ b : Bool, a.eval c = .bool b → RR X ρ (s.put (slotOf c) (.bool b)) a w := by
        intro b hb
        cases c with
        | tmp d => exact R.alias (by show VR _ _ (a.eval (.tmp d)); rw [hb]; exact mkVR_bool _)
        | _ => exact R
      cases t with
      | true =>
        have h := hT rfl
        rw [putF_eq] at h
        exact wp_cond_true ec (vc_sound hE hP hn x _ ρ a w K Q hQ (alias true ec) h.2 hK)
      | false =>
        have h := hF rfl
        rw [putF_eq] at h
        exact wp_cond_false ec (vc_sound hE hP hn y _ ρ a w K Q hQ (alias false ec) h.2 hK)
    · exact h.elim
  | .block id c, s, ρ, a, w, K, Q, hQ, R, h, hK => by
    refine wp_block (vc_sound hE hP hn c s ρ a w _ _ (fun c a w => hQ c a w) R h fun e ρ' s' a' w' h1 R1 => ?_)
    cases e with
    | exit i =>
      have h1 : cond (Nat.beq i id) (K .normal s') (K (.exit i) s') := h1
      by_cases hi : i = id
      · subst hi
        rw [Nat.beq_refl] at h1
        simp only [Exit.inBlock, if_true]
        exact hK _ _ _ _ _ h1 R1
      · have : Nat.beq i id = false := by
          cases hb : Nat.beq i id with
          | false => rfl
          | true => exact absurd (Nat.eq_of_beq_eq_true hb) hi
        rw [this] at h1
        simp only [Exit.inBlock, hi, if_false]
        exact hK _ _ _ _ _ h1 R1
    | _ => exact hK _ _ _ _ _ h1 R1
  | .loop c, s, ρ, a, w, K, Q, hQ, R, h, hK => by
    obtain ⟨I, μ, M, h0, h1⟩ := h
    obtain ⟨s0, hI, R0⟩ := mask_sound hE.t R h0
    refine wp_loop_n (fun n a w => ∃ s ρ, μ s = n ∧ I s ∧ RR X ρ s a w) ⟨s0, ρ, rfl, hI, R0⟩ fun n a' w' ⟨s', ρ', hm, hI', R'⟩ => ?_
    refine vc_sound hE hP hn c s' ρ' a' w' _ _ (fun c a w => hQ c a w) R' (h1 s' hI') fun e ρ2 s2 a2 w2 h2 R2 => ?_
    cases e with
    | normal =>
      obtain ⟨s3, ⟨k1, k2⟩, R3⟩ := mask_sound hE.t R2 h2
      exact ⟨μ s3, by rw [← hm]; exact k2, s3, ρ2, rfl, k1, R3⟩
    | _ => exact hK _ _ _ _ _ h2 R2
  | .exit id, s, ρ, a, w, K, Q, hQ, R, h, hK => wp_exit (hK _ _ _ _ _ h R)
  | .ret, s, ρ, a, w, K, Q, hQ, R, h, hK => wp_ret (hK _ _ _ _ _ h R)
  | .label _, s, ρ, a, w, K, Q, hQ, R, h, hK => h.elim
  | .goto _, s, ρ, a, w, K, Q, hQ, R, h, hK => h.elim
  | .scope _, s, ρ, a, w, K, Q, hQ, R, h, hK => h.elim
  | .rangeFunc _ _ _ _, s, ρ, a, w, K, Q, hQ, R, h, hK => h.elim
  | .refuse _, s, ρ, a, w, K, Q, hQ, R, h, hK => h.elim
end
end Go.Proofs.YtdddmgbbjifkdaaV
