/- The operations of the VC evaluator, one by one. -/
import Derived.Test.YtejedlpnejjnbaaVcS
import Derived.OrdersHeld
set_option linter.unusedVariables false
set_option linter.unusedSimpArgs false
namespace Go.Proofs.YtejedlpnejjnbaaV
open Go.RowKit

section
variable {E : Env} {X : Fix} {ρ : Nat → Nat} {s : St} {a : Act} {w w' : World} {o : Oper}
variable {K : St → Prop} {next : Act → World → Prop} {Q : Exit → Act → World → Prop}
theorem cutP_out {c : Bool} {A : (St → Prop) → Prop} {K : St → Prop} (h : cutP c A K) : ∃ J : St → Prop, A J ∧ ∀ s, J s → K s := by
  cases c with
  | false => exact ⟨K, h, fun _ h => h⟩
  | true => exact cutI_out h
theorem pruneH_hold {id : Nat} {next : Act → World → Prop} (h : Hold X K next) (R : RR X ρ s a w) (hk : pruneH E id s K) : next a w := by
  unfold pruneH at hk
  simp only [forceN_eq] at hk
  split at hk
  · exact h _ _ _ _ hk R
  · rename_i mb _
    obtain ⟨fr, hp, ks⟩ := s
    simp only [dropT_eq] at hk
    have R1 := RR.drops (outC E id ks fr hp (outK mb hp)) R
    generalize dropK (outC E id ks fr hp (outK mb hp)) ⟨fr, hp, ks⟩ = s1 at hk R1
    obtain ⟨fr1, hp1, ks1⟩ := s1
    obtain ⟨h2, hk⟩ := cond_elim hk
    rw [lookT_eq] at hk
    have R2 := R1.same (hp' := pickH mb hp1) (fun id => lkb_pickH mb hp1 h2 id)
    cases hkl : lkO E.keep (E.off * 100000000 + (6000000 + id)) with
    | none =>
      have hk : K ⟨fr1, pickH mb hp1, ks1⟩ := by simpa only [pruneS, forceN_eq, hkl] using hk
      exact h _ _ _ _ hk R2
    | some kl =>
      have hk : cond (subK ks1 kl) (K ⟨fr1, pickH mb hp1, setK ks1 kl⟩) False := by simpa only [pruneS, forceN_eq, hkl] using hk
      obtain ⟨h3, hk⟩ := cond_elim hk
      exact h _ _ _ _ hk (R2.setk h3)
theorem prune_hold {id : Nat} {next : Act → World → Prop} (h : Hold X K next) : Hold X (pruneK E id K) next := by
  intro ρ s a w hk R
  obtain ⟨fr, hp, ks⟩ := s
  unfold pruneK at hk
  cases hm : lkO E.keep id with
  | none => rw [hm] at hk; exact h _ _ _ _ hk R
  | some m =>
    rw [hm] at hk
    simp only [forceF_eq] at hk
    exact pruneH_hold h (R.pick m) hk
theorem pvP_sound (hE : EnvC E X.P) (hq : ∀ c, EqLaw X c) (hn : E.nt = X.nt) {dst : Option Nat} {op : Op} {ty : TypeId} {pos : String} {after : Array Edge} {guard : Option (Nat × Bool)} {fr : List (Nat × AV)} {hp : List (Nat × Blk)} {ks : Option Ks} (R : RR X ρ ⟨fr, hp, ks⟩ a w) (hc : calls op = false) (h : pvP E dst op fr hp ks K) (hK : Hold X K next) : (Oper.mk dst op ty pos after guard).wp X.P a w next Q := by
  obtain ⟨v, z, h1, h2, h3⟩ := ex_pv (o := ⟨dst, op, ty, pos, after, guard⟩) hE.t (hq _) R rfl hc h
  obtain ⟨s', k1, k2⟩ := putF_next hn h1 R h3
  unfold Oper.wp
  rw [h2.now, Oper.upon_value]
  exact hK _ _ _ _ k1 k2
theorem vc1_sound (hE : EnvC E X.P) (hyl : E.yl = none) (hq : ∀ c, EqLaw X c) (hn : E.nt = X.nt) (R : RR X ρ s a w) (h : vc1 E o s K) (hK : Hold X K next) : o.wp X.P a w next Q := by
  obtain ⟨dst, op, ty, pos, after, guard⟩ := o
  obtain ⟨fr, hp, ks⟩ := s
  have h : vcOp E dst op fr hp ks K := h
  have pure : calls op = false → pvP E dst op fr hp ks K → (Oper.mk dst op ty pos after guard).wp X.P a w next Q := by
    intro hc h
    obtain ⟨v, z, h1, h2, h3⟩ := ex_pv (o := ⟨dst, op, ty, pos, after, guard⟩) hE.t (hq _) R rfl hc h
    obtain ⟨s', k1, k2⟩ := putF_next hn h1 R h3
    unfold Oper.wp
    rw [h2.now, Oper.upon_value]
    exact hK _ _ _ _ k1 k2
  have make : (∀ d, dst = some d → av E ⟨fr, hp, ks⟩ (opn fr) (E.off + d) op (fun s' v => putF E.nt (some d) s' v K) → ∃ s' v z w' ρ', putF E.nt (some d) s' v K ∧ (execOp a.eval ⟨dst, op, ty, pos, after, guard⟩).run X.P w = .ok (.value z) w' ∧ RR X ρ' s' a w' ∧ VR (cx X ρ' s'.hp w') v z ∧ (cls (Oper.mk dst op ty pos after guard) = 2 → Below w.heap.size w w')) →
      avP E dst op fr hp ks K → (Oper.mk dst op ty pos after guard).wp X.P a w next Q := by
    intro H h
    cases dst with
    | none => exact h.elim
    | some d =>
      rw [avP_some] at h
      obtain ⟨s1, v, z, w1, ρ1, h1, h2, h3, h4, _⟩ := H d rfl h
      obtain ⟨s', k1, k2⟩ := putF_next hn h1 h3 h4
      unfold Oper.wp
      rw [h2, Oper.upon_value]
      exact hK _ _ _ _ k1 k2
  cases op with
  | call c =>
    simp only [vcOp] at h
    cases hcc : c.callee with
    | invoke r m =>
      rw [hcc] at h
      have h : pvP E dst (.call c) fr hp ks K := h
      simp only [pvP, pv, hcc] at h
    | value f =>
      rw [hcc] at h
      have h : callV E dst fr hp ks c f K := h
      simp only [callV, offK_eq] at h
      split at h
      · rename_i g fs cs hf
        split at h
        · rename_i T hT
          obtain ⟨hok, h⟩ := cond_elim h
          obtain ⟨J, h, hJ⟩ := cutP_out h
          have hN : Hold X (pruneK E (cutN dst) J) next := prune_hold (K := J) (fun ρ' s' a' w' h => hK ρ' s' a' w' (hJ s' h))
          refine ex_callS (o := ⟨dst, .call c, ty, pos, after, guard⟩) (s := ⟨fr, hp, ks⟩) hE R rfl hcc hf hT hok h fun ρ' hp' ks' r z w' hD R' hv => ?_
          obtain ⟨s', k1, k2⟩ := putF_next hn ((forceF_eq _ _).mp hD) R' hv
          exact hN _ _ _ _ k1 k2
        · split at h
          · refine ex_callC (o := ⟨dst, .call c, ty, pos, after, guard⟩) (s := ⟨fr, hp, ks⟩) hE R rfl hcc h fun v z w' hD _ R' hv => ?_
            obtain ⟨s', k1, k2⟩ := putF_next hn hD R' hv
            exact hK _ _ _ _ k1 k2
          · rw [frzK_eq] at h
            obtain ⟨_, R1⟩ := R.freezes (owns.ownss (fs ++ c.args.toList.map (opn fr) ++ cs))
            refine ex_callC (o := ⟨dst, .call c, ty, pos, after, guard⟩) hE R1 rfl hcc h fun v z w' hD _ R' hv => ?_
            obtain ⟨s', k1, k2⟩ := putF_next hn hD R' hv
            exact hK _ _ _ _ k1 k2
      · rw [hyl] at h; exact h.elim
      · exact h.elim
    | builtin b =>
      have hnc : calls (.call c) = false := by simp [calls, hcc]
      rw [hcc] at h
      cases b with
      | append => exact make (fun d hd h => ex_append (o := ⟨dst, .call c, ty, pos, after, guard⟩) hE.t R rfl hcc h) h
      | copy =>
        obtain ⟨s1, v, z, w1, h1, h2, h3, h4⟩ := ex_copy (o := ⟨dst, .call c, ty, pos, after, guard⟩) hE.t R rfl hcc h
        obtain ⟨s', k1, k2⟩ := putF_next hn h1 h3 h4
        unfold Oper.wp
        rw [h2, Oper.upon_value]
        exact hK _ _ _ _ k1 k2
      | clear =>
        obtain ⟨s1, v, z, w1, h1, h2, h3, h4⟩ := ex_clear (o := ⟨dst, .call c, ty, pos, after, guard⟩) hE.t R rfl hcc h
        obtain ⟨s', k1, k2⟩ := putF_next hn h1 h3 h4
        unfold Oper.wp
        rw [h2, Oper.upon_value]
        exact hK _ _ _ _ k1 k2
      | _ => exact pure hnc h
  | alloc t => exact make (fun d hd h => ex_alloc (o := ⟨dst, .alloc t, ty, pos, after, guard⟩) hE.t R rfl h) h
  | box t x => exact make (fun d hd h => ex_box (o := ⟨dst, .box t x, ty, pos, after, guard⟩) hE.t R rfl h) h
  | makeSlice t l c => exact make (fun d hd h => ex_makeSlice (o := ⟨dst, .makeSlice t l c, ty, pos, after, guard⟩) hE.t R rfl h) h
  | buildSlice t l c => exact make (fun d hd h => ex_buildSlice (o := ⟨dst, .buildSlice t l c, ty, pos, after, guard⟩) hE.t R rfl h) h
  | store t x y =>
    have h : wvP E dst (.store t x y) fr hp ks K := h
    unfold wvP at h
    obtain ⟨s1, w1, h1, h2, h3, _⟩ := ex_store (o := ⟨dst, .store t x y, ty, pos, after, guard⟩) hE.t R rfl h
    obtain ⟨s', k1, k2⟩ := putF_next (z := undef) (v := .dead) hn h1 h3 trivial
    unfold Oper.wp
    rw [h2, Oper.upon_skip]
    exact hK _ _ _ _ k1 k2
  | slice t x lo hi mx =>
    have h : sliceP E dst t x lo hi mx fr hp ks K := h
    cases x with
    | tmp d =>
      simp only [sliceP] at h
      split at h
      · have R1 := R.frzS d
        generalize Go.Proofs.YtejedlpnejjnbaaV.frzS d ⟨fr, hp, ks⟩ = s1 at h R1
        obtain ⟨fr1, hp1, ks1⟩ := s1
        simp only [forceH_eq] at h
        exact pvP_sound hE hq hn R1 rfl h hK
      · rename_i id p _
        rw [frzK_eq] at h
        exact pvP_sound hE hq hn (R.freezes [id]).2 rfl h hK
      · exact pvP_sound hE hq hn R rfl h hK
    | _ => exact pvP_sound hE hq hn R rfl h hK
  | _ => exact pure rfl h

/-- One that makes a block: nothing that was there changes. -/
theorem new_sound (hE : EnvC E X.P) (hn : E.nt = X.nt) (hp : newO o = true) (R : RR X ρ s a w) (h : vc1 E o s K) (hK : ∀ ρ' s' a' w', K s' → Below w.heap.size w w' → RR X ρ' s' a' w' → next a' w') : o.wp X.P a w next Q := by
  have hp2 : cls o = 2 := Nat.eq_of_beq_eq_true hp
  obtain ⟨dst, op, ty, pos, after, guard⟩ := o
  obtain ⟨fr, hp', ks⟩ := s
  have h : vcOp E dst op fr hp' ks K := h
  have make : (∀ d, dst = some d → av E ⟨fr, hp', ks⟩ (opn fr) (E.off + d) op (fun s' v => putF E.nt (some d) s' v K) → ∃ s' v z w' ρ', putF E.nt (some d) s' v K ∧ (execOp a.eval ⟨dst, op, ty, pos, after, guard⟩).run X.P w = .ok (.value z) w' ∧ RR X ρ' s' a w' ∧ VR (cx X ρ' s'.hp w') v z ∧ (cls (Oper.mk dst op ty pos after guard) = 2 → Below w.heap.size w w')) →
      avP E dst op fr hp' ks K → (Oper.mk dst op ty pos after guard).wp X.P a w next Q := by
    intro H h
    cases dst with
    | none => exact h.elim
    | some d =>
      rw [avP_some] at h
      obtain ⟨s1, v, z, w1, ρ1, h1, h2, h3, h4, h5⟩ := H d rfl h
      obtain ⟨s', k1, k2⟩ := putF_next hn h1 h3 h4
      unfold Oper.wp
      rw [h2, Oper.upon_value]
      exact hK _ _ _ _ k1 (h5 hp2) k2
  cases op with
  | call c =>
    simp only [vcOp] at h
    cases hcc : c.callee with
    | invoke r m => simp [cls, hcc] at hp2
    | value f => simp [cls, hcc] at hp2
    | builtin b =>
      rw [hcc] at h
      cases b with
      | append => exact make (fun d hd h => ex_append (o := ⟨dst, .call c, ty, pos, after, guard⟩) hE.t R rfl hcc h) h
      | _ => simp [cls, hcc] at hp2
  | alloc t => exact make (fun d hd h => ex_alloc (o := ⟨dst, .alloc t, ty, pos, after, guard⟩) hE.t R rfl h) h
  | box t x => exact make (fun d hd h => ex_box (o := ⟨dst, .box t x, ty, pos, after, guard⟩) hE.t R rfl h) h
  | makeSlice t l c => exact make (fun d hd h => ex_makeSlice (o := ⟨dst, .makeSlice t l c, ty, pos, after, guard⟩) hE.t R rfl h) h
  | buildSlice t l c => exact make (fun d hd h => ex_buildSlice (o := ⟨dst, .buildSlice t l c, ty, pos, after, guard⟩) hE.t R rfl h) h
  | _ => simp [cls] at hp2

/-! ### Operations in their order -/
theorem guardSlot_eq {all : List Oper} {g c : Nat} (h : guardSlot all g = some c) : (all.toArray[g]?).bind (·.dst) = some c := by
  unfold guardSlot at h
  rw [List.getElem?_toArray]
  split at h
  · rename_i o ho; rw [ho]; exact h
  · cases h

/-- What a guarded operation comes to. -/
theorem guard_cases {all : List Oper} {g : Nat} {want : Bool} {c : Nat} (hg : guardSlot all g = some c) (ho : o.guard = some (g, want)) (R : RR X ρ s a w) :
    (∀ t, lk s.fr c = .bool t → a.tmps.getD c undef = .bool t ∧ (t = want → Region.wanted o (yielded all.toArray a.tmps) = true) ∧ (t ≠ want → Region.wanted o (yielded all.toArray a.tmps) = false)) ∧
    (lk s.fr c = .und → Region.wanted o (yielded all.toArray a.tmps) = false) := by
  have hw : ∀ y, a.tmps.getD c undef = y → Region.wanted o (yielded all.toArray a.tmps) = ((match y with | .bool b => some b | _ => none) == some want) := by
    intro y hy
    unfold Region.wanted
    rw [ho]
    simp only [yielded, guardSlot_eq hg, Option.bind_some]
    cases hc : a.tmps[c]? with
    | none =>
      have : a.tmps.getD c undef = undef := by simp [Array.getD_eq_getD_getElem?, hc]
      rw [this] at hy
      subst hy
      rfl
    | some z =>
      have : a.tmps.getD c undef = z := by simp [Array.getD_eq_getD_getElem?, hc]
      rw [this] at hy
      subst hy
      cases z <;> rfl
  have hv := R.fr c
  refine ⟨fun t ht => ?_, fun hu => ?_⟩
  · rw [ht] at hv
    have e := VR_bool hv
    have := hw _ e
    refine ⟨e, fun h => by rw [this, h]; simp, fun h => by rw [this]; simpa using h⟩
  · rw [hu] at hv
    have e : a.tmps.getD c undef = undef := hv
    rw [hw _ e]; rfl

/-- As in a frame, whatever its fence. -/
theorem in_of_wp {ro : Option Nat} {n : Nat} (hd : ∀ c, o.op ≠ .defer c) (h : o.wp X.P a w next Q) : o.wpIn (FW ro) n X.P a w next Q := by
  refine ⟨fun _ _ => trivial, ?_⟩
  rw [Oper.semAt_eq _ _ _ hd]
  unfold Oper.wp at h
  generalize (execOp a.eval o).run X.P w = r at h ⊢
  cases r with
  | ok v w' =>
    cases v with
    | value v => exact h
    | skip => exact h
    | defer d => exact h
    | enter f args => exact ⟨(fun h => by cases h), (callsIn_wide (n := n - 1)).2 h⟩
    | row row args => exact ⟨(fun h => by cases h), fun c cs _ => let ⟨v, w', r, s⟩ := h c cs; ⟨v, w', r, stepsIn_wide.2 s⟩⟩
    | _ => exact h.elim
  | halt x w' =>
    cases x <;> first | exact h | exact h.elim
theorem vc1_nodefer (h : vc1 E o s K) : ∀ c, o.op ≠ .defer c := by
  intro c hc
  obtain ⟨dst, op, ty, pos, after, guard⟩ := o
  obtain ⟨fr, hp, ks⟩ := s
  have hc : op = .defer c := hc
  subst hc
  simp [vc1, vcOp, pvP, pv] at h
/-- What a yield comes to, or as if there were none. -/
theorem vc1_yl (h : vc1 E o s K) : vc1 { E with yl := none } o s K ∨ ∃ c f l Y S off, o.op = .call c ∧ c.callee = .value f ∧ opn s.fr f = .fn (.yield l) [] [] ∧ E.yl = some (l, Y) ∧ s.ks = some (S, 0) ∧ okVs (c.args.toList.map (opn s.fr)) = true ∧
    Y S off s.hp (c.args.toList.map (opn s.fr)) (fun hp' ks' r => forceF (killAllF (getK ks') s.fr) fun fr => putF E.nt o.dst ⟨fr, hp', appY ks' s.ks⟩ r K) := by
  obtain ⟨dst, op, ty, pos, after, guard⟩ := o
  obtain ⟨fr, hp, ks⟩ := s
  cases op with
  | call c =>
    cases hcc : c.callee with
    | value f =>
      have h : vcOp E dst (.call c) fr hp ks K := h
      simp only [vcOp, hcc] at h
      have h : callV E dst fr hp ks c f K := h
      by_cases hv : ∃ l, opn fr f = .fn (.yield l) [] []
      · obtain ⟨l, hv⟩ := hv
        unfold callV at h
        rw [hv] at h
        simp only [offK_eq] at h
        cases hY : E.yl with
        | none => rw [hY] at h; exact h.elim
        | some y =>
          obtain ⟨l', Y⟩ := y
          rw [hY] at h
          obtain ⟨e, h'⟩ := eqP_out h
          subst e
          cases ks with
          | none => exact h'.elim
          | some k =>
            obtain ⟨S, p⟩ := k
            cases p with
            | succ p => exact h'.elim
            | zero =>
              obtain ⟨h1, h2⟩ := cond_elim h'
              exact .inr ⟨c, f, l, Y, S, _, rfl, hcc, hv, rfl, rfl, h1, h2⟩
      · refine .inl ?_
        show vcOp { E with yl := none } dst (.call c) fr hp ks K
        simp only [vcOp, hcc]
        show callV { E with yl := none } dst fr hp ks c f K
        unfold callV at h ⊢
        split at h
        · rename_i hv'; first | exact h | (rw [hv']; exact h)
        · rename_i l hv'; exact absurd ⟨l, hv'⟩ hv
        · exact h.elim
    | builtin b => refine .inl ?_; have h : vcOp E dst (.call c) fr hp ks K := h; show vcOp { E with yl := none } dst (.call c) fr hp ks K; simp only [vcOp, hcc] at h ⊢; cases b <;> exact h
    | invoke r m => refine .inl ?_; have h : vcOp E dst (.call c) fr hp ks K := h; show vcOp { E with yl := none } dst (.call c) fr hp ks K; simp only [vcOp, hcc] at h ⊢; exact h
  | _ => exact .inl h
theorem EnvC.noY (hE : EnvC E X.P) : EnvC { E with yl := none } X.P := ⟨⟨hE.t.tt, hE.t.et⟩, hE.fns, hE.prs, hE.its⟩
theorem vc1_in {ro : Option Nat} {n : Nat} (hE : EnvC E X.P) (hY : ∀ l Y, E.yl = some (l, Y) → YOk X l Y ∧ X.nm = true ∧ ro = none) (hq : ∀ c, EqLaw X c) (hn : E.nt = X.nt) (R : RR X ρ s a w) (h : vc1 E o s K) (hK : Hold X K next) : o.wpIn (FW ro) n X.P a w next Q := by
  rcases vc1_yl h with h' | ⟨c, f, l, Y, S, off, ho, hc, hf, hl, hks, hok, h'⟩
  · exact in_of_wp (vc1_nodefer h) (vc1_sound hE.noY rfl hq hn R h' hK)
  · obtain ⟨h1, h2, rfl⟩ := hY l Y hl
    refine ex_callY h1 h2 R ho hc hf hks hok h' fun ρ' hp' ks r z w' hD R' hv => ?_
    obtain ⟨s', k1, k2⟩ := putF_next hn ((forceF_eq _ _).mp hD) R' hv
    exact hK _ _ _ _ k1 k2

theorem ops_sound {ro : Option Nat} {n : Nat} (hE : EnvC E X.P) (hY : ∀ l Y, E.yl = some (l, Y) → YOk X l Y ∧ X.nm = true ∧ ro = none) (hq : ∀ c, EqLaw X c) (hn : E.nt = X.nt) {all : List Oper} : ∀ (rest : List Oper) (i : Nat) (s : St) (ρ : Nat → Nat) (a : Act) (w : World), all.drop i = rest → RR X ρ s a w → vcOps E all rest s K → Hold X K (Q .normal) →
    wpOpsIn (FW ro) n X.P all.toArray Q (List.range' i rest.length) a w
  | [], i, s, ρ, a, w, hd, R, h, hK => hK _ _ _ _ h R
  | o :: rest, i, s, ρ, a, w, hd, R, h, hK => by
    have hi : all[i]? = some o := by
      have := congrArg (fun l : List Oper => l[0]?) hd
      simpa using this
    have hd' : all.drop (i + 1) = rest := by
      have := congrArg List.tail hd
      simpa using this
    rw [List.length_cons, List.range'_succ]
    simp only [wpOpsIn, List.getElem?_toArray, hi]
    have step : ∀ s : St, vc1 E o s (fun s' => vcOps E all rest s' K) → ∀ (R : RR X ρ s a w), o.wpIn (FW ro) n X.P a w (wpOpsIn (FW ro) n X.P all.toArray Q (List.range' (i + 1) rest.length)) Q := fun s h R =>
      vc1_in hE hY hq hn R h fun ρ' s' a' w' k1 k2 => ops_sound hE hY hq hn rest (i + 1) s' ρ' a' w' hd' k2 k1 hK
    simp only [vcOps] at h
    split at h
    · rename_i hg
      have : Region.wanted o (yielded all.toArray a.tmps) = true := by unfold Region.wanted; rw [hg]
      rw [this, if_pos rfl]
      exact step _ h R
    · rename_i g want hg
      split at h
      · rename_i c hc
        obtain ⟨g1, g2⟩ := guard_cases hc hg R
        have skip : ∀ s1 : St, RR X ρ s1 a w → putF E.nt o.dst s1 .und (fun s' => vcOps E all rest s' K) → (∀ f, o.about X.P w a.eval = some f → (FW ro).fn f) ∧ wpOpsIn (FW ro) n X.P all.toArray Q (List.range' (i + 1) rest.length) (a.put o.dst undef) w := by
          intro s1 R1 h1
          obtain ⟨s', k1, k2⟩ := putF_next (z := undef) hn h1 R1 rfl
          exact ⟨fun _ _ => trivial, ops_sound hE hY hq hn rest (i + 1) s' ρ _ w hd' k2 k1 hK⟩
        split at h
        · rename_i t ht
          obtain ⟨e1, e2, e3⟩ := g1 t ht
          obtain ⟨hT, hF⟩ := br_and h
          cases t with
          | true =>
            have h := hT rfl
            rw [putF_eq] at h
            obtain ⟨_, h⟩ := h
            have R1 := R.alias (d := c) (v := .bool true) (by rw [e1]; exact mkVR_bool _)
            cases want with
            | true => rw [e2 rfl, if_pos rfl]; exact step (s.put (some c) (.bool true)) h R1
            | false => rw [e3 (by simp)]; exact skip _ R1 h
          | false =>
            have h := hF rfl
            rw [putF_eq] at h
            obtain ⟨_, h⟩ := h
            have R1 := R.alias (d := c) (v := .bool false) (by rw [e1]; exact mkVR_bool _)
            cases want with
            | true => rw [e3 (by simp)]; exact skip _ R1 h
            | false => rw [e2 rfl, if_pos rfl]; exact step (s.put (some c) (.bool false)) h R1
        · rename_i ht
          rw [g2 ht]; exact skip _ R h
        · exact h.elim
      · exact h.elim
end
end Go.Proofs.YtejedlpnejjnbaaV
