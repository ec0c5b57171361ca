/- The laws of claims. -/
import Derived.Test.YtoihmfgkmndjfaaMclaims
import Derived.Test.YtoihmfgkmndjfaaDL17
namespace Go.Proofs.YtoihmfgkmndjfaaV
set_option linter.unusedVariables false
set_option linter.unusedSimpArgs false
open Go.RowKit lists claims
theorem alive17 : L17_alive = some true := by decide +kernel
namespace L17
theorem join_len (c : Line) (p : Int) : (join c p).1.2.1.length ≤ c.2.1.length + 1 := by
  unfold join
  repeat' split
  all_goals simp
theorem leave_len (c : Line) (p : Int) : (leave c p).1.2.1.length ≤ c.2.1.length := by
  unfold leave
  split
  · simp; omega
  · simp
theorem same_self (c : Line) (h : c.2.1.length ≤ 1000000) : L17_same c c = some true := by
  unfold L17_same
  rw [same_eq _ _ (by omega)]
  simp
end L17
open L17
theorem law_L17_ClaimsTell : ∀ x : ((.pair (.pair .bool (.pair (.sl (.int .i64)) .unit)) (.pair (.int .i64) .unit)) : Ty).den, wfD (.pair (.pair .bool (.pair (.sl (.int .i64)) .unit)) (.pair (.int .i64) .unit)) x → L17_ClaimsTell x.1 x.2.1 = some true := by
  rintro ⟨c, p, _⟩ _
  show L17_ClaimsTell c p = some true
  unfold L17_ClaimsTell
  by_cases h : ((c.2.1 : List Int).length : Int) > 30
  · rw [bif_pos h, alive17]; rfl
  · have hl : (c.2.1 : List Int).length ≤ 1000000 := by omega
    rw [bif_neg h]
    simp only [join_eq _ _ hl, rjoin_eq _ _ hl, leave_eq _ _ hl, rleave_eq _ _ hl, head_eq _ hl, rhead_eq _ hl, ahead_eq _ _ hl, rahead_eq _ _ hl, fine_eq _ (show (c.2.1 : List Int).length ≤ 140737488355328 by omega), rfine_eq _ (show (c.2.1 : List Int).length ≤ 140737488355328 by omega), Option.bind_some, beq_self_eq_true, cond_true, decide_true]
    rw [same_self _ (by have := join_len c p; omega), same_self _ (by have := leave_len c p; omega), alive17]
    rfl
namespace L17
theorem okW_iff : ∀ (xs pre : List Int), okW pre xs = true ↔ (∀ x ∈ xs, 0 ≤ x ∧ x ≤ 15 ∧ x ∉ pre) ∧ xs.Nodup
  | [], pre => by simp [okW]
  | x :: xs, pre => by
    simp only [okW, Bool.and_eq_true, decide_eq_true_eq, okW_iff xs (pre ++ [x]), List.mem_append, List.mem_singleton, List.nodup_cons, List.mem_cons, forall_eq_or_imp, List.not_mem_nil, or_false]
    constructor
    · rintro ⟨h1, h2, h3⟩
      refine ⟨⟨h1, fun y hy => ⟨(h2 y hy).1, (h2 y hy).2.1, fun h => (h2 y hy).2.2 (.inl h)⟩⟩, fun hx => (h2 x hx).2.2 (.inr rfl), h3⟩
    · rintro ⟨⟨h1, h2⟩, h3, h4⟩
      refine ⟨h1, fun y hy => ⟨(h2 y hy).1, (h2 y hy).2.1, ?_⟩, h4⟩
      rintro (h | h)
      · exact (h2 y hy).2.2 h
      · subst h; exact h3 hy
theorem getD_set {xs : List Int} {i j : Nat} {v : Int} (hj : j < xs.length) : (xs.set j v).getD i 0 = if i = j then v else xs.getD i 0 := by
  rw [List.getD_eq_getElem?_getD, List.getD_eq_getElem?_getD, List.getElem?_set]
  by_cases h : j = i
  · subst h; simp [hj]
  · rw [if_neg h, if_neg (Ne.symm h)]
def at_ (came : List Int) (p : Int) : Int := came.getD p.toNat 0
structure Inv (who came : List Int) : Prop where
  rng : ∀ x ∈ who, 0 ≤ x ∧ x ≤ 15
  nod : who.Nodup
  len : came.length = 16
  pos : ∀ p, 0 ≤ p → p ≤ 15 → 0 ≤ at_ came p ∧ (0 < at_ came p ↔ p ∈ who)
  ord : who.Pairwise (fun a b => at_ came a < at_ came b)
theorem Inv.fine {who came : List Int} (h : Inv who came) : claims.fine (true, who, ()) = true := by
  unfold claims.fine
  simp only [Bool.true_or, Bool.and_true]
  exact (okW_iff who []).2 ⟨fun x hx => ⟨(h.rng x hx).1, (h.rng x hx).2, by simp⟩, h.nod⟩
theorem at_set {came : List Int} (hl : came.length = 16) {p q v : Int} (hp : 0 ≤ p) (hq : 0 ≤ q ∧ q ≤ 15) : at_ (came.set q.toNat v) p = if p = q then v else at_ came p := by
  unfold at_
  rw [getD_set (by omega)]
  by_cases h : p = q
  · subst h; rw [if_pos rfl, if_pos rfl]
  · rw [if_neg h, if_neg (by omega)]
theorem Inv.gone {a b came : List Int} {p : Int} (h : Inv (a ++ p :: b) came) : Inv (a ++ b) (came.set p.toNat 0) := by
  have hp := h.rng p (by simp)
  have hsub : (a ++ b).Sublist (a ++ p :: b) := List.Sublist.append (List.Sublist.refl _) (List.sublist_cons_self _ _)
  have hnp : p ∉ a ++ b := by
    have := h.nod
    rw [List.nodup_append] at this
    obtain ⟨_, h2, h3⟩ := this
    rw [List.nodup_cons] at h2
    intro hm
    rcases List.mem_append.1 hm with hm | hm
    · exact h3 p hm p List.mem_cons_self rfl
    · exact h2.1 hm
  refine ⟨fun x hx => h.rng x (hsub.subset hx), h.nod.sublist hsub, by simp [h.len], fun q q0 q1 => ?_, ?_⟩
  · rw [at_set h.len q0 hp]
    by_cases e : q = p
    · subst e; rw [if_pos rfl]
      exact ⟨Int.le_refl _, fun h => by omega, fun hm => absurd hm hnp⟩
    · rw [if_neg e]
      refine ⟨(h.pos q q0 q1).1, (h.pos q q0 q1).2.trans ?_⟩
      simp [e]
  · refine List.Pairwise.imp_of_mem ?_ (h.ord.sublist hsub)
    intro x y hx hy hxy
    rw [at_set h.len (h.rng x (hsub.subset hx)).1 hp, at_set h.len (h.rng y (hsub.subset hy)).1 hp, if_neg (show ¬ x = p from fun e => hnp (e ▸ hx)), if_neg (show ¬ y = p from fun e => hnp (e ▸ hy))]
    exact hxy
theorem Inv.same {who came : List Int} {p : Int} (h : Inv who came) (hp : 0 ≤ p ∧ p ≤ 15) (hn : p ∉ who) : Inv who (came.set p.toNat 0) := by
  have h0 : at_ came p = 0 := by
    have := h.pos p hp.1 hp.2
    have h2 : ¬ 0 < at_ came p := fun h => hn (this.2.1 h)
    omega
  have key : ∀ q, 0 ≤ q → at_ (came.set p.toNat 0) q = at_ came q := by
    intro q q0
    rw [at_set h.len q0 hp]
    split
    · rename_i e; rw [e, h0]
    · rfl
  refine ⟨h.rng, h.nod, by simp [h.len], fun q q0 q1 => by rw [key q q0]; exact h.pos q q0 q1, ?_⟩
  refine List.Pairwise.imp_of_mem ?_ h.ord
  intro x y hx hy hxy
  rw [key x (h.rng x hx).1, key y (h.rng y hy).1]
  exact hxy
theorem Inv.come {who came : List Int} {p i : Int} (h : Inv who came) (hp : 0 ≤ p ∧ p ≤ 15) (hn : p ∉ who) (hi : 0 ≤ i) (hb : ∀ q, 0 ≤ q → q ≤ 15 → at_ came q ≤ i) : Inv (who ++ [p]) (came.set p.toNat (i + 1)) := by
  refine ⟨fun x hx => ?_, ?_, by simp [h.len], fun q q0 q1 => ?_, ?_⟩
  · rcases List.mem_append.1 hx with hx | hx
    · exact h.rng x hx
    · rw [List.mem_singleton.1 hx]; exact hp
  · rw [List.nodup_append]
    refine ⟨h.nod, by simp, fun a ha b hb => ?_⟩
    rw [List.mem_singleton.1 hb]
    intro e; subst e; exact hn ha
  · rw [at_set h.len q0 hp]
    by_cases e : q = p
    · subst e; rw [if_pos rfl]; exact ⟨by omega, fun _ => by simp, fun _ => by omega⟩
    · rw [if_neg e]
      refine ⟨(h.pos q q0 q1).1, (h.pos q q0 q1).2.trans ?_⟩
      simp [e]
  · rw [List.pairwise_append]
    refine ⟨List.Pairwise.imp_of_mem ?_ h.ord, by simp, fun a ha b hb' => ?_⟩
    · intro x y hx hy hxy
      rw [at_set h.len (h.rng x hx).1 hp, at_set h.len (h.rng y hy).1 hp, if_neg (show ¬ x = p from fun e => hn (e ▸ hx)), if_neg (show ¬ y = p from fun e => hn (e ▸ hy))]
      exact hxy
    · rw [List.mem_singleton.1 hb', at_set h.len (h.rng a ha).1 hp, at_set h.len hp.1 hp, if_neg (show ¬ a = p from fun e => hn (e ▸ ha)), if_pos rfl]
      have := hb a (h.rng a ha).1 (h.rng a ha).2
      omega
theorem leave_in {who came : List Int} {p : Int} (h : Inv who came) (hm : p ∈ who) : ∃ a b, who = a ++ p :: b ∧ leave (true, who, ()) p = ((true, a ++ b, ()), true, ()) := by
  obtain ⟨a, b, h1, h2, h3⟩ := ixf_split hm 0
  refine ⟨a, b, h1, ?_⟩
  unfold leave
  rw [if_pos ⟨h.fine, hm⟩]
  simp only [h3]
  rw [show (0 + (a.length : Int)).toNat = a.length by omega]
  congr 3
  rw [h1, List.take_left', List.drop_append]
  · simp
  · rfl
theorem leave_out {who : List Int} {p : Int} (hm : p ∉ who) : leave (true, who, ()) p = ((true, who, ()), false, ()) := by
  unfold leave
  rw [if_neg (fun h => hm h.2)]
theorem join_in {who came : List Int} {p : Int} (h : Inv who came) (hp : 0 ≤ p ∧ p ≤ 15) (hm : p ∈ who) : join (true, who, ()) p = ((true, who, ()), 7, ()) := by
  unfold join
  rw [if_neg (by rw [h.fine]; simp), if_neg (not_not_intro hp), if_pos hm]
theorem join_out {who came : List Int} {p : Int} (h : Inv who came) (hp : 0 ≤ p ∧ p ≤ 15) (hm : p ∉ who) : join (true, who, ()) p = ((true, who ++ [p], ()), 0, ()) := by
  unfold join
  rw [if_neg (by rw [h.fine]; simp), if_neg (not_not_intro hp), if_neg hm, if_neg (by simp)]
theorem end_ {came : List Int} (h : Inv [] came) : came = List.replicate 16 0 := by
  refine List.ext_getElem (by simp [h.len]) fun i h1 h2 => ?_
  have h3 := h.pos i (by omega) (by have := h.len; omega)
  have h4 : ¬ 0 < at_ came i := fun h => by have := h3.2.1 h; simp at this
  have h5 : at_ came i = came[i] := by
    unfold at_
    rw [Int.toNat_natCast, List.getD_eq_getElem?_getD, List.getElem?_eq_getElem h1]; rfl
  rw [List.getElem_replicate]
  omega
theorem second (last : Int) (who came : List Int) (h0 : 0 ≤ last) (h : Inv who came) (hl : ∀ x ∈ who, last < at_ came x) (hn : who.length ≤ 60) : loop L17_ClaimsServe_L1 (last, true, who, came) = some true := by
  refine loop_by (fun x : Int × Bool × List Int × List Int => 0 ≤ x.1 ∧ x.2.1 = true ∧ Inv x.2.2.1 x.2.2.2 ∧ (∀ y ∈ x.2.2.1, x.1 < at_ x.2.2.2 y) ∧ x.2.2.1.length ≤ 60) (fun x => x.2.2.1.length) (fun _ => some true) ⟨h0, rfl, h, hl, hn⟩ (by simp only; omega) ?_
  rintro k ⟨last, sh, who, came⟩ ⟨h0, hs, h, hl, hn⟩ hk
  simp only at h0 hs h hl hn
  subst hs
  unfold L17_ClaimsServe_L1
  simp only
  rw [head_eq _ (show who.length ≤ 1000000 by omega)]
  simp only [Option.bind_some]
  cases who with
  | nil =>
    have : head (true, ([] : List Int), ()) = (0, false, ()) := by unfold head; rw [if_neg (fun h => h.2 rfl)]
    rw [this]
    simp only [Bool.not_false, cond_true]
    unfold L17_ClaimsServe_J1
    rw [bif_pos (end_ h), alive17]; rfl
  | cons p t =>
    have hp := h.rng p List.mem_cons_self
    have : head (true, p :: t, ()) = (p, true, ()) := by unfold head; rw [if_pos ⟨h.fine, by simp⟩]; rfl
    rw [this]
    simp only [Bool.not_true, cond_false]
    have hlt : last < at_ came p := hl p List.mem_cons_self
    rw [bif_neg (by omega), bif_neg (by omega), chk_pos ⟨hp.1, by omega⟩, bif_neg (show ¬ came.getD p.toNat 0 ≤ last from fun h => by have : at_ came p ≤ last := h; omega), chk_pos ⟨hp.1, by omega⟩, chk_pos ⟨hp.1, by omega⟩, leave_eq _ _ (show (p :: t).length ≤ 1000000 by omega)]
    have hlv : leave (true, p :: t, ()) p = ((true, t, ()), true, ()) := by
      unfold leave
      rw [if_pos ⟨h.fine, List.mem_cons_self⟩]
      simp [ixf]
    rw [hlv]
    simp only [Option.bind_some]
    have hg : Inv t (came.set p.toNat 0) := Inv.gone (a := []) h
    refine hk _ ⟨by simp only; show 0 ≤ at_ came p; omega, rfl, hg, fun y hy => ?_, by simp at hn ⊢; omega⟩ (by simp)
    show at_ came p < at_ (came.set p.toNat 0) y
    have hy0 := h.rng y (List.mem_cons_of_mem _ hy)
    have hne : y ≠ p := fun e => by
      have := h.nod
      rw [List.nodup_cons] at this
      exact this.1 (e ▸ hy)
    rw [at_set h.len hy0.1 hp, if_neg hne]
    exact (List.pairwise_cons.1 h.ord).1 y hy
theorem serve_all (l : List (List Int)) (hw : ∀ i j, 0 ≤ (l.getD i (List.replicate 2 0)).getD j 0 ∧ (l.getD i (List.replicate 2 0)).getD j 0 ≤ 255) : L17_ClaimsServe l = some true := by
  unfold L17_ClaimsServe
  by_cases h60 : (l.length : Int) > 60
  · rw [bif_pos h60, alive17]; rfl
  rw [bif_neg h60]
  have h00 : Inv [] (List.replicate 16 0) := by
    refine ⟨fun x hx => (by cases hx), List.nodup_nil, by simp, fun p p0 p1 => ?_, List.Pairwise.nil⟩
    have : at_ (List.replicate 16 0) p = 0 := by
      unfold at_
      rw [List.getD_eq_getElem?_getD, List.getElem?_replicate]
      split <;> rfl
    rw [this]; simp
  refine loop_up (fun x => x.1) l.length (fun x : Int × Bool × List Int × List Int => 0 ≤ x.1 ∧ x.2.1 = true ∧ Inv x.2.2.1 x.2.2.2 ∧ (∀ q, 0 ≤ q → q ≤ 15 → at_ x.2.2.2 q ≤ x.1) ∧ x.2.2.1.length ≤ x.1 ∧ x.1 ≤ l.length) (fun _ => some true) ⟨by simp, rfl, h00, fun q q0 q1 => ?_, by simp, by simp⟩ (by simp; omega) ?_
  · simp only
    have := h00.pos q q0 q1
    have h2 : ¬ 0 < at_ (List.replicate 16 0) q := fun h => by have := this.2.1 h; simp at this
    omega
  rintro k ⟨i, sh, who, came⟩ ⟨i0, hs, h, hb, hn, hn2⟩ hk
  simp only at i0 hs h hb hn hn2
  subst hs
  unfold L17_ClaimsServe_L2
  simp only
  by_cases hi : i < (l.length : Int)
  · have hk := hk hi
    have w0 := hw i.toNat (0 : Int).toNat
    have w1 := hw i.toNat (1 : Int).toNat
    rw [bif_pos hi, chk_at i0 hi, chk_pos (by omega), chk_pos (by omega), letv_eq]
    generalize (l.getD i.toNat (List.replicate 2 0)).getD (0 : Int).toNat 0 = x0 at w0
    generalize (l.getD i.toNat (List.replicate 2 0)).getD (1 : Int).toNat 0 = x1 at w1
    rw [chk_pos (by omega), chk_pos (by omega), Int.tmod_eq_emod_of_nonneg w0.1, w64 (x := x0 % 16) (by omega) (by omega), w64 (x := i + 1) (by omega) (by omega)]
    obtain ⟨p, hp⟩ : ∃ p, p = x0 % 16 := ⟨_, rfl⟩
    rw [← hp]
    have hp1 : 0 ≤ p ∧ p ≤ 15 := by omega
    have hpos := h.pos p hp1.1 hp1.2
    rw [leave_eq _ _ (show who.length ≤ 1000000 by omega), join_eq _ _ (show who.length ≤ 1000000 by omega)]
    simp only [Option.bind_some]
    rw [show came.getD p.toNat 0 = at_ came p from rfl]
    by_cases hx : Int.tmod x1 3 = 0
    · rw [bif_pos hx, chk_pos ⟨hp1.1, by omega⟩, chk_pos ⟨hp1.1, by omega⟩]
      by_cases hm : p ∈ who
      · obtain ⟨a, b, e1, e2⟩ := leave_in h hm
        rw [e2]
        simp only
        rw [decide_eq_true (hpos.2.2 hm)]
        simp only [beq_self_eq_true, Bool.not_true, cond_false]
        subst e1
        refine hk _ ⟨by simp only; omega, rfl, h.gone, fun q q0 q1 => ?_, by simp at hn ⊢; omega, by simp only; omega⟩ rfl
        try simp only
        rw [at_set h.len q0 hp1]
        have := hb q q0 q1
        split <;> omega
      · rw [leave_out hm]
        simp only
        rw [decide_eq_false (fun h => hm (hpos.2.1 h))]
        simp only [beq_self_eq_true, Bool.not_true, cond_false]
        refine hk _ ⟨by simp only; omega, rfl, h.same hp1 hm, fun q q0 q1 => ?_, by simp only; omega, by simp only; omega⟩ rfl
        try simp only
        rw [at_set h.len q0 hp1]
        have := hb q q0 q1
        split <;> omega
    · rw [bif_neg hx, chk_pos ⟨hp1.1, by omega⟩]
      by_cases hm : p ∈ who
      · rw [join_in h hp1 hm]
        have := hpos.2.2 hm
        simp only
        rw [decide_eq_false (p := at_ came p = 0) (by omega)]
        simp only [show decide ((7 : Int) = 0) = false from rfl, beq_self_eq_true, Bool.not_true, cond_false]
        exact hk _ ⟨by simp only; omega, rfl, h, fun q q0 q1 => by simp only; have := hb q q0 q1; omega, by simp only; omega, by simp only; omega⟩ rfl
      · rw [join_out h hp1 hm]
        have h2 : ¬ 0 < at_ came p := fun h => hm (hpos.2.1 h)
        simp only
        rw [decide_eq_true (p := at_ came p = 0) (by omega), chk_pos ⟨hp1.1, by omega⟩]
        show k (i + 1, true, who ++ [p], came.set p.toNat (i + 1)) = some true
        refine hk _ ⟨by simp only; omega, rfl, h.come hp1 hm i0 hb, fun q q0 q1 => ?_, by simp; omega, by simp only; omega⟩ rfl
        try simp only
        rw [at_set h.len q0 hp1]
        have := hb q q0 q1
        split <;> omega
  · rw [bif_neg hi]
    unfold L17_ClaimsServe_J2
    refine second 0 who came (Int.le_refl _) h (fun x hx => ?_) (by omega)
    have := h.rng x hx
    exact (h.pos x this.1 this.2).2.2 hx
end L17
theorem law_L17_ClaimsServe : ∀ x : ((.pair (.sl (.arr 2 (.int .u8))) .unit) : Ty).den, wfD (.pair (.sl (.arr 2 (.int .u8))) .unit) x → L17_ClaimsServe x.1 = some true := by
  rintro ⟨l, _⟩ ⟨hl, _⟩
  refine serve_all l fun i j => ?_
  by_cases hi : i < (l : List (List Int)).length
  · have h1 : wfD (.arr 2 (.int .u8)) ((l : List (List Int)).getD i (List.replicate 2 0)) := by
      refine hl.2 _ ?_
      rw [List.getD_eq_getElem?_getD, List.getElem?_eq_getElem hi]; exact List.getElem_mem _
    exact u8_at h1 j
  · have : (l : List (List Int)).getD i (List.replicate 2 0) = List.replicate 2 0 := by
      rw [List.getD_eq_getElem?_getD, List.getElem?_eq_none (by omega)]; rfl
    rw [this, List.getD_eq_getElem?_getD, List.getElem?_replicate]
    split <;> simp
end Go.Proofs.YtoihmfgkmndjfaaV
