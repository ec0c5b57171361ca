/- ProcOnce: whoever comes and goes: no handle is given twice, and who is there is found. -/
import Derived.Test.YtejedlpnejjnbaaSMprocs
import Derived.Test.YtejedlpnejjnbaaSDProcOnce
namespace Go.Proofs.YtejedlpnejjnbaaSV
set_option linter.unusedVariables false
set_option linter.unusedSimpArgs false
open Go.RowKit
namespace PR
theorem loop_q {X R : Type} {F : (X → Option R) → X → Option R} (idx : X → Int) (n : Int) (inv : X → Prop) (Q : Option R → Prop) {x : X} (hx : inv x) (hn : n - idx x < 1152921504606846976)
    (h : ∀ k x, inv x → (idx x < n → ∀ y, inv y → idx y = idx x + 1 → Q (k y)) → Q (F k x)) : Q (loop F x) := by
  have key : ∀ m x, inv x → (n - idx x).toNat < m → Q (fixN F m x) := by
    intro m
    induction m with
    | zero => intro x _ h; omega
    | succ m ih => intro x hi hm; exact h _ x hi fun hl y hy he => ih y hy (by omega)
  unfold loop
  exact key FUEL x hx (by rw [FUEL_eq]; omega)
theorem getD_set {α : Type} (l : List α) (k i : Nat) (x d : α) : (l.set k x).getD i d = if i = k ∧ k < l.length then x else l.getD i d := by
  simp only [List.getD_eq_getElem?_getD, List.getElem?_set]
  by_cases e : k = i
  · subst e
    by_cases h : k < l.length
    · simp [h]
    · simp [h]
  · rw [if_neg e, if_neg (fun h => e h.1.symm)]
def live (x : P) : Bool := x.2.1
theorem sel_count {q : P → Bool} : ∀ {l : List P} {j : Int}, (sel q j l).length = l.countP q
  | [], j => by simp [sel]
  | y :: l, j => by
    rw [sel, List.length_append, sel_count (l := l), List.countP_cons]
    cases q y <;> simp <;> omega
theorem at_mem {t : List P} {x : P} (h : x ∈ t) : ∃ p : Int, 0 ≤ p ∧ p < (t.length : Int) ∧ t.getD p.toNat p0 = x := by
  obtain ⟨n, hn, e⟩ := List.mem_iff_getElem.1 h
  refine ⟨(n : Int), by omega, by omega, ?_⟩
  rw [Int.toNat_natCast, List.getD_eq_getElem?_getD, List.getElem?_eq_getElem hn, ← e]; rfl
theorem cnt_set : ∀ {l : List P} {n : Nat} (x : P) (h : n < l.length), (l.set n x).countP live + cond (live (l.getD n p0)) 1 0 = l.countP live + cond (live x) 1 0
  | [], n, x, h => by simp at h
  | y :: l, 0, x, h => by
    show (x :: l).countP live + cond (live y) 1 0 = (y :: l).countP live + cond (live x) 1 0
    rw [List.countP_cons, List.countP_cons]
    cases live x <;> cases live y <;> simp <;> omega
  | y :: l, n + 1, x, h => by
    have ih := cnt_set (l := l) (n := n) x (by simpa using h)
    show (y :: l.set n x).countP live + cond (live (l.getD n p0)) 1 0 = (y :: l).countP live + cond (live x) 1 0
    rw [List.countP_cons, List.countP_cons]
    omega
structure Inv (t : List P) (i : Int) (given op : List Int) : Prop where
  wf : WfP t
  fine : fineOk t = true
  runs : ∀ p : Int, 0 ≤ p → p < 16 → live (t.getD p.toNat p0) = true → (t.getD p.toNat p0).2.2.2.2.1 = 0
  gen : ∀ p : Int, 0 ≤ p → p < 16 → (t.getD p.toNat p0).1 ≤ i
  cnt : t.countP live = op.length
  nd : op.Nodup
  op_ : ∀ x ∈ op, ∃ p : Int, 0 ≤ p ∧ p < 16 ∧ live (t.getD p.toNat p0) = true ∧ x = (t.getD p.toNat p0).1 * 4096 + p
  gv : ∀ x ∈ given, ∃ p g : Int, 0 ≤ p ∧ p < 16 ∧ g ≤ (t.getD p.toNat p0).1 ∧ x = g * 4096 + p
  gl : (given.length : Int) ≤ i
theorem Inv.ol {t : List P} {i : Int} {given op : List Int} (h : Inv t i given op) : op.length ≤ 16 := by
  have := fine_len h.fine
  have h2 := List.countP_le_length (p := live) (l := t)
  rw [h.cnt] at h2
  omega
theorem hd_live {t : List P} (hf : fineOk t = true) {p : Int} (h0 : 0 ≤ p) (h1 : p < 16) (hl : live (t.getD p.toNat p0) = true) : hd t p = (t.getD p.toNat p0).1 * 4096 + p := by
  have hlen := fine_len hf
  have hl : (t.getD p.toNat p0).2.1 = true := hl
  unfold hd there
  rw [hf, decide_eq_true (by omega : p ≥ 0), decide_eq_true (by omega : p < (t.length : Int)), hl]; rfl
theorem slot_of {g p : Int} (g0 : 0 < g) (g1 : g ≤ 65535) (h0 : 0 ≤ p) (h1 : p < 16) : slot (g * 4096 + p) = p := by
  unfold slot
  rw [decide_eq_true (by omega), decide_eq_true (by omega)]
  show (g * 4096 + p) % 4096 = p
  omega
theorem fd_live {t : List P} (hf : fineOk t = true) {p : Int} (h0 : 0 ≤ p) (h1 : p < 16) (hl : live (t.getD p.toNat p0) = true) : fd t ((t.getD p.toNat p0).1 * 4096 + p) = (p, 0, ()) := by
  have hg := one_live (fine_at hf h0 h1) hl
  unfold fd
  rw [hf, slot_of hg.1 hg.2.1 h0 h1, hd_live hf h0 h1 hl]
  show cond (decide (p < 0)) _ _ = _
  rw [bif_neg (by omega), bif_neg (by omega), bnot_pos rfl]
theorem Inv.find {t : List P} {i : Int} {given op : List Int} (h : Inv t i given op) {x : Int} (hx : x ∈ op) : ∃ p : Int, 0 ≤ p ∧ p < 16 ∧ live (t.getD p.toNat p0) = true ∧ x = (t.getD p.toNat p0).1 * 4096 + p ∧ proc_Find t x = some (p, 0, ()) ∧ proc_Handle t p = some x := by
  obtain ⟨p, h0, h1, hl, e⟩ := h.op_ x hx
  refine ⟨p, h0, h1, hl, e, ?_, ?_⟩
  · rw [Find_eq t h.wf, e, fd_live h.fine h0 h1 hl]
  · rw [Handle_eq t h.wf, hd_live h.fine h0 h1 hl, e]
theorem Inv.hand {t : List P} {i : Int} {given op : List Int} (h : Inv t i given op) : ∃ l, proc_Handles t = some l ∧ l.length = op.length := by
  refine ⟨_, Handles_eq t h.wf, ?_⟩
  have hlen := fine_len h.fine
  unfold hdL
  rw [h.fine]
  show ((sel onQ 0 t).map (hd t)).length = _
  rw [List.length_map, sel_count, ← h.cnt]
  refine List.countP_congr fun x hx => ?_
  obtain ⟨p, h0, h1, e⟩ := at_mem hx
  have hr := h.runs p h0 (by omega)
  rw [e] at hr
  unfold onQ
  unfold live at hr ⊢
  cases hb : x.2.1 with
  | false => simp
  | true => rw [hr hb]; simp
/-- All that are there are found. -/
theorem found {t : List P} {i : Int} {given op : List Int} (h : Inv t i given op) (F : (Int → Option Bool) → Int → Option Bool) (E : Option Bool)
    (hF : ∀ k x, F k x = cond (decide (x < (op.length : Int))) (chk (0 ≤ x ∧ x < (op.length : Int)) (Option.bind (proc_Find t (op.getD x.toNat 0)) fun r => cond (!decide (r.2.1 = 0)) (some false) (Option.bind (proc_Handle t r.1) fun r7 => cond (!decide (r7 = (op.getD x.toNat 0))) (some false) (k (IntKind.i64.wrap (x + 1)))))) E) : loop F 0 = E := by
  have hl := h.ol
  refine loop_up (fun x => x) (op.length : Int) (fun x => 0 ≤ x) (fun _ => E) (Int.le_refl 0) (by omega) ?_
  intro k x h0 hk
  rw [hF]
  by_cases hx : x < (op.length : Int)
  · obtain ⟨p, _, _, _, _, e1, e2⟩ := h.find (getD_mem (d := 0) h0 hx)
    rw [bif_pos hx, chk_at h0 hx, e1]
    refine bind_t ?_
    rw [bnot_pos rfl, e2]
    refine bind_t ?_
    rw [bnot_pos rfl, w64 (by omega) (by omega)]
    exact hk hx _ (by omega) rfl
  · rw [bif_neg hx]
theorem spw_cases (t : List P) (pr a : Int) : ∀ (l : List P) (j : Int), 0 ≤ j → ((∀ x ∈ l, live x = true ∨ x.1 = 65535) ∧ spw t pr a j l = (t, 0, 10, ())) ∨ ∃ n : Nat, n < l.length ∧ live (l.getD n p0) = false ∧ (l.getD n p0).1 ≠ 65535 ∧ spw t pr a j l = (t.set (j + n).toNat ((l.getD n p0).1 + 1, true, pr, newF a, 0, 0, 0, [], ()), ((l.getD n p0).1 + 1) * 4096 + (j + n), 0, ())
  | [], j, _ => .inl ⟨(fun x h => by cases h), rfl⟩
  | x :: l, j, hj => by
    rw [spw]
    by_cases hx : (x.2.1 || decide (x.1 = 65535)) = true
    · rw [hx]
      have hx2 : live x = true ∨ x.1 = 65535 := by
        rcases Bool.or_eq_true _ _ ▸ hx with h | h
        · exact .inl h
        · exact .inr (of_decide_eq_true h)
      rcases spw_cases t pr a l (j + 1) (by omega) with ⟨h1, h2⟩ | ⟨n, h1, h2, h3, h4⟩
      · refine .inl ⟨fun y hy => ?_, h2⟩
        rcases List.mem_cons.1 hy with e | e
        · subst e; exact hx2
        · exact h1 y e
      · refine .inr ⟨n + 1, by simpa using h1, h2, h3, ?_⟩
        show spw t pr a (j + 1) l = _
        rw [h4, show j + 1 + (n : Int) = j + ((n + 1 : Nat) : Int) by omega]; rfl
    · rw [Bool.eq_false_iff.2 hx]
      refine .inr ⟨0, by simp, ?_, ?_, ?_⟩
      · show x.2.1 = false
        cases hb : x.2.1 with
        | false => rfl
        | true => rw [hb] at hx; exact absurd rfl hx
      · show x.1 ≠ 65535
        intro e
        rw [decide_eq_true e, Bool.or_true] at hx
        exact hx rfl
      · show (t.set j.toNat (x.1 + 1, true, pr, newF a, 0, 0, 0, [], ()), (x.1 + 1) * 4096 + j, 0, ()) = _
        rw [show j + ((0 : Nat) : Int) = j by omega]; rfl
theorem wf_set {t : List P} (h : WfP t) (n : Nat) {x : P} (hx : WfF x.2.2.2.1) (hg : x.2.2.2.2.2.2.2.1.length ≤ 140737488355328) : WfP (t.set n x) := by
  refine ⟨by rw [List.length_set]; exact h.1, fun y hy => ?_⟩
  rcases List.mem_or_eq_of_mem_set hy with e | e
  · exact h.2 y e
  · subst e; exact ⟨hx, hg⟩
theorem fine_set {t : List P} (h : fineOk t = true) (n : Nat) {x : P} (hx : oneOk x = true) : fineOk (t.set n x) = true := by
  have hl := fine_len h
  unfold fineOk at h ⊢
  rw [Bool.and_eq_true] at h ⊢
  refine ⟨List.all_eq_true.2 fun y hy => ?_, by rw [List.length_set]; exact h.2⟩
  rcases List.mem_or_eq_of_mem_set hy with e | e
  · exact List.all_eq_true.1 h.1 y e
  · subst e; exact hx
theorem newF_wf (a : Int) : WfF (newF a) := ⟨by simp [newF], by simp [newF], by simp [newF]⟩
theorem ffOk_new {a : Int} (h : wordOk a = true) : ffOk (newF a) = true := by
  unfold ffOk newF
  show (placeOk 0 && (decide ((0 : Int) ≤ 0) && (decide ((0 : Int) ≤ 8) && ([a, 0, 0, 0, 0, 0, 0, 0].all wordOk && ((List.replicate 16 0).all wordOk && (((List.replicate 8 (0 : Int)).take (0 : Int).toNat).all placeOk && ((List.replicate 8 (0 : Int)).drop (0 : Int).toNat).all zeroOk)))))) = true
  have e : [a, 0, 0, 0, 0, 0, 0, 0].all wordOk = wordOk a := by
    show (wordOk a && (wordOk 0 && (wordOk 0 && (wordOk 0 && (wordOk 0 && (wordOk 0 && (wordOk 0 && (wordOk 0 && true)))))))) = wordOk a
    rw [show wordOk 0 = true by decide]
    simp
  rw [e, h]
  decide
theorem one_new {g pr a : Int} (h0 : 0 < g) (h1 : g ≤ 65535) (h : wordOk a = true) : oneOk (g, true, pr, newF a, 0, 0, 0, [], ()) = true := by
  unfold oneOk
  show (decide (0 ≤ g) && (decide (g ≤ 65535) && (decide (g > 0) && (decide ((0 : Int) ≥ 0) && (decide ((0 : Int) ≤ 3) && (ffOk (newF a) && (decide ((0 : Int) = 1) == decide (((([] : List GD)).length : Int) > 0)))))))) = true
  rw [decide_eq_true (by omega), decide_eq_true h1, decide_eq_true (by omega), ffOk_new h]
  decide
/-- One more. -/
theorem Inv.spawn {t : List P} {i : Int} {given op : List Int} (h : Inv t i given op) (h0 : 0 ≤ i) (h80 : i < 80) :
    (op.length = 16 ∧ spawnL t 0 i = (t, 0, 10, ())) ∨ ∃ t' x, op.length < 16 ∧ spawnL t 0 i = (t', x, 0, ()) ∧ x ∉ given ∧ Inv t' (i + 1) (given ++ [x]) (op ++ [x]) := by
  have hw : wordOk i = true := by unfold wordOk; rw [decide_eq_true (by omega), decide_eq_true (by omega)]; rfl
  have hlen := fine_len h.fine
  have e : spawnL t 0 i = spw t 0 i 0 t := by unfold spawnL; rw [h.fine, hw]; rfl
  rw [e]
  have hcl := List.countP_le_length (p := live) (l := t)
  rcases spw_cases t 0 i t 0 (Int.le_refl 0) with ⟨h1, h2⟩ | ⟨n, h1, h2, h3, h4⟩
  · refine .inl ⟨?_, h2⟩
    have : t.countP live = t.length := List.countP_eq_length.2 fun x hx => by
      obtain ⟨p, p0_, p1, ep⟩ := at_mem hx
      have hg := h.gen p p0_ (by omega)
      rw [ep] at hg
      rcases h1 x hx with a | a
      · exact a
      · omega
    rw [h.cnt] at this
    omega
  · rw [show (0 : Int) + (n : Int) = (n : Int) by omega, Int.toNat_natCast] at h4
    have hn : n < 16 := by omega
    have hone := fine_at h.fine (p := (n : Int)) (by omega) (by omega)
    have hgen := h.gen (n : Int) (by omega) (by omega)
    rw [Int.toNat_natCast] at hone hgen
    have hg := one_gen hone
    generalize hgd : (t.getD n p0).1 = g at *
    generalize hnew : ((g + 1, true, 0, newF i, 0, 0, 0, [], ()) : P) = x at *
    have hlx : live x = true := by rw [← hnew]; rfl
    have hx1 : x.1 = g + 1 := by rw [← hnew]
    have hx5 : x.2.2.2.2.1 = 0 := by rw [← hnew]
    have hc := cnt_set x h1
    rw [h2, hlx] at hc
    have hc : (t.set n x).countP live = t.countP live + 1 := hc
    have hat : ∀ p : Int, 0 ≤ p → p < 16 → (t.set n x).getD p.toNat p0 = if p = (n : Int) then x else t.getD p.toNat p0 := by
      intro p p0_ p1
      rw [getD_set]
      by_cases e : p = (n : Int)
      · rw [if_pos ⟨by omega, h1⟩, if_pos e]
      · rw [if_neg (by omega), if_neg e]
    have hmono : ∀ p : Int, 0 ≤ p → p < 16 → (t.getD p.toNat p0).1 ≤ ((t.set n x).getD p.toNat p0).1 := by
      intro p p0_ p1
      rw [hat p p0_ p1]
      by_cases e : p = (n : Int)
      · rw [if_pos e, hx1, e, Int.toNat_natCast, hgd]; omega
      · rw [if_neg e]; exact Int.le_refl _
    have hnot : ∀ p g' : Int, 0 ≤ p → p < 16 → g' ≤ (t.getD p.toNat p0).1 → (g + 1) * 4096 + (n : Int) ≠ g' * 4096 + p := by
      intro p g' p0_ p1 hg' he
      have : p = (n : Int) := by omega
      subst this
      rw [Int.toNat_natCast, hgd] at hg'
      omega
    have hgv : (g + 1) * 4096 + (n : Int) ∉ given := fun hm => by
      obtain ⟨p, g', p0_, p1, hg', he⟩ := h.gv _ hm
      exact hnot p g' p0_ p1 hg' he
    have hop : (g + 1) * 4096 + (n : Int) ∉ op := fun hm => by
      obtain ⟨p, p0_, p1, hl, he⟩ := h.op_ _ hm
      exact hnot p _ p0_ p1 (Int.le_refl _) he
    refine .inr ⟨_, _, ?_, h4, hgv, ?_⟩
    · have hcl2 := List.countP_le_length (p := live) (l := t.set n x)
      rw [List.length_set, hc, h.cnt] at hcl2
      omega
    · refine ⟨wf_set h.wf n (by rw [← hnew]; exact newF_wf i) (by rw [← hnew]; exact Nat.zero_le _), fine_set h.fine n (by rw [← hnew]; exact one_new (by omega) (by omega) hw), fun p p0_ p1 hl => ?_, fun p p0_ p1 => ?_, by rw [hc, h.cnt, List.length_append, List.length_singleton], ?_, fun y hy => ?_, fun y hy => ?_, by have := h.gl; rw [List.length_append, List.length_singleton]; omega⟩
      · rw [hat p p0_ p1] at hl ⊢
        by_cases e : p = (n : Int)
        · rw [if_pos e]; exact hx5
        · rw [if_neg e] at hl ⊢; exact h.runs p p0_ p1 hl
      · rw [hat p p0_ p1]
        by_cases e : p = (n : Int)
        · rw [if_pos e, hx1]; omega
        · rw [if_neg e]; have := h.gen p p0_ p1; omega
      · rw [List.nodup_append]
        refine ⟨h.nd, List.nodup_cons.2 ⟨by simp, List.nodup_nil⟩, fun a ha b hb => ?_⟩
        rw [List.mem_singleton.1 hb]
        intro e
        rw [e] at ha
        exact hop ha
      · rcases List.mem_append.1 hy with hy | hy
        · obtain ⟨p, p0_, p1, hl, he⟩ := h.op_ y hy
          refine ⟨p, p0_, p1, ?_⟩
          rw [hat p p0_ p1]
          by_cases e : p = (n : Int)
          · rw [e, Int.toNat_natCast] at hl; rw [h2] at hl; cases hl
          · rw [if_neg e]; exact ⟨hl, he⟩
        · refine ⟨(n : Int), by omega, by omega, ?_⟩
          rw [hat (n : Int) (by omega) (by omega), if_pos rfl]
          exact ⟨hlx, by rw [hx1]; exact List.mem_singleton.1 hy⟩
      · rcases List.mem_append.1 hy with hy | hy
        · obtain ⟨p, g', p0_, p1, hg', he⟩ := h.gv y hy
          exact ⟨p, g', p0_, p1, Int.le_trans hg' (hmono p p0_ p1), he⟩
        · refine ⟨(n : Int), g + 1, by omega, by omega, ?_, List.mem_singleton.1 hy⟩
          rw [hat (n : Int) (by omega) (by omega), if_pos rfl, hx1]
          exact Int.le_refl _
theorem one_end {x : P} {how : Int} (h : oneOk x = true) (hl : x.2.1 = true) (hm : x.2.2.2.2.1 = 0) : oneOk (x.1, x.2.1, x.2.2.1, x.2.2.2.1, 3, how, x.2.2.2.2.2.2.1, x.2.2.2.2.2.2.2.1, ()) = true := by
  unfold oneOk at h ⊢
  dsimp only
  rw [hl] at h ⊢
  simp only [cond_true, Bool.and_eq_true, decide_eq_true_eq] at h ⊢
  obtain ⟨h1, h2, h3, h4, h5, h6, h7⟩ := h
  rw [hm, decide_eq_false (by decide : ¬ (0 : Int) = 1)] at h7
  refine ⟨h1, h2, h3, by decide, by decide, h6, ?_⟩
  rw [decide_eq_false (by decide : ¬ (3 : Int) = 1)]
  exact h7
theorem one_free {g : Int} (h0 : 0 ≤ g) (h1 : g ≤ 65535) : oneOk (g, false, 0, (0, false, (List.replicate 8 0), (List.replicate 16 0), 0, (List.replicate 8 0), ()), 0, 0, 0, [], ()) = true := by
  unfold oneOk
  show (decide (0 ≤ g) && (decide (g ≤ 65535) && bareOk (g, false, 0, (0, false, (List.replicate 8 0), (List.replicate 16 0), 0, (List.replicate 8 0), ()), 0, 0, 0, [], ()))) = true
  rw [decide_eq_true h0, decide_eq_true h1]
  have e : bareOk (g, false, 0, (0, false, (List.replicate 8 0), (List.replicate 16 0), 0, (List.replicate 8 0), ()), 0, 0, 0, [], ()) = bareOk (0, false, 0, (0, false, (List.replicate 8 0), (List.replicate 16 0), 0, (List.replicate 8 0), ()), 0, 0, 0, [], ()) := rfl
  rw [e]
  decide
theorem nodup_mid {a b : List Int} {z : Int} (h : (a ++ z :: b).Nodup) : (a ++ b).Nodup ∧ z ∉ a ++ b := by
  rw [List.nodup_append] at h ⊢
  obtain ⟨h1, h2, h3⟩ := h
  rw [List.nodup_cons] at h2
  refine ⟨⟨h1, h2.2, fun x hx y hy => h3 x hx y (List.mem_cons_of_mem _ hy)⟩, fun hm => ?_⟩
  rcases List.mem_append.1 hm with hm | hm
  · exact h3 z hm z List.mem_cons_self rfl
  · exact h2.1 hm
/-- One less. -/
theorem Inv.reap {t : List P} {i : Int} {given a b : List Int} {z : Int} (h : Inv t i given (a ++ z :: b)) :
    ∃ p u t', proc_Find t z = some (p, 0, ()) ∧ proc_End t p i = some (u, 0, ()) ∧ proc_Reap u z = some (t', i, 0, ()) ∧ Inv t' (i + 1) given (a ++ b) := by
  have hlen := fine_len h.fine
  obtain ⟨p, p0_, p1, hl, hz, e1, _⟩ := h.find (x := z) (by simp)
  have hone := fine_at h.fine p0_ p1
  have hrun := h.runs p p0_ p1 hl
  have hgen := h.gen p p0_ p1
  have hpl : p.toNat < t.length := by omega
  have hwf := h.wf.at p0_ (show p < (t.length : Int) by omega)
  have hwg := (h.wf.2 _ (getD_mem (d := p0) p0_ (show p < (t.length : Int) by omega))).2
  have hg := one_live hone hl
  obtain ⟨x, hx⟩ : ∃ x, t.getD p.toNat p0 = x := ⟨_, rfl⟩
  rw [hx] at hone hrun hgen hwf hwg hg hl hz
  have hl2 : x.2.1 = true := hl
  obtain ⟨x1, hx1⟩ : ∃ x1 : P, x1 = (x.1, x.2.1, x.2.2.1, x.2.2.2.1, 3, i, x.2.2.2.2.2.2.1, x.2.2.2.2.2.2.2.1, ()) := ⟨_, rfl⟩
  obtain ⟨x2, hx2⟩ : ∃ x2 : P, x2 = (x.1, false, 0, (0, false, (List.replicate 8 0), (List.replicate 16 0), 0, (List.replicate 8 0), ()), 0, 0, 0, [], ()) := ⟨_, rfl⟩
  have o1 : oneOk x1 = true := by rw [hx1]; exact one_end hone hl2 hrun
  have o2 : oneOk x2 = true := by rw [hx2]; exact one_free (by omega) (by omega)
  have w1 : WfP (t.set p.toNat x1) := wf_set h.wf _ (by rw [hx1]; exact hwf) (by rw [hx1]; exact hwg)
  have f1 : fineOk (t.set p.toNat x1) = true := fine_set h.fine _ o1
  have g1 : (t.set p.toNat x1).getD p.toNat p0 = x1 := by rw [getD_set, if_pos ⟨rfl, hpl⟩]
  have l1 : live ((t.set p.toNat x1).getD p.toNat p0) = true := by rw [g1, hx1]; exact hl2
  have d1 : fd (t.set p.toNat x1) z = (p, 0, ()) := by
    have := fd_live f1 p0_ p1 l1
    rw [g1] at this
    rw [hz]
    have e : x1.1 = x.1 := by rw [hx1]
    rw [e] at this
    exact this
  have eEnd : proc_End t p i = some (t.set p.toNat x1, 0, ()) := by
    rw [End_eq t h.wf]
    unfold endL there
    rw [h.fine, decide_eq_true (by omega : p ≥ 0), decide_eq_true (by omega : p < (t.length : Int)), hx, hl2, hrun]
    rw [hx1, hl2]
    rfl
  have eReap : proc_Reap (t.set p.toNat x1) z = some (t.set p.toNat x2, i, 0, ()) := by
    rw [Reap_eq _ w1]
    unfold reapL
    rw [d1]
    show some (cond (!decide ((0 : Int) = 0)) _ (cond (!decide (((t.set p.toNat x1).getD p.toNat p0).2.2.2.2.1 = 3)) _ ((t.set p.toNat x1).set p.toNat _, ((t.set p.toNat x1).getD p.toNat p0).2.2.2.2.2.1, 0, ()))) = _
    rw [g1, bnot_pos rfl, bnot_pos (by rw [hx1]), List.set_set, hx1, hx2]
  have hc := cnt_set x2 hpl
  rw [hx, hl] at hc
  have hlx2 : live x2 = false := by rw [hx2]; rfl
  rw [hlx2] at hc
  have hc : (t.set p.toNat x2).countP live + 1 = t.countP live := hc
  have hat : ∀ q : Int, 0 ≤ q → q < 16 → (t.set p.toNat x2).getD q.toNat p0 = if q = p then x2 else t.getD q.toNat p0 := by
    intro q q0 q1
    rw [getD_set]
    by_cases e : q = p
    · rw [if_pos ⟨by omega, hpl⟩, if_pos e]
    · rw [if_neg (by omega), if_neg e]
  have e21 : x2.1 = x.1 := by rw [hx2]
  obtain ⟨n1, n2⟩ := nodup_mid h.nd
  refine ⟨p, _, _, e1, eEnd, eReap, wf_set h.wf _ (by rw [hx2]; exact ⟨by simp, by simp, by simp⟩) (by rw [hx2]; exact Nat.zero_le _), fine_set h.fine _ o2, fun q q0 q1 hq => ?_, fun q q0 q1 => ?_, ?_, n1, fun y hy => ?_, fun y hy => ?_, by have := h.gl; omega⟩
  · rw [hat q q0 q1] at hq ⊢
    by_cases e : q = p
    · rw [if_pos e, hlx2] at hq; cases hq
    · rw [if_neg e] at hq ⊢; exact h.runs q q0 q1 hq
  · rw [hat q q0 q1]
    by_cases e : q = p
    · rw [if_pos e, e21]; omega
    · rw [if_neg e]; have := h.gen q q0 q1; omega
  · have := h.cnt
    rw [List.length_append, List.length_cons] at this
    rw [List.length_append]
    omega
  · obtain ⟨q, q0, q1, hq, he⟩ := h.op_ y (by
      rcases List.mem_append.1 hy with hy | hy
      · exact List.mem_append_left _ hy
      · exact List.mem_append_right _ (List.mem_cons_of_mem _ hy))
    have hne : q ≠ p := fun e => by
      rw [e, hx] at he
      have : y = z := by rw [he, hz]
      rw [this] at hy
      exact n2 hy
    refine ⟨q, q0, q1, ?_⟩
    rw [hat q q0 q1, if_neg hne]
    exact ⟨hq, he⟩
  · obtain ⟨q, g', q0, q1, hg', he⟩ := h.gv y hy
    refine ⟨q, g', q0, q1, ?_, he⟩
    rw [hat q q0 q1]
    by_cases e : q = p
    · rw [if_pos e, e21]; rw [e, hx] at hg'; exact hg'
    · rw [if_neg e]; exact hg'
abbrev S1 := (List P) × Int × List Int × List Int
theorem Inv.next {t : List P} {i : Int} {given op : List Int} (h : Inv t i given op) : Inv t (i + 1) given op :=
  ⟨h.wf, h.fine, h.runs, fun p a b => by have := h.gen p a b; omega, h.cnt, h.nd, h.op_, h.gv, by have := h.gl; omega⟩
theorem new_inv : ∃ t, proc_New = some t ∧ Inv t 0 [] [] := by
  have e : proc_New = some (List.replicate 16 p0) := by unfold proc_New; simp [chk, letv_eq, p0]
  refine ⟨_, e, ⟨by simp, fun x hx => ?_⟩, by decide +kernel, fun p _ h1 hl => ?_, fun p h0 h1 => ?_, by decide +kernel, List.nodup_nil, (fun x h => by cases h), (fun x h => by cases h), Int.le_refl 0⟩
  · rw [List.eq_of_mem_replicate hx]
    exact ⟨⟨by decide, by decide, by decide⟩, by decide⟩
  · rw [List.getD_eq_getElem?_getD, List.getElem?_replicate] at hl
    split at hl <;> cases hl
  · rw [List.getD_eq_getElem?_getD, List.getElem?_replicate]
    split <;> decide
theorem once (l : List (List Int)) (hl : l.length ≤ 140737488355328) (hb : ∀ x ∈ l, ∀ j : Nat, 0 ≤ x.getD j 0 ∧ x.getD j 0 ≤ 255) : L31_ProcOnce l = some true := by
  obtain ⟨t0, e0, h0⟩ := new_inv
  unfold L31_ProcOnce
  rw [e0]
  refine bind_t ?_
  refine loop_q (fun x : S1 => x.2.1) 80 (fun x => 0 ≤ x.2.1 ∧ Inv x.1 x.2.1 x.2.2.1 x.2.2.2) (fun o => o = some true) ⟨Int.le_refl 0, h0⟩ (by dsimp only; omega) ?_
  rintro k ⟨t, i, given, op⟩ ⟨i0, h⟩ hk
  dsimp only at i0 h hk
  have hol := h.ol
  have hgl := h.gl
  have en : L31_ProcOnce_J1 = some true := by unfold L31_ProcOnce_J1; rw [alive31]; rfl
  unfold L31_ProcOnce_L7
  dsimp only
  by_cases hi : i < (l.length : Int)
  · rw [bif_pos hi]
    by_cases h80 : i < 80
    · rw [bif_pos h80, chk_at i0 hi, chk_pos (by decide), chk_pos (by decide)]
      have hk := fun t' g' o' h' => hk h80 (t', i + 1, g', o') ⟨by dsimp only; omega, h'⟩ rfl
      have hby := hb _ (getD_mem (d := List.replicate 2 0) i0 hi)
      generalize l.getD i.toNat (List.replicate 2 0) = y at hby ⊢
      by_cases hm : Int.tmod (y.getD (0 : Int).toNat 0) 2 = 0
      · rw [bif_pos hm, Spawn_eq t h.wf]
        refine bind_t ?_
        rcases h.spawn i0 h80 with ⟨s1, s2⟩ | ⟨t', x, s1, s2, s3, s4⟩
        · rw [s2]
          dsimp only
          rw [decide_eq_false (by decide : ¬ (10 : Int) = 0), decide_eq_false (by omega : ¬ ((op.length : Nat) : Int) < 16)]
          refine (cond_f _ _).trans ?_
          have e : L31_ProcOnce_J6 (t, 0, 10, ()) (t, i, given, op) k = some true := by
            unfold L31_ProcOnce_J6
            rw [bif_neg (show ¬ (10 : Int) = 0 by decide), Fine_eq t h.wf, h.fine]
            refine bind_t ((cond_f _ _).trans ?_)
            obtain ⟨hl2, e1, e2⟩ := h.hand
            rw [e1]
            refine bind_t ?_
            rw [bnot_pos (by rw [e2])]
            refine (found h (L31_ProcOnce_L2 (op.length : Int) (t, i, given, op) (t, 0, 10, ()) k) (L31_ProcOnce_J5 k (t, i, given, op) (t, 0, 10, ())) fun k2 x => rfl).trans ?_
            unfold L31_ProcOnce_J5 L31_ProcOnce_J2
            dsimp only
            rw [w64 (by omega) (by omega)]
            exact hk _ _ _ h.next
          refine (loop_up (fun x => x) (given.length : Int) (fun x => 0 ≤ x) (fun _ => some true) (Int.le_refl 0) (by omega) ?_)
          intro k2 j j0 hk2
          unfold L31_ProcOnce_L3
          dsimp only
          by_cases hj : j < (given.length : Int)
          · rw [bif_pos hj, chk_at j0 hj, bif_neg (by decide), w64 (by omega) (by omega)]
            exact hk2 hj _ (by omega) rfl
          · rw [bif_neg hj]; exact e
        · rw [s2]
          dsimp only
          rw [decide_eq_true (rfl : (0 : Int) = 0), decide_eq_true (by omega : ((op.length : Nat) : Int) < 16)]
          refine (cond_f _ _).trans ?_
          have e : L31_ProcOnce_J6 (t', x, 0, ()) (t, i, given, op) k = some true := by
            unfold L31_ProcOnce_J6
            dsimp only
            rw [bif_pos rfl, chk_pos (by simp only [List.length_cons, List.length_nil]; omega), chk_pos (by simp only [List.length_cons, List.length_nil]; omega), Fine_eq t' s4.wf, s4.fine]
            refine bind_t ((cond_f _ _).trans ?_)
            obtain ⟨hl2, e1, e2⟩ := s4.hand
            rw [e1]
            refine bind_t ?_
            rw [bnot_pos (by rw [e2])]
            refine (found s4 (L31_ProcOnce_L1 ((op ++ [x]).length : Int) (op ++ [x]) (t', x, 0, ()) k (t, i, given, op) (given ++ [x])) (L31_ProcOnce_J4 k (t, i, given, op) (t', x, 0, ()) (given ++ [x]) (op ++ [x])) fun k2 x => rfl).trans ?_
            unfold L31_ProcOnce_J4 L31_ProcOnce_J2
            dsimp only
            rw [w64 (by omega) (by omega)]
            exact hk _ _ _ s4
          refine (loop_up (fun x => x) (given.length : Int) (fun x => 0 ≤ x) (fun _ => some true) (Int.le_refl 0) (by omega) ?_)
          intro k2 j j0 hk2
          unfold L31_ProcOnce_L3
          dsimp only
          by_cases hj : j < (given.length : Int)
          · have hgm := getD_mem (d := 0) j0 hj
            rw [bif_pos hj, chk_at j0 hj, bif_pos rfl, bif_neg (fun e => s3 (by rw [← e]; exact hgm)), w64 (by omega) (by omega)]
            exact hk2 hj _ (by omega) rfl
          · rw [bif_neg hj]; exact e
      · rw [bif_neg hm]
        by_cases ho : ((op.length : Nat) : Int) > 0
        · rw [bif_pos ho, chk_at i0 hi, chk_pos (by decide), chk_pos (by omega), letv_eq]
          have hb1 := hby 1
          have e1 : y.getD (1 : Int).toNat 0 = y.getD 1 0 := rfl
          rw [e1, w64 (x := y.getD 1 0) (by omega) (by omega)]
          have v0 : 0 ≤ Int.tmod (y.getD 1 0) (op.length : Int) := Int.tmod_nonneg _ hb1.1
          have v1 : Int.tmod (y.getD 1 0) (op.length : Int) < (op.length : Int) := Int.tmod_lt_of_pos _ ho
          generalize Int.tmod (y.getD 1 0) (op.length : Int) = v at v0 v1
          obtain ⟨a, z, b, hop, hal, hz⟩ := split_at (d := 0) v0 v1
          rw [chk_at v0 v1, hz]
          subst hop
          obtain ⟨p, u, t', r1, r2, r3, r4⟩ := h.reap
          rw [r1]
          refine bind_t ?_
          dsimp only
          rw [r2]
          refine bind_t ?_
          dsimp only
          rw [chk_at v0 v1, r3]
          refine bind_t ?_
          dsimp only
          rw [bnot_pos rfl, bnot_pos rfl, bnot_pos rfl, bnot_pos rfl]
          have e : ∀ left, left = a ++ b → L31_ProcOnce_J8 (t', i, 0, ()) k (t, i, given, a ++ z :: b) left = some true := by
            intro left hleft
            subst hleft
            unfold L31_ProcOnce_J8
            dsimp only
            rw [Fine_eq t' r4.wf, r4.fine]
            refine bind_t ((cond_f _ _).trans ?_)
            obtain ⟨hl2, e1, e2⟩ := r4.hand
            rw [e1]
            refine bind_t ?_
            rw [bnot_pos (by rw [e2])]
            refine (found r4 (L31_ProcOnce_L4 ((a ++ b).length : Int) (a ++ b) (t', i, 0, ()) k (t, i, given, a ++ z :: b)) (L31_ProcOnce_J7 k (t, i, given, a ++ z :: b) (t', i, 0, ()) (a ++ b)) fun k2 x => rfl).trans ?_
            unfold L31_ProcOnce_J7 L31_ProcOnce_J3
            dsimp only
            rw [w64 (by omega) (by omega)]
            exact hk _ _ _ r4
          refine loop_q (fun x : Int × List Int => x.1) ((a ++ z :: b).length : Int) (fun x => 0 ≤ x.1 ∧ x.2 = (if x.1 ≤ v then (a ++ z :: b).take x.1.toNat else a ++ b.take (x.1 - v - 1).toNat)) (fun o => o = some true) ⟨Int.le_refl 0, by dsimp only; rw [if_pos v0]; rfl⟩ (by dsimp only; omega) ?_
          rintro k2 ⟨j, acc⟩ ⟨j0, hacc⟩ hk2
          dsimp only at j0 hacc hk2
          unfold L31_ProcOnce_L5
          dsimp only
          by_cases hj : j < ((a ++ z :: b).length : Int)
          · have hacl : acc.length ≤ 40 := by
              rw [hacc]
              have q1 : (a ++ z :: b).length ≤ 16 := hol
              rw [List.length_append, List.length_cons] at q1
              split
              · have := List.length_take_le j.toNat (a ++ z :: b); rw [List.length_take]; omega
              · rw [List.length_append, List.length_take]; omega
            rw [bif_pos hj, chk_at j0 hj, w64 (by omega) (by omega)]
            by_cases hv : j = v
            · rw [bnot_pos hv]
              refine hk2 hj _ ⟨by dsimp only; omega, ?_⟩ rfl
              dsimp only
              rw [hacc, if_pos (by omega), if_neg (by omega), hv, show (v + 1 - v - 1).toNat = 0 by omega, show v.toNat = a.length by omega]
              simp
            · rw [bnot_neg hv, chk_pos (by simp only [List.length_cons, List.length_nil]; omega)]
              refine hk2 hj _ ⟨by dsimp only; omega, ?_⟩ rfl
              dsimp only
              rw [hacc]
              by_cases hlt : j < v
              · rw [if_pos (by omega), if_pos (by omega), ← take_at j0 hj]
              · rw [if_neg (by omega), if_neg (by omega)]
                have hb0 : 0 ≤ j - v - 1 := by omega
                have hb1 : j - v - 1 < (b.length : Int) := by rw [List.length_append, List.length_cons] at hj; omega
                have e2 : (a ++ z :: b).getD j.toNat 0 = b.getD (j - v - 1).toNat 0 := by
                  rw [List.getD_eq_getElem?_getD, List.getD_eq_getElem?_getD, List.getElem?_append_right (by omega), show j.toNat - a.length = (j - v - 1).toNat + 1 by omega]
                  rfl
                rw [e2, List.append_assoc, ← take_at hb0 hb1, show j + 1 - v - 1 = j - v - 1 + 1 by omega]
          · rw [bif_neg hj]
            refine e acc ?_
            rw [List.length_append, List.length_cons] at hj
            rw [hacc, if_neg (by omega), List.take_of_length_le (by omega)]
        · rw [bif_neg ho, Fine_eq t h.wf, h.fine]
          refine bind_t ((cond_f _ _).trans ?_)
          obtain ⟨hl2, e1, e2⟩ := h.hand
          rw [e1]
          refine bind_t ?_
          rw [bnot_pos (by rw [e2])]
          refine (found h (L31_ProcOnce_L6 (op.length : Int) (t, i, given, op) k) (L31_ProcOnce_J9 k (t, i, given, op)) fun k2 x => rfl).trans ?_
          unfold L31_ProcOnce_J9 L31_ProcOnce_J2
          dsimp only
          rw [w64 (by omega) (by omega)]
          exact hk _ _ _ h.next
    · rw [bif_neg h80]; exact en
  · rw [bif_neg hi]; exact en
end PR
theorem law_L31_ProcOnce : ∀ x : ((.pair (.sl (.arr 2 (.int .u8))) .unit) : Ty).den, wfD (.pair (.sl (.arr 2 (.int .u8))) .unit) x → L31_ProcOnce x.1 = some true := fun x hw => PR.once x.1 (wfl hw.1).1 fun y hy j => u8_at ((wfl hw.1).2 y hy) j
end Go.Proofs.YtejedlpnejjnbaaSV
