/- Regions that draw: an operation may be taken first if it yields its value in this world and in every one above it, and whatever else is carried out leaves what was there. (The kit's law of held worlds, with a relation in the place of a condition.) -/
import Derived.OrdersHeld
import Derived.Below
import Derived.Test.YtejedlpnejjnbaaVcA
set_option linter.unusedVariables false
set_option linter.unusedSimpArgs false
namespace Go.Proofs.YtejedlpnejjnbaaV
open Go.RowKit

section
variable {P : Program} {ops : Array Oper} {Q : Exit → Act → World → Prop} {md : Region.Mode} {rd : Option Nat} {S : Nat → Prop}

/-- What a step may change: nothing that was there but in these blocks. -/
def Chg (S : Nat → Prop) (w w' : World) : Prop := w.heap.size ≤ w'.heap.size ∧ ∀ b, b < w.heap.size → ¬ S b → w'.heap[b]? = w.heap[b]?
theorem Chg.refl (S : Nat → Prop) (w : World) : Chg S w w := ⟨Nat.le_refl _, fun _ _ _ => rfl⟩
theorem Chg.of_below {S : Nat → Prop} {w w' : World} (h : Below w.heap.size w w') : Chg S w w' := ⟨h.size, fun b hb _ => h.block b hb⟩
/-- rd: the block that it reads. -/
def YieldsUp (P : Program) (ops : Array Oper) (rd : Option Nat) (o : Oper) (v : Value) (a : Act) (w : World) : Prop :=
  (Region.wanted o (yielded ops a.tmps) = true ∧ ∀ w', (∀ b, rd = some b → b < w.heap.size → w'.heap[b]? = w.heap[b]?) → (execOp a.eval o).run P w' = .ok (.value v) w') ∨
  (Region.wanted o (yielded ops a.tmps) = false ∧ v = undef)
theorem YieldsUp.wpOp {i : Nat} {o : Oper} {v : Value} {a : Act} {w : World} (hi : ops[i]? = some o) (hy : YieldsUp P ops rd o v a w) {K : Act → World → Prop} (h : K (a.put o.dst v) w) : wpOp P ops Q i K a w := by
  unfold Go.wpOp
  simp only [hi]
  rcases hy with ⟨hw, hv⟩ | ⟨hw, rfl⟩
  · simp only [hw, if_true, Oper.wp, hv w (fun _ _ _ => rfl), Oper.upon]; exact .inl h
  · simp only [hw, Bool.false_eq_true, if_false]; exact h
theorem YieldsUp.of_same {o : Oper} {v : Value} {a a' : Act} {w : World} (hy : YieldsUp P ops rd o v a w) (he : execOp a'.eval o = execOp a.eval o) (hw : Region.wanted o (yielded ops a'.tmps) = Region.wanted o (yielded ops a.tmps)) : YieldsUp P ops rd o v a' w := by
  unfold YieldsUp at *
  rw [he, hw]
  exact hy
theorem YieldsUp.up {o : Oper} {v : Value} {a : Act} {w w' : World} (hy : YieldsUp P ops rd o v a w) (hC : Chg S w w') (hS : ∀ b, rd = some b → ¬ S b) : YieldsUp P ops rd o v a w' := by
  rcases hy with ⟨hw, hv⟩ | hy
  · exact .inl ⟨hw, fun w'' h => hv w'' fun b hb hlt => (h b hb (Nat.lt_of_lt_of_le hlt hC.1)).trans (hC.2 b hlt (hS b hb))⟩
  · exact .inr hy
theorem wpOp_putUp {j : Nat} {oi oj : Oper} {v : Value} (hj : ops[j]? = some oj) (hap : oi.apart ops oj = true)
    (hsi : ∀ cs b, oi.op ≠ .select cs b) (hsj : ∀ cs b, oj.op ≠ .select cs b)
    (hQ : ∀ c a w, Q (.panic c) (a.put oi.dst v) w → Q (.panic c) a w) {K : Act → World → Prop} {a : Act} {w w0 : World}
    (hy : YieldsUp P ops rd oi v a w0) (h : wpOp P ops Q j K (a.put oi.dst v) w) :
    wpOp P ops Q j (fun a' w' => YieldsUp P ops rd oi v a' w0 ∧ K (a'.put oi.dst v) w') a w := by
  obtain ⟨h1, h2, h3⟩ := Oper.apart_spec hap
  have keep : ∀ (a : Act), YieldsUp P ops rd oi v a w0 → ∀ u, YieldsUp P ops rd oi v (a.put oj.dst u) w0 := fun a hy u =>
    hy.of_same (execOp_put oi hsi a oj.dst u h3) (wanted_put oi a oj.dst u h3)
  have keepD : ∀ d, YieldsUp P ops rd oi v { a with defers := d :: a.defers } w0 := fun d => hy.of_same rfl rfl
  unfold wpOp at *
  simp only [hj] at *
  rw [wanted_put oj a oi.dst v h1] at h
  split
  · rename_i hw
    simp only [hw, if_true] at h
    rcases h with h | ⟨hasks, hlets⟩
    case inr => exact .inr ⟨by unfold Oper.asks at *; rw [execOp_put oj hsj a oi.dst v h1] at hasks; exact hasks, hlets⟩
    refine .inl ?_
    unfold Oper.wp at *
    rw [execOp_put oj hsj a oi.dst v h1] at h
    generalize (execOp a.eval oj).run P w = r at *
    cases r with
    | ok n w' =>
      cases n <;> simp only [Oper.upon] at h ⊢
      case value u => exact ⟨keep a hy u, by rw [← Act.put_comm a v u h2]; exact h⟩
      case skip => exact ⟨keep a hy _, by rw [← Act.put_comm a v undef h2]; exact h⟩
      case defer d =>
        refine ⟨keep _ (keepD d) _, ?_⟩
        rw [← Act.put_comm _ v undef h2, ← Act.put_defers]
        exact h
      case enter f args =>
        refine Calls.mono h fun e w'' he => ?_
        cases e with
        | returned u => exact ⟨keep a hy u, by rw [← Act.put_comm a v u h2]; exact he⟩
        | panicked c => exact hQ _ _ _ he
        | outgrown => exact he
      case row row args => exact Rows.mono h fun u w'' he => ⟨keep a hy u, by rw [← Act.put_comm a v u h2]; exact he⟩
    | halt x w' =>
      cases x <;> simp only [Oper.upon] at h ⊢
      case panic u => exact hQ _ _ _ h
  · rename_i hw
    simp only [hw] at h
    exact ⟨keep a hy _, by rw [← Act.put_comm a v undef h2]; exact h⟩
theorem memN_iff {S : List Nat} {k : Nat} : memN S k = true ↔ k ∈ S := by
  induction S with
  | nil => simp [memN]
  | cons x S ih =>
    unfold memN
    by_cases h : x = k
    · subst h; simp
    · have : Nat.beq x k = false := by
        cases hb : Nat.beq x k with
        | false => rfl
        | true => exact absurd (Nat.eq_of_beq_eq_true hb) h
      rw [this, cond_false, ih, List.mem_cons]
      exact ⟨.inr, fun h2 => h2.resolve_left (Ne.symm h)⟩
def AllL (L : Array Bool) (S : List Nat) : Prop := ∀ k ∈ S, L.getD k false = true
/-- What is listed waits for nothing that isn't. -/
def Closed (ops : Array Oper) (L : Array Bool) : Prop := ∀ k, L.getD k false = true → AllL L (afterN ops k)
theorem AllL.add {L : Array Bool} : ∀ {l S : List Nat}, AllL L l → AllL L S → AllL L (addN l S)
  | [], S, _, h => h
  | k :: l, S, hl, h => by
    unfold addN
    refine AllL.add (fun x hx => hl x (List.mem_cons_of_mem _ hx)) ?_
    cases memN S k with
    | true => exact h
    | false =>
      intro x hx
      rcases List.mem_cons.1 hx with rfl | hx
      · exact hl x List.mem_cons_self
      · exact h x hx
theorem AllL.reach {ops : Array Oper} {L : Array Bool} (hc : Closed ops L) : ∀ {l S : List Nat}, AllL L S → AllL L (reachN ops l S)
  | [], S, h => h
  | k :: l, S, h => by
    unfold reachN
    refine AllL.reach hc ?_
    cases hm : memN S k with
    | false => exact h
    | true => exact AllL.add (hc k (h k (memN_iff.1 hm))) h
theorem AllL.ready {ops : Array Oper} {L : Array Bool} {j : Nat} (h : j ∈ Region.ready .any ops L) : AllL L (afterN ops j) := by
  obtain ⟨_, o, ho, hall⟩ := mem_ready.1 h
  intro k hk
  unfold afterN at hk
  rw [ho] at hk
  simp only [List.mem_map, List.mem_filter] at hk
  obtain ⟨e, ⟨he, hb⟩, rfl⟩ := hk
  exact hall e (by simpa using he) hb
theorem Closed.set {ops : Array Oper} {L : Array Bool} {j : Nat} (hc : Closed ops L) (h : j ∈ Region.ready .any ops L) : Closed ops (L.setIfInBounds j true) := by
  intro k hk x hx
  by_cases hjk : j = k
  · subst hjk; exact getD_set_true (AllL.ready h x hx)
  · rw [getD_set_ne false hjk] at hk; exact getD_set_true (hc k hk x hx)
theorem Closed.none {ops : Array Oper} {n : Nat} : Closed ops (Array.replicate n false) := by
  intro k hk
  simp [Array.getD] at hk
theorem inN_spec {L : Array Bool} {R : List Nat} : ∀ {l : List Nat}, inN L R l = true → ∀ k ∈ l, L.getD k false = true → k ∈ R
  | [], _, k, hk, _ => by cases hk
  | x :: l, h, k, hk, hL => by
    unfold inN at h
    rw [Bool.and_eq_true] at h
    rcases List.mem_cons.1 hk with rfl | hk
    · rw [hL] at h; exact memN_iff.1 h.1
    · exact inN_spec h.2 k hk hL
theorem mem_downN : ∀ {n k : Nat}, k < n → k ∈ downN n
  | n + 1, k, h => by
    unfold downN
    by_cases e : k = n
    · subst e; exact List.mem_cons_self
    · exact List.mem_cons_of_mem _ (mem_downN (by omega))
/-- It isn't carried out before what it waits for. -/
theorem bar_not {ops : Array Oper} {L : Array Bool} {i j : Nat} (hc : Closed ops L) (hi : i ∈ Region.ready .any ops L) (hj : j ∈ Region.ready .any ops L) (hb : barO ops (L.setIfInBounds i true) j = true) : False := by
  obtain ⟨h0, o, ho, _⟩ := mem_ready.1 hi
  have hlt : i < ops.size := (Array.getElem?_eq_some_iff.1 ho).1
  have hL : i < L.size := by
    rcases Nat.lt_or_ge i L.size with h' | h'
    · exact h'
    · simp [Array.getElem?_eq_none h'] at h0
  have h1 : (L.setIfInBounds i true).getD i false = true := by simp [hL]
  have h2 := inN_spec hb i (mem_downN hlt) h1
  have h3 := AllL.reach hc (l := downN ops.size) (AllL.add (AllL.ready hj) (S := []) (fun x hx => by cases hx)) i h2
  simp [hL] at h0 h3
  rw [h0] at h3; cases h3
theorem YieldsUp.all {o : Oper} {v : Value} {a : Act} {w w' : World} (hy : YieldsUp P ops rd o v a w) (hS : ∀ b, rd ≠ some b) : YieldsUp P ops rd o v a w' := by
  rcases hy with ⟨hw, hv⟩ | hy
  · exact .inl ⟨hw, fun w'' _ => hv w'' fun b hb => absurd hb (hS b)⟩
  · exact .inr hy
def wpAnyB (P : Program) (ops : Array Oper) (S : Nat → Prop) (Q : Exit → Act → World → Prop) : Nat → Array Bool → Act → World → Prop
  | 0, listed, a, w => Region.ready .any ops listed = [] ∧ Q .normal a w
  | fuel + 1, listed, a, w =>
    (Region.ready .any ops listed = [] → Q .normal a w) ∧
    ∀ i ∈ Region.ready .any ops listed, wpOp P ops Q i (fun a' w' => (Chg S w w' ∨ barO ops listed i = true ∨ ∀ b, S b) ∧ wpAnyB P ops S Q fuel (listed.setIfInBounds i true) a' w') a w
theorem wpAny_of_B : ∀ (fuel : Nat) (listed : Array Bool) (a : Act) (w : World), wpAnyB P ops S Q fuel listed a w → wpAny P .any ops Q fuel listed a w
  | 0, _, _, _, h => h
  | fuel + 1, _, _, _, h => ⟨h.1, fun i hi => wpOp_mono (fun a' w' h' => wpAny_of_B fuel _ a' w' h'.2) (h.2 i hi)⟩
theorem wpAnyB_first {i : Nat} {oi : Oper} {v : Value} (hS : ∀ b, rd = some b → ¬ S b) (hi : ops[i]? = some oi) (hsel : ∀ (j : Nat) (o : Oper) cs b, ops[j]? = some o → o.op ≠ .select cs b)
    (hQ : ∀ c a w, Q (.panic c) (a.put oi.dst v) w → Q (.panic c) a w) :
    ∀ (fuel : Nat) (listed : Array Bool) (a : Act) (w : World),
      (∀ j oj, ops[j]? = some oj → j ≠ i → listed.getD j true = false → (∀ e ∈ oj.after, Region.binds .any e = true → e.on ≠ i) → oi.apart ops oj = true) →
      Closed ops listed → i ∈ Region.ready .any ops listed → YieldsUp P ops rd oi v a w →
      wpAnyB P ops S Q fuel (listed.setIfInBounds i true) (a.put oi.dst v) w → wpAnyB P ops S Q (fuel + 1) listed a w := by
  intro fuel
  induction fuel with
  | zero =>
    intro listed a w _ hc hr hy H
    refine ⟨fun h => (by rw [h] at hr; cases hr), fun j hj => ?_⟩
    by_cases hji : j = i
    · subst hji; exact hy.wpOp hi ⟨.inl (Chg.refl _ _), H⟩
    · have := ready_mono hj hji
      rw [H.1] at this
      cases this
  | succ fuel ih =>
    intro listed a w hfree hc hr hy H
    refine ⟨fun h => (by rw [h] at hr; cases hr), fun j hj => ?_⟩
    by_cases hji : j = i
    · subst hji; exact hy.wpOp hi ⟨.inl (Chg.refl _ _), H⟩
    · have h1 := H.2 j (ready_mono hj hji)
      obtain ⟨hjun, oj, hoj, hall⟩ := mem_ready.1 hj
      have hnot : ∀ e ∈ oj.after, Region.binds .any e = true → e.on ≠ i := fun e he hb heq => by
        have h1 := hall e he hb
        have h0 := (mem_ready.1 hr).1
        rw [heq] at h1
        rcases Nat.lt_or_ge i listed.size with h' | h'
        · simp [h'] at h0 h1; rw [h0] at h1; cases h1
        · simp [Array.getElem?_eq_none h'] at h1
      have h2 := wpOp_putUp hoj (hfree j oj hoj hji hjun hnot) (fun cs b => hsel i oi cs b hi) (fun cs b => hsel j oj cs b hoj) hQ hy h1
      have hfree' : ∀ k ok, ops[k]? = some ok → k ≠ i → (listed.setIfInBounds j true).getD k true = false →
          (∀ e ∈ ok.after, Region.binds .any e = true → e.on ≠ i) → oi.apart ops ok = true := fun k ok hk hki hun hno => by
        refine hfree k ok hk hki ?_ hno
        by_cases hjk : j = k
        · subst hjk; exact hjun
        · rw [getD_set_ne true hjk] at hun; exact hun
      refine wpOp_mono (fun a' w' h3 => ?_) h2
      rcases h3.2.1 with hB | hb | hall
      · refine ⟨.inl hB, ih (listed.setIfInBounds j true) a' w' hfree' (hc.set hj) (ready_mono hr (Ne.symm hji)) (h3.1.up hB hS) ?_⟩
        rw [Array.setIfInBounds_comm _ _ hji]
        exact h3.2.2
      · exact (bar_not hc hr hj hb).elim
      · refine ⟨.inr (.inr hall), ih (listed.setIfInBounds j true) a' w' hfree' (hc.set hj) (ready_mono hr (Ne.symm hji)) (h3.1.all fun b hb => hS b hb (hall b)) ?_⟩
        rw [Array.setIfInBounds_comm _ _ hji]
        exact h3.2.2
theorem wp_region_B {id : Nat} {a : Act} {w : World} (hm : P.follows .mixedOrders = true)
    (h : wpAnyB P ops S Q ops.size (Array.replicate ops.size false) a { w with drawn := w.drawn + 1 }) : (Code.region id ops true).wp P Q a w :=
  wp_region_any hm (wpAny_of_B _ _ _ _ h)
end
end Go.Proofs.YtejedlpnejjnbaaV
