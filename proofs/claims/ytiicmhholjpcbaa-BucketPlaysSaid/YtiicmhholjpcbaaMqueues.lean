/- What the queue's methods and its reference's come to; they go alike. -/
import Derived.Test.YtiicmhholjpcbaaMqthy
import Derived.Test.YtiicmhholjpcbaaMlists0
import Derived.Test.YtiicmhholjpcbaaDL03
namespace Go.Proofs.YtiicmhholjpcbaaV
set_option linter.unusedVariables false
set_option linter.unusedSimpArgs false
open Go.RowKit
namespace Qu
open QT
abbrev Pl := List Nd × List Ln × Ln × Unit
theorem ok_eq {x : Pl} (h : 1 ≤ x.2.1.length) : queue_Pool_ok x = some (x, (true, ())) := by
  unfold queue_Pool_ok
  rw [decide_eq_true (by omega)]
/-! ### The steps on nodes -/
theorem push_eq {ns : List Nd} {la lb : List Ln} {l o : Ln} {q x : Int} (hq : (la.length : Int) = q) (hm : o.2.2.1 ≠ 0) (hm1 : 0 ≤ o.2.2.1 ∧ o.2.2.1 ≤ 1024) (hi : 0 ≤ o.1 ∧ o.1 < (ns.length : Int)) (hl : l.2.2.1 ≠ 0 → 0 ≤ l.2.1 ∧ l.2.1 < (ns.length : Int)) (hl1 : 0 ≤ l.2.2.1 ∧ l.2.2.1 ≤ 1024) :
    queue_Pool_Push (ns, la ++ l :: lb, o, ()) q x = some ((hangN (ns.set o.1.toNat (x, nx ns o.1, ())) l o.1, la ++ hangL l o.1 :: lb, takeL ns o, ()), (0, ())) := by
  unfold queue_Pool_Push
  rw [ok_eq (by simp; omega)]
  simp only [Option.bind_some, Bool.not_true, cond_false]
  rw [bif_neg (by omega), bif_neg (show ¬ q ≥ (((la ++ l :: lb).length : Nat) : Int) by simp; omega), chk_pos (by simp; omega), bif_neg hm, cutv_eq]
  unfold queue_Pool_Push_C1
  dsimp only
  rw [chk_pos hi, letv_eq]
  have key : ∀ z, z = (takeL ns o).2.1 → queue_Pool_Push_R1 (x, q, o.1, (ns.getD o.1.toNat (0, 0, ())).2.1, z, IntKind.i64.wrap (o.2.2.1 - 1), ns, la ++ l :: lb) = some ((hangN (ns.set o.1.toNat (x, nx ns o.1, ())) l o.1, la ++ hangL l o.1 :: lb, takeL ns o, ()), (0, ())) := by
    intro z hz
    unfold queue_Pool_Push_R1
    dsimp only
    rw [chk_pos hi, letv_eq, cutv_eq]
    unfold queue_Pool_Push_C2
    dsimp only
    rw [chk_pos (by rw [List.length_set]; exact hi), letv_eq, get_mid hq, w64 (x := o.2.2.1 - 1) (by omega) (by omega)]
    have e : ns.set o.1.toNat (x, (ns.getD o.1.toNat (0, 0, ())).2.1, ()) = ns.set o.1.toNat (x, nx ns o.1, ()) := rfl
    rw [e]
    by_cases h0 : l.2.2.1 = 0
    · rw [bif_pos h0, letv_eq, letv_eq, letv_eq, set_mid hq, get_mid hq, set_mid hq, get_mid hq, set_mid hq]
      unfold queue_Pool_Push_R2 hangN hangL takeL
      dsimp only
      rw [if_pos h0, if_pos h0, w64 (by omega) (by omega), hz]
      rfl
    · have hl := hl h0
      rw [bif_neg h0, chk_pos (by rw [List.length_set, List.length_set]; exact hl), letv_eq, letv_eq, letv_eq, set_mid hq, get_mid hq, set_mid hq]
      unfold queue_Pool_Push_R2 hangN hangL takeL
      dsimp only
      rw [if_neg h0, if_neg h0, w64 (by omega) (by omega), hz]
      rfl
  by_cases e : o.2.1 = o.1
  · rw [bif_pos e]; exact key _ (by unfold takeL; rw [if_pos e])
  · rw [bif_neg e]; exact key _ (by unfold takeL; rw [if_neg e])
theorem push_full {ns : List Nd} {ls : List Ln} {o : Ln} {q x : Int} (h0 : 0 ≤ q) (h1 : q < (ls.length : Int)) (hm : o.2.2.1 = 0) : queue_Pool_Push (ns, ls, o, ()) q x = some ((ns, ls, o, ()), (10, ())) := by
  unfold queue_Pool_Push
  rw [ok_eq (by show 1 ≤ ls.length; omega)]
  simp only [Option.bind_some, Bool.not_true, cond_false]
  rw [bif_neg (by omega), bif_neg (by omega), chk_pos ⟨h0, h1⟩, bif_pos hm]
theorem push_out {x : Pl} {q v : Int} (h : 1 ≤ x.2.1.length) (hq : ¬ (0 ≤ q ∧ q < (x.2.1.length : Int))) : queue_Pool_Push x q v = some (x, (8, ())) := by
  unfold queue_Pool_Push
  rw [ok_eq h]
  simp only [Option.bind_some, Bool.not_true, cond_false]
  by_cases h1 : q < 0
  · rw [bif_pos h1]
  · rw [bif_neg h1, bif_pos (by omega)]
theorem first_out {x : Pl} {q : Int} (h : 1 ≤ x.2.1.length) (hq : ¬ (0 ≤ q ∧ q < (x.2.1.length : Int))) : queue_Pool_First x q = some (x, (0, 8, ())) := by
  unfold queue_Pool_First
  rw [ok_eq h]
  simp only [Option.bind_some, Bool.not_true, cond_false]
  by_cases h1 : q < 0
  · rw [bif_pos h1]
  · rw [bif_neg h1, bif_pos (by omega)]
theorem first_eq {ns : List Nd} {la lb : List Ln} {l o : Ln} {q : Int} (hq : (la.length : Int) = q) (hl : l.2.2.1 ≠ 0 → 0 ≤ l.1 ∧ l.1 < (ns.length : Int)) :
    queue_Pool_First (ns, la ++ l :: lb, o, ()) q = some ((ns, la ++ l :: lb, o, ()), (if l.2.2.1 = 0 then (0, 11, ()) else (vl ns l.1, 0, ()))) := by
  unfold queue_Pool_First
  rw [ok_eq (by simp; omega)]
  simp only [Option.bind_some, Bool.not_true, cond_false]
  rw [bif_neg (by omega), bif_neg (show ¬ q ≥ (((la ++ l :: lb).length : Nat) : Int) by simp; omega), chk_pos (by simp; omega), letv_eq, get_mid hq]
  by_cases h0 : l.2.2.1 = 0
  · rw [bif_pos h0, if_pos h0]
  · rw [bif_neg h0, if_neg h0, chk_pos (hl h0), letv_eq]; rfl
theorem pop_eq {ns : List Nd} {la lb : List Ln} {l o : Ln} {q : Int} (hq : (la.length : Int) = q) (hm : l.2.2.1 ≠ 0) (hm1 : 0 ≤ l.2.2.1 ∧ l.2.2.1 ≤ 1024) (hi : 0 ≤ l.1 ∧ l.1 < (ns.length : Int)) (hl : o.2.2.1 ≠ 0 → 0 ≤ o.2.1 ∧ o.2.1 < (ns.length : Int)) (hl1 : 0 ≤ o.2.2.1 ∧ o.2.2.1 ≤ 1024) :
    queue_Pool_Pop (ns, la ++ l :: lb, o, ()) q = some ((hangN ns o l.1, la ++ takeL ns l :: lb, hangL o l.1, ()), (vl ns l.1, 0, ())) := by
  unfold queue_Pool_Pop
  rw [first_eq hq (fun _ => hi), if_neg hm]
  refine bind_t ((bnot_pos (show ((0 : Int)) = 0 from rfl)).trans ?_)
  rw [cutv_eq]
  unfold queue_Pool_Pop_C1
  dsimp only
  rw [chk_pos (by simp; omega), get_mid hq, chk_pos hi, letv_eq, letv_eq, set_mid hq, get_mid hq]
  dsimp only
  have key : ∀ z, z = (takeL ns l).2.1 → (chk (0 ≤ l.1 ∧ l.1 < (ns.length : Int)) <|
    letv (ns.set l.1.toNat ((ns.getD l.1.toNat (0, 0, ())).1, (-1), ())) fun l4 =>
    bif decide (o.2.2.1 = 0) then
      queue_Pool_Pop_R1 (vl ns l.1, l.1, l.1, IntKind.i64.wrap (o.2.2.1 + 1), l4, la ++ ((ns.getD l.1.toNat (0, 0, ())).2.1, z, l.2.2.1 - 1, ()) :: lb)
    else
      chk (0 ≤ o.2.1 ∧ o.2.1 < (l4.length : Int)) <|
      letv (l4.set o.2.1.toNat ((l4.getD o.2.1.toNat (0, 0, ())).1, l.1, ())) fun l5 =>
      queue_Pool_Pop_R1 (vl ns l.1, o.1, l.1, IntKind.i64.wrap (o.2.2.1 + 1), l5, la ++ ((ns.getD l.1.toNat (0, 0, ())).2.1, z, l.2.2.1 - 1, ()) :: lb)) = some ((hangN ns o l.1, la ++ takeL ns l :: lb, hangL o l.1, ()), (vl ns l.1, 0, ())) := by
    intro z hz
    rw [chk_pos hi, letv_eq, w64 (by omega) (by omega)]
    by_cases h0 : o.2.2.1 = 0
    · rw [bif_pos h0]
      unfold queue_Pool_Pop_R1 hangN hangL takeL
      dsimp only
      rw [if_pos h0, if_pos h0, hz]
      rfl
    · rw [bif_neg h0, chk_pos (by rw [List.length_set]; exact hl h0), letv_eq]
      unfold queue_Pool_Pop_R1 hangN hangL takeL
      dsimp only
      rw [if_neg h0, if_neg h0, hz]
      rfl
  by_cases e : l.2.1 = l.1
  · rw [bif_pos e, letv_eq, letv_eq, set_mid hq, get_mid hq, set_mid hq, w64 (x := l.2.2.1 - 1) (by omega) (by omega)]
    exact key _ (by unfold takeL; rw [if_pos e])
  · rw [bif_neg e, letv_eq, set_mid hq, w64 (x := l.2.2.1 - 1) (by omega) (by omega)]
    exact key _ (by unfold takeL; rw [if_neg e])
theorem pop_none {x : Pl} {q e : Int} (h : queue_Pool_First x q = some (x, (0, e, ()))) (he : e ≠ 0) : queue_Pool_Pop x q = some (x, (0, e, ())) := by
  unfold queue_Pool_Pop
  rw [h]
  simp only [Option.bind_some]
  rw [bnot_neg he]
theorem len_eq {ns : List Nd} {la lb : List Ln} {l o : Ln} {q : Int} (hq : (la.length : Int) = q) : queue_Pool_Len (ns, la ++ l :: lb, o, ()) q = some ((ns, la ++ l :: lb, o, ()), (l.2.2.1, ())) := by
  unfold queue_Pool_Len
  rw [ok_eq (by simp; omega)]
  simp only [Option.bind_some, Bool.not_true, cond_false]
  rw [bif_neg (by omega), bif_neg (show ¬ q ≥ (((la ++ l :: lb).length : Nat) : Int) by simp; omega), chk_pos (by simp; omega), letv_eq, get_mid hq]
theorem len_out {x : Pl} {q : Int} (h : 1 ≤ x.2.1.length) (hq : ¬ (0 ≤ q ∧ q < (x.2.1.length : Int))) : queue_Pool_Len x q = some (x, (0, ())) := by
  unfold queue_Pool_Len
  rw [ok_eq h]
  simp only [Option.bind_some, Bool.not_true, cond_false]
  by_cases h1 : q < 0
  · rw [bif_pos h1]
  · rw [bif_neg h1, bif_pos (by omega)]
theorem free_eq {x : Pl} (h : 1 ≤ x.2.1.length) : queue_Pool_Free x = some (x, (x.2.2.1.2.2.1, ())) := by
  unfold queue_Pool_Free
  rw [ok_eq h]; rfl
theorem list_out {x : Pl} {q : Int} (h : 1 ≤ x.2.1.length) (hq : ¬ (0 ≤ q ∧ q < (x.2.1.length : Int))) : queue_Pool_List x q = some (x, ([], ())) := by
  unfold queue_Pool_List
  rw [ok_eq h]
  refine bind_t ((cond_tt _ _).trans ?_)
  by_cases h1 : q < 0
  · exact bif_pos h1
  · refine (bif_neg h1).trans (bif_pos (show q ≥ (x.2.1.length : Int) by omega))
theorem chain_head {ns : List Nd} {a : Int} {p : List Int} (h : Chain ns (a :: p)) : nx ns a = p.headD (-1) := by
  cases p with
  | nil => exact h
  | cons b q => exact h.1
theorem Rep.hd {ns : List Nd} {p : List Int} {l : Ln} (h : Rep ns p l) : l.1 = p.headD (-1) := by
  cases p with
  | nil => exact h.nil rfl
  | cons a q => exact h.first a rfl
theorem list_loop (r : Pl × (Bool × Unit)) : ∀ (n : Nat) (p : List Int) (acc : List Int), p.length + acc.length ≤ 4096 → p.length < n → (∀ a ∈ p, 0 ≤ a ∧ a < (r.1.1.length : Int)) → Chain r.1.1 p → fixN (queue_Pool_List_L1 r) n (p.headD (-1), acc) = some (r.1, (acc ++ p.map (vl r.1.1), ()))
  | 0, p, acc, _, hn, _, _ => by omega
  | n + 1, [], acc, _, _, _, _ => by
    show queue_Pool_List_L1 r _ (-1, acc) = _
    unfold queue_Pool_List_L1
    dsimp only
    rw [bnot_pos rfl]
    simp [queue_Pool_List_J1]
  | n + 1, a :: p, acc, hl, hn, hr, hc => by
    show queue_Pool_List_L1 r (fixN (queue_Pool_List_L1 r) n) (a, acc) = _
    have ha := hr a List.mem_cons_self
    have ih := list_loop r n p (acc ++ [vl r.1.1 a]) (by simp at hl ⊢; omega) (by simp at hn; omega) (fun b hb => hr b (List.mem_cons_of_mem _ hb)) hc.tail
    unfold queue_Pool_List_L1
    dsimp only
    simp only [List.length_cons] at hl
    rw [bnot_neg (by omega), chk_pos ha, chk_pos (by simp; omega), letv_eq, chk_pos ha]
    rw [← chain_head hc] at ih
    refine Eq.trans ih ?_
    simp
theorem list_eq {ns : List Nd} {la lb : List Ln} {l o : Ln} {q : Int} {p : List Int} (hq : (la.length : Int) = q) (h : Rep ns p l) (hp : p.length ≤ 2000) : queue_Pool_List (ns, la ++ l :: lb, o, ()) q = some ((ns, la ++ l :: lb, o, ()), (p.map (vl ns), ())) := by
  unfold queue_Pool_List
  rw [ok_eq (by simp; omega)]
  refine bind_t ((cond_tt _ _).trans ?_)
  refine (bif_neg (show ¬ q < 0 by omega)).trans ?_
  refine (bif_neg (show ¬ q ≥ (((la ++ l :: lb).length : Nat) : Int) by simp; omega)).trans ?_
  refine (chk_pos (show 0 ≤ q ∧ q < (((la ++ l :: lb).length : Nat) : Int) by simp; omega)).trans ?_
  dsimp only
  rw [get_mid hq, Rep.hd h]
  unfold loop
  exact list_loop ((ns, la ++ l :: lb, o, ()), (true, ())) FUEL p [] (by simp; omega) (by rw [FUEL_eq]; omega) h.rng h.chain
theorem rem_out {x : Pl} {q v : Int} (h : 1 ≤ x.2.1.length) (hq : ¬ (0 ≤ q ∧ q < (x.2.1.length : Int))) : queue_Pool_Remove x q v = some (x, (false, ())) := by
  unfold queue_Pool_Remove
  rw [ok_eq h]
  refine bind_t ((cond_tt _ _).trans ?_)
  by_cases h1 : q < 0
  · exact bif_pos h1
  · refine (bif_neg h1).trans (bif_pos (show q ≥ (x.2.1.length : Int) by omega))
/-- Taking the first one out, and hanging it behind the free ones. -/
theorem rem_first {ns : List Nd} {la lb : List Ln} {l o : Ln} {q : Int} (hq : (la.length : Int) = q) (hm1 : 1 ≤ l.2.2.1 ∧ l.2.2.1 ≤ 1024) (hi : 0 ≤ l.1 ∧ l.1 < (ns.length : Int)) (hl : o.2.2.1 ≠ 0 → 0 ≤ o.2.1 ∧ o.2.1 < (ns.length : Int)) (hl1 : 0 ≤ o.2.2.1 ∧ o.2.2.1 ≤ 1024) (i : Int) (b : Bool) :
    queue_Pool_Remove_C1 (-1, i) ((ns, la ++ l :: lb, o, ()), (b, ())) q queue_Pool_Remove_R1 = some ((hangN ns o l.1, la ++ takeL ns l :: lb, hangL o l.1, ()), (true, ())) := by
  unfold queue_Pool_Remove_C1
  dsimp only
  rw [bnot_pos rfl, get_mid hq, chk_pos hi, letv_eq, bif_pos rfl, letv_eq, set_mid hq, get_mid hq]
  dsimp only
  have key : ∀ z, z = (takeL ns l).2.1 → (chk (0 ≤ l.1 ∧ l.1 < (ns.length : Int)) <|
    letv (ns.set l.1.toNat ((ns.getD l.1.toNat (0, 0, ())).1, (-1), ())) fun l4 =>
    bif decide (o.2.2.1 = 0) then
      queue_Pool_Remove_R1 (l.1, l.1, IntKind.i64.wrap (o.2.2.1 + 1), l4, la ++ ((ns.getD l.1.toNat (0, 0, ())).2.1, z, l.2.2.1 - 1, ()) :: lb)
    else
      chk (0 ≤ o.2.1 ∧ o.2.1 < (l4.length : Int)) <|
      letv (l4.set o.2.1.toNat ((l4.getD o.2.1.toNat (0, 0, ())).1, l.1, ())) fun l5 =>
      queue_Pool_Remove_R1 (o.1, l.1, IntKind.i64.wrap (o.2.2.1 + 1), l5, la ++ ((ns.getD l.1.toNat (0, 0, ())).2.1, z, l.2.2.1 - 1, ()) :: lb)) = some ((hangN ns o l.1, la ++ takeL ns l :: lb, hangL o l.1, ()), (true, ())) := by
    intro z hz
    rw [chk_pos hi, letv_eq, w64 (by omega) (by omega)]
    by_cases h0 : o.2.2.1 = 0
    · rw [bif_pos h0]
      unfold queue_Pool_Remove_R1 hangN hangL takeL
      dsimp only
      rw [if_pos h0, if_pos h0, hz]
      rfl
    · rw [bif_neg h0, chk_pos (by rw [List.length_set]; exact hl h0), letv_eq]
      unfold queue_Pool_Remove_R1 hangN hangL takeL
      dsimp only
      rw [if_neg h0, if_neg h0, hz]
      rfl
  by_cases e : l.2.1 = l.1
  · rw [bif_pos e, letv_eq, letv_eq, set_mid hq, get_mid hq, set_mid hq, w64 (x := l.2.2.1 - 1) (by omega) (by omega)]
    exact key _ (by unfold takeL; rw [if_pos e])
  · rw [bif_neg e, letv_eq, set_mid hq, w64 (x := l.2.2.1 - 1) (by omega) (by omega)]
    exact key _ (by unfold takeL; rw [if_neg e])
theorem rem_mid {ns : List Nd} {la lb : List Ln} {l o : Ln} {q z i : Int} (hq : (la.length : Int) = q) (hz : 0 ≤ z ∧ z < (ns.length : Int)) (hzi : nx ns z = i) (hm1 : 1 ≤ l.2.2.1 ∧ l.2.2.1 ≤ 1024) (hi : 0 ≤ i ∧ i < (ns.length : Int)) (hl : o.2.2.1 ≠ 0 → 0 ≤ o.2.1 ∧ o.2.1 < (ns.length : Int)) (hl1 : 0 ≤ o.2.2.1 ∧ o.2.2.1 ≤ 1024) (j : Int) (b : Bool) :
    queue_Pool_Remove_C1 (z, j) ((ns, la ++ l :: lb, o, ()), (b, ())) q queue_Pool_Remove_R1 = some ((hangN (ns.set z.toNat (vl ns z, nx ns i, ())) o i, la ++ takeM ns l z i :: lb, hangL o i, ()), (true, ())) := by
  have hzi' : (ns.getD z.toNat (0, 0, ())).2.1 = i := hzi
  unfold queue_Pool_Remove_C1
  dsimp only
  rw [bnot_neg (by omega), chk_pos hz, hzi', chk_pos hi, letv_eq, bif_neg (by omega), chk_pos hz, letv_eq, get_mid hq]
  have e0 : ns.set z.toNat ((ns.getD z.toNat (0, 0, ())).1, (ns.getD i.toNat (0, 0, ())).2.1, ()) = ns.set z.toNat (vl ns z, nx ns i, ()) := rfl
  rw [e0]
  obtain ⟨N, hN⟩ : ∃ N, ns.set z.toNat (vl ns z, nx ns i, ()) = N := ⟨_, rfl⟩
  have hlen : N.length = ns.length := by rw [← hN, List.length_set]
  rw [hN]
  have key : ∀ y, y = (takeM ns l z i).2.1 → (chk (0 ≤ i ∧ i < (N.length : Int)) <|
    letv (N.set i.toNat ((N.getD i.toNat (0, 0, ())).1, (-1), ())) fun l4 =>
    bif decide (o.2.2.1 = 0) then
      queue_Pool_Remove_R1 (i, i, IntKind.i64.wrap (o.2.2.1 + 1), l4, la ++ (l.1, y, l.2.2.1 - 1, ()) :: lb)
    else
      chk (0 ≤ o.2.1 ∧ o.2.1 < (l4.length : Int)) <|
      letv (l4.set o.2.1.toNat ((l4.getD o.2.1.toNat (0, 0, ())).1, i, ())) fun l5 =>
      queue_Pool_Remove_R1 (o.1, i, IntKind.i64.wrap (o.2.2.1 + 1), l5, la ++ (l.1, y, l.2.2.1 - 1, ()) :: lb)) = some ((hangN N o i, la ++ takeM ns l z i :: lb, hangL o i, ()), (true, ())) := by
    intro y hy
    rw [chk_pos (by omega), letv_eq, w64 (by omega) (by omega)]
    by_cases h0 : o.2.2.1 = 0
    · rw [bif_pos h0]
      unfold queue_Pool_Remove_R1 hangN hangL takeM
      dsimp only
      rw [if_pos h0, if_pos h0, hy]
      rfl
    · have := hl h0
      rw [bif_neg h0, chk_pos (by rw [List.length_set]; omega), letv_eq]
      unfold queue_Pool_Remove_R1 hangN hangL takeM
      dsimp only
      rw [if_neg h0, if_neg h0, hy]
      rfl
  by_cases e : l.2.1 = i
  · rw [bif_pos e, letv_eq, letv_eq, set_mid hq, get_mid hq, set_mid hq, w64 (x := l.2.2.1 - 1) (by omega) (by omega)]
    exact key _ (by unfold takeM; rw [if_pos e])
  · rw [bif_neg e, letv_eq, set_mid hq, w64 (x := l.2.2.1 - 1) (by omega) (by omega)]
    exact key _ (by unfold takeM; rw [if_neg e])
end Qu
end Go.Proofs.YtiicmhholjpcbaaV
