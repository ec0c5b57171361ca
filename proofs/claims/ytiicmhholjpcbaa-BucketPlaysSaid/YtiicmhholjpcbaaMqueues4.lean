/- A new pool. -/
import Derived.Test.YtiicmhholjpcbaaMqueues3
namespace Go.Proofs.YtiicmhholjpcbaaV
set_option linter.unusedVariables false
set_option linter.unusedSimpArgs false
open Go.RowKit
namespace Qu
open QT
def upto : Nat → List Int
  | 0 => []
  | n + 1 => upto n ++ [(n : Int)]
theorem upto_mem : ∀ {n : Nat} {a : Int}, a ∈ upto n → 0 ≤ a ∧ a < n
  | 0, a, h => by cases h
  | n + 1, a, h => by
    rcases List.mem_append.1 h with h | h
    · have := upto_mem h; omega
    · rw [List.mem_singleton.1 h]; omega
theorem upto_len : ∀ n : Nat, (upto n).length = n
  | 0 => rfl
  | n + 1 => by rw [upto, List.length_append, upto_len n]; rfl
theorem hang_step {R : Type} (k : Int × List Nd × Int × Int × Int → Option R) {ns : List Nd} {f z m i : Int} (h : Rep ns (upto i.toNat) (f, z, m, ())) (h0 : 0 ≤ i) (h1 : i < (ns.length : Int)) (hn : ns.length ≤ 1024) :
    (chk (0 ≤ i ∧ i < (ns.length : Int)) <|
    letv (ns.set i.toNat ((ns.getD i.toNat (0, 0, ())).1, (-1), ())) fun l2 =>
    bif decide (m = 0) then
      k (IntKind.i64.wrap (i + 1), l2, i, i, IntKind.i64.wrap (m + 1))
    else
      chk (0 ≤ z ∧ z < (l2.length : Int)) <|
      letv (l2.set z.toNat ((l2.getD z.toNat (0, 0, ())).1, i, ())) fun l3 =>
      k (IntKind.i64.wrap (i + 1), l3, f, i, IntKind.i64.wrap (m + 1))) = k (i + 1, hangN ns (f, z, m, ()) i, (hangL (f, z, m, ()) i).1, i, m + 1) := by
  obtain ⟨⟨a0, a1⟩, a2, a3, a4⟩ := many_of h (by rw [upto_len]; omega)
  dsimp only at a0 a1 a2 a3 a4
  rw [chk_pos ⟨h0, h1⟩, letv_eq, w64 (x := i + 1) (by omega) (by omega), w64 (x := m + 1) (by omega) (by omega)]
  by_cases hm : m = 0
  · rw [bif_pos hm]
    unfold hangN hangL
    dsimp only
    rw [if_pos hm, if_pos hm]; rfl
  · have := a3 hm
    rw [bif_neg hm, chk_pos (by rw [List.length_set]; exact this), letv_eq]
    unfold hangN hangL
    dsimp only
    rw [if_neg hm, if_neg hm]; rfl
theorem hang_next {ns : List Nd} {f z m i : Int} (h : Rep ns (upto i.toNat) (f, z, m, ())) (h0 : 0 ≤ i) (h1 : i < (ns.length : Int)) : Rep (hangN ns (f, z, m, ()) i) (upto (i + 1).toNat) ((hangL (f, z, m, ()) i).1, i, m + 1, ()) := by
  have := hang_rep h ⟨h0, h1⟩ (fun hm => by have := upto_mem hm; omega)
  rw [show (i + 1).toNat = i.toNat + 1 by omega, upto, show ((i.toNat : Nat) : Int) = i by omega]
  exact this
theorem rep_nil (ns : List Nd) : Rep ns [] (-1, -1, 0, ()) := ⟨rfl, fun _ => rfl, (fun a h => by cases h), (fun a h => by cases h), trivial, (fun a h => by cases h), List.nodup_nil⟩
theorem all_nil (ns : List Nd) : ∀ n : Nat, All2 (Rep ns) (List.replicate n []) (List.replicate n (-1, -1, 0, ()))
  | 0 => trivial
  | n + 1 => ⟨rep_nil ns, all_nil ns n⟩
theorem flat_nil : ∀ n : Nat, (List.replicate n ([] : List Int)).flatten = []
  | 0 => rfl
  | n + 1 => by rw [List.replicate_succ, List.flatten_cons, flat_nil n]; rfl
theorem upto_nodup : ∀ n : Nat, (upto n).Nodup
  | 0 => List.nodup_nil
  | n + 1 => by
    rw [upto, List.nodup_append]
    refine ⟨upto_nodup n, by simp, fun a ha b hb e => ?_⟩
    have := upto_mem ha
    rw [List.mem_singleton.1 hb] at e
    omega
theorem new_fit {ns : List Nd} {o : Ln} {q : Nat} (h : Rep ns (upto ns.length) o) (hn : ns.length ≤ 1024) (h1 : 1 ≤ q) (h2 : q ≤ 64) : Fit (ns, List.replicate q (-1, -1, 0, ()), o, ()) (List.replicate q []) (upto ns.length) :=
  ⟨all_nil ns q, h, by rw [flat_nil, List.append_nil]; exact upto_nodup _, by rw [flat_nil, List.append_nil]; exact upto_len _, hn, by simp; omega, by simp; omega⟩
theorem new_vals (x : Pl) (q : Nat) : vals x (List.replicate q []) = List.replicate q [] := by unfold vals; rw [List.map_replicate]; rfl
/-- Lines, one by one. -/
theorem repl_snoc {α : Type} (n : Nat) (a : α) : List.replicate n a ++ [a] = List.replicate (n + 1) a := (List.replicate_succ' (n := n) (a := a)).symm
theorem new_R {q room : Int} (h1 : 1 ≤ q) (h2 : q ≤ 64) (h3 : 0 ≤ room) (h4 : room ≤ 1024) : R03_New q room = some ((room, List.replicate q.toNat [], ()), 0, ()) := by
  unfold R03_New
  rw [bif_neg (by omega), bif_neg (by omega), bif_neg (by omega), bif_neg (by omega), chk_pos (by omega)]
theorem new_bad {q room : Int} (h : q < 1 ∨ q > 64 ∨ room < 0 ∨ room > 1024) : R03_New q room = some ((0, [], ()), 1, ()) := by
  unfold R03_New
  by_cases h1 : q < 1
  · rw [bif_pos h1]
  rw [bif_neg h1]
  by_cases h2 : q > 64
  · rw [bif_pos h2]
  rw [bif_neg h2]
  by_cases h3 : room < 0
  · rw [bif_pos h3]
  rw [bif_neg h3, bif_pos (by omega)]
theorem pop_empty {x : Pl} {ps : List (List Int)} {po : List Int} {q : Int} (h : Fit x ps po) (h0 : 0 ≤ q) (h1 : q < (ps.length : Int)) (hv : (vals x ps).getD q.toNat [] = []) : queue_Pool_Pop x q = some (x, (0, 11, ())) := by
  obtain ⟨pa, p, pb, rfl, e⟩ := h.cut h0 h1
  rw [vals_get e] at hv
  have hp : p = [] := List.map_eq_nil_iff.1 hv
  subst hp
  obtain ⟨la, l, lb, hA⟩ := h.at
  obtain ⟨ns, ls, o, ⟨⟩⟩ := x
  have e1 := hA.ls
  have rp := hA.r
  dsimp only at e1 rp
  subst e1
  have hle := hA.len
  obtain ⟨a1, a2, a3, a4⟩ := many_of rp hA.n
  have f1 := first_eq (ns := ns) (la := la) (lb := lb) (l := l) (o := o) (q := q) (by omega) a4
  rw [rp.many] at f1
  exact pop_none f1 (by decide)
/-- A pop where something is, by the values. -/
theorem pop_val {x : Pl} {ps : List (List Int)} {po : List Int} {q v : Int} {r : List Int} (h : Fit x ps po) (h0 : 0 ≤ q) (h1 : q < (ps.length : Int)) (hv : (vals x ps).getD q.toNat [] = v :: r) :
    ∃ x' ps' po', Fit x' ps' po' ∧ x'.1.length = x.1.length ∧ ps'.length = ps.length ∧ queue_Pool_Pop x q = some (x', (v, 0, ())) ∧ vals x' ps' = (vals x ps).set q.toNat r := by
  obtain ⟨pa, p, pb, rfl, e⟩ := h.cut h0 h1
  have hg := vals_get (x := x) (p := p) (pb := pb) e
  rw [hv] at hg
  cases p with
  | nil => cases hg
  | cons i p =>
    obtain ⟨x', f1, f2, f3, f4⟩ := pop_fit h e
    rw [List.map_cons] at hg
    obtain ⟨e1, e2⟩ := List.cons.inj hg
    refine ⟨x', _, _, f2, f3, by simp, by rw [e1]; exact f1, ?_⟩
    rw [free_vals h e (fun a ha => List.mem_cons_of_mem _ ha) f4, e2]
theorem push_val {x : Pl} {ps : List (List Int)} {po : List Int} {q v : Int} (h : Fit x ps po) (h0 : 0 ≤ q) (h1 : q < (ps.length : Int)) (hp : po ≠ []) :
    ∃ x' ps' po', Fit x' ps' po' ∧ x'.1.length = x.1.length ∧ ps'.length = ps.length ∧ po'.length + 1 = po.length ∧ queue_Pool_Push x q v = some (x', (0, ())) ∧ vals x' ps' = (vals x ps).set q.toNat ((vals x ps).getD q.toNat [] ++ [v]) := by
  cases po with
  | nil => exact absurd rfl hp
  | cons i po =>
    obtain ⟨pa, p, pb, rfl, e⟩ := h.cut h0 h1
    obtain ⟨x', f1, f2, f3, f4⟩ := push_fit (v := v) h e
    exact ⟨x', _, _, f2, f3, by simp, by simp, f1, push_vals h e f4⟩
theorem list_val {x : Pl} {ps : List (List Int)} {po : List Int} {q : Int} (h : Fit x ps po) (h0 : 0 ≤ q) (h1 : q < (ps.length : Int)) : queue_Pool_List x q = some (x, ((vals x ps).getD q.toNat [], ())) ∧ ((vals x ps).getD q.toNat []).length ≤ 1024 := by
  obtain ⟨pa, p, pb, rfl, e⟩ := h.cut h0 h1
  rw [vals_get e]
  obtain ⟨la, l, lb, hA⟩ := h.at
  have hn := hA.n
  obtain ⟨ns, ls, o, ⟨⟩⟩ := x
  have e1 := hA.ls
  have rp := hA.r
  dsimp only at e1 rp
  subst e1
  have hle := hA.len
  exact ⟨list_eq (by omega) rp (by omega), by simpa using hn⟩
theorem alive03 : L03_alive = some true := by decide +kernel
end Qu
end Go.Proofs.YtiicmhholjpcbaaV
