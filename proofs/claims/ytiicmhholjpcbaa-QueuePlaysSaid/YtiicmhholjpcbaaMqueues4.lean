/- A new pool. -/
import Derived.Test.YtiicmhholjpcbaaMqueues3
namespace Go.Proofs.YtiicmhholjpcbaaV
set_option linter.unusedVariables false
set_option linter.unusedSimpArgs false
open Go.RowKit
namespace Qu
open QT
def upto : Nat → List Int
  | 0 => []
  | n + 1 => upto n ++ [(n : Int)]
theorem upto_mem : ∀ {n : Nat} {a : Int}, a ∈ upto n → 0 ≤ a ∧ a < n
  | 0, a, h => by cases h
  | n + 1, a, h => by
    rcases List.mem_append.1 h with h | h
    · have := upto_mem h; omega
    · rw [List.mem_singleton.1 h]; omega
theorem upto_len : ∀ n : Nat, (upto n).length = n
  | 0 => rfl
  | n + 1 => by rw [upto, List.length_append, upto_len n]; rfl
theorem hang_step {R : Type} (k : Int × List Nd × Int × Int × Int → Option R) {ns : List Nd} {f z m i : Int} (h : Rep ns (upto i.toNat) (f, z, m, ())) (h0 : 0 ≤ i) (h1 : i < (ns.length : Int)) (hn : ns.length ≤ 1024) :
    (chk (0 ≤ i ∧ i < (ns.length : Int)) <|
    letv (ns.set i.toNat ((ns.getD i.toNat (0, 0, ())).1, (-1), ())) fun l2 =>
    bif decide (m = 0) then
      k (IntKind.i64.wrap (i + 1), l2, i, i, IntKind.i64.wrap (m + 1))
    else
      chk (0 ≤ z ∧ z < (l2.length : Int)) <|
      letv (l2.set z.toNat ((l2.getD z.toNat (0, 0, ())).1, i, ())) fun l3 =>
      k (IntKind.i64.wrap (i + 1), l3, f, i, IntKind.i64.wrap (m + 1))) = k (i + 1, hangN ns (f, z, m, ()) i, (hangL (f, z, m, ()) i).1, i, m + 1) := by
  obtain ⟨⟨a0, a1⟩, a2, a3, a4⟩ := many_of h (by rw [upto_len]; omega)
  dsimp only at a0 a1 a2 a3 a4
  rw [chk_pos ⟨h0, h1⟩, letv_eq, w64 (x := i + 1) (by omega) (by omega), w64 (x := m + 1) (by omega) (by omega)]
  by_cases hm : m = 0
  · rw [bif_pos hm]
    unfold hangN hangL
    dsimp only
    rw [if_pos hm, if_pos hm]; rfl
  · have := a3 hm
    rw [bif_neg hm, chk_pos (by rw [List.length_set]; exact this), letv_eq]
    unfold hangN hangL
    dsimp only
    rw [if_neg hm, if_neg hm]; rfl
theorem hang_next {ns : List Nd} {f z m i : Int} (h : Rep ns (upto i.toNat) (f, z, m, ())) (h0 : 0 ≤ i) (h1 : i < (ns.length : Int)) : Rep (hangN ns (f, z, m, ()) i) (upto (i + 1).toNat) ((hangL (f, z, m, ()) i).1, i, m + 1, ()) := by
  have := hang_rep h ⟨h0, h1⟩ (fun hm => by have := upto_mem hm; omega)
  rw [show (i + 1).toNat = i.toNat + 1 by omega, upto, show ((i.toNat : Nat) : Int) = i by omega]
  exact this
theorem rep_nil (ns : List Nd) : Rep ns [] (-1, -1, 0, ()) := ⟨rfl, fun _ => rfl, (fun a h => by cases h), (fun a h => by cases h), trivial, (fun a h => by cases h), List.nodup_nil⟩
theorem all_nil (ns : List Nd) : ∀ n : Nat, All2 (Rep ns) (List.replicate n []) (List.replicate n (-1, -1, 0, ()))
  | 0 => trivial
  | n + 1 => ⟨rep_nil ns, all_nil ns n⟩
theorem flat_nil : ∀ n : Nat, (List.replicate n ([] : List Int)).flatten = []
  | 0 => rfl
  | n + 1 => by rw [List.replicate_succ, List.flatten_cons, flat_nil n]; rfl
theorem upto_nodup : ∀ n : Nat, (upto n).Nodup
  | 0 => List.nodup_nil
  | n + 1 => by
    rw [upto, List.nodup_append]
    refine ⟨upto_nodup n, by simp, fun a ha b hb e => ?_⟩
    have := upto_mem ha
    rw [List.mem_singleton.1 hb] at e
    omega
theorem new_fit {ns : List Nd} {o : Ln} {q : Nat} (h : Rep ns (upto ns.length) o) (hn : ns.length ≤ 1024) (h1 : 1 ≤ q) (h2 : q ≤ 64) : Fit (ns, List.replicate q (-1, -1, 0, ()), o, ()) (List.replicate q []) (upto ns.length) :=
  ⟨all_nil ns q, h, by rw [flat_nil, List.append_nil]; exact upto_nodup _, by rw [flat_nil, List.append_nil]; exact upto_len _, hn, by simp; omega, by simp; omega⟩
theorem new_vals (x : Pl) (q : Nat) : vals x (List.replicate q []) = List.replicate q [] := by unfold vals; rw [List.map_replicate]; rfl
/-- Lines, one by one. -/
theorem repl_snoc {α : Type} (n : Nat) (a : α) : List.replicate n a ++ [a] = List.replicate (n + 1) a := (List.replicate_succ' (n := n) (a := a)).symm
theorem new_R {q room : Int} (h1 : 1 ≤ q) (h2 : q ≤ 64) (h3 : 0 ≤ room) (h4 : room ≤ 1024) : R03_New q room = some ((room, List.replicate q.toNat [], ()), 0, ()) := by
  unfold R03_New
  rw [bif_neg (by omega), bif_neg (by omega), bif_neg (by omega), bif_neg (by omega), chk_pos (by omega)]
theorem new_bad {q room : Int} (h : q < 1 ∨ q > 64 ∨ room < 0 ∨ room > 1024) : R03_New q room = some ((0, [], ()), 1, ()) := by
  unfold R03_New
  by_cases h1 : q < 1
  · rw [bif_pos h1]
  rw [bif_neg h1]
  by_cases h2 : q > 64
  · rw [bif_pos h2]
  rw [bif_neg h2]
  by_cases h3 : room < 0
  · rw [bif_pos h3]
  rw [bif_neg h3, bif_pos (by omega)]
theorem alive03 : L03_alive = some true := by decide +kernel
end Qu
end Go.Proofs.YtiicmhholjpcbaaV
