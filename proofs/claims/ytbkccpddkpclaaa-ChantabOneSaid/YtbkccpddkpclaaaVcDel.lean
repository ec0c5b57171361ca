/- slices.Delete at []int, by the shelf's contract: what it does to a row of the call's own. -/
import Derived.Test.YtbkccpddkpclaaaVcY
import Derived.Shelf.Slices.Delete
set_option linter.unusedVariables false
set_option linter.unusedSimpArgs false
namespace Go.Proofs.YtbkccpddkpclaaaV
open Go.RowKit Go.Shelf Go.Sort Go.Lib

/-- The elements from i to j go; the row isn't one that is written any more. -/
def delT : Proc := fun off hp vs0 k => match vs0 with
  | [.own id, .int .i64 i, .int .i64 j] => match lkb hp id with
    | .row _ (.int .i64) xs false => (0 ≤ i ∧ i < j ∧ j ≤ ((xs : List Int).length : Int)) ∧ forceH (killH id hp) fun hp => k ((id, .none) :: hp) (some ([id], 0)) (.ro (.int .i64) ((xs : List Int).take i.toNat ++ (xs : List Int).drop j.toNat))
    | _ => False
  | _ => False

theorem EncL_int2 {ok : Nat → Prop} {w : World} : ∀ {xs : List Int} {vs : List Value}, EncL (Enc ok w (.int .i64)) xs vs → vs = xs.map (Value.int .i64) ∧ ∀ x ∈ xs, (Lit.int .i64 x).wf = true
  | [], vs, h => ⟨h, fun x hx => by cases hx⟩
  | x :: xs, vs, h => by
    obtain ⟨u, v, rfl, ⟨rfl, hw⟩, hv⟩ := h
    obtain ⟨rfl, h2⟩ := EncL_int2 hv
    refine ⟨rfl, fun y hy => ?_⟩
    rcases List.mem_cons.1 hy with rfl | hy
    · exact hw
    · exact h2 y hy

theorem del_con {P : Program} {r : Ren} {fn : Func} {c : Code} (L : Lays2.n23 P r) (hf : P.funcs[r.f 23]? = some fn) (hb : fn.body = some c) (hnm : (fn.name == "runtime.NumGoroutine") = false) : SCon P (r.f 23) delT := by
  intro off X ρ hp w vs0 xs a0 K hXP R0 hok hargs h
  subst hXP
  unfold delT at h
  split at h
  · rename_i id i j
    split at h
    · rename_i te ys hrow
      obtain ⟨⟨i0, i1, i2⟩, h⟩ := h
      rw [forceH_eq] at h
      change List Int at ys
      obtain ⟨z, zs, e1, hz, ha, z2, zs2, e2, hz2, ha2, z3, zs3, e3, hz3, ha3, e4⟩ := hargs
      have hO := VR_own (c := cx X ρ hp w) ⟨hz, ha⟩
      obtain ⟨rfl, _⟩ := VR_int (c := cx X ρ hp w) ⟨hz2, ha2⟩
      obtain ⟨rfl, _⟩ := VR_int (c := cx X ρ hp w) ⟨hz3, ha3⟩
      unfold OwnV at hO
      rw [show (cx X ρ hp w).hp = hp from rfl, hrow] at hO
      obtain ⟨A, n, hzz, n1, n2, _, n3⟩ := hO
      have hne : ys ≠ [] := fun h0 => by subst h0; simp at i2; omega
      obtain ⟨rfl, n4, _⟩ := n3 hne
      cases hzz
      have hh := R0.heap id
      rw [show (⟨[], hp, some ([], 0)⟩ : St).hp = hp from rfl, hrow] at hh
      obtain ⟨_, hh⟩ := hh
      obtain ⟨g1, cs, g2, g3, g4⟩ := hh hne
      obtain ⟨g5, g6⟩ := EncL_int2 g4
      have hlen : cs.size ≥ ys.length := by simpa [Ty.size] using g3
      have hcs : ∀ k (hk : k < ys.length), cs[k]? = some (.int .i64 ys[k]) := by
        intro k hk
        have := congrArg (fun l : List Value => l[k]?) g5
        simp only [Ty.size, Nat.mul_one, List.getElem?_take, hk, if_true, Array.getElem?_toList, List.getElem?_map, List.getElem?_eq_getElem hk, Option.map_some] at this
        exact this
      have hxs : xs = #[.slice (some ⟨ρ id, 0, none⟩) ys.length n, .int .i64 (i.toNat : Int), .int .i64 (j.toNat : Int)] := by
        apply Array.ext'
        rw [e1, e2, e3, e4, Int.toNat_of_nonneg i0, Int.toNat_of_nonneg (by omega : 0 ≤ j)]
        rfl
      have hH : Holds (Value.int .i64) w (ρ id) 0 ys.toArray := by
        intro k hk
        have hk : k < ys.length := by simpa using hk
        refine ⟨?_, ?_⟩
        · show w.cell? ⟨ρ id, 0 + k, none⟩ = _
          simp only [World.cell?, show w.heap[ρ id]? = _ from g2, Nat.zero_add]
          rw [hcs k hk]
          simp [hk]
        · simp [World.frozen?, show w.heap[ρ id]? = _ from g2]
      have hC := Any.slices_Delete_int L (ρ id) 0 n i.toNat j.toNat ys w hH n4 n1 (by omega) (by omega)
      subst hxs
      refine .inr ⟨run_enter hf hb hnm _ w, calls_mono hC ?_⟩
      rintro e w' ⟨rfl, q, hw'⟩
      obtain ⟨d, hd⟩ : ∃ d, d = (ys.take i.toNat ++ ys.drop j.toNat ++ List.replicate (j.toNat - i.toNat) (0 : Int)).toArray := ⟨_, rfl⟩
      rw [← hd] at hw'
      have hds : d.size = ys.toArray.size := by rw [hd]; simp; omega
      have hHq : Holds (Value.int .i64) (Sort.ahead w q) (ρ id) 0 ys.toArray := hH
      have hcell := cell?_putRow (Value.int .i64) (Sort.ahead w q) (ρ id) 0 ys.toArray d hHq hds
      rw [← hw'] at hcell
      have hheap : w'.heap = w.heap.modify (ρ id) (onCells (putCells (Value.int .i64) 0 d)) := by rw [hw']; rfl
      have hsz : w'.heap.size = w.heap.size := by rw [hheap]; simp
      have hoth : ∀ k, k ≠ ρ id → w'.heap[k]? = w.heap[k]? := by
        intro k hk
        rw [hheap, Array.getElem?_modify, if_neg (fun e => hk e.symm)]
      have hlv : live (lkb (⟨[], hp, some ([], 0)⟩ : St).hp id) := by rw [show (⟨[], hp, some ([], 0)⟩ : St).hp = hp from rfl, hrow]; exact hne
      have hB : Below X.base X.w0 w' := by
        have h0 := R0.below
        refine ⟨?_, ?_, ?_, by rw [hsz]; exact h0.size, fun k hk => ?_⟩
        · rw [hw']; exact h0.os
        · rw [hw']; exact h0.tape
        · rw [hw']; exact h0.output
        · rw [hoth k (by have := (R0.lt hlv).1; omega)]; exact h0.block k hk
      obtain ⟨_, R1⟩ := RR.turn (ρ' := ρ) (w' := w') R0 id .none (fun _ _ => rfl) hB (by omega) (fun k _ hk => hoth k (hk id rfl (by rw [show (⟨[], hp, some ([], 0)⟩ : St).hp = hp from rfl, hrow]; exact hne))) (fun hl => hl.elim) (fun hl => hl.elim) (fun c' _ _ => trivial)
      refine ⟨_, rfl, ρ, _, _, _, a0, h, R1, ?_, rfl⟩
      have hl2 : (ys.take i.toNat ++ ys.drop j.toNat).length = ys.length - (j.toNat - i.toNat) := by simp; omega
      refine ⟨some ⟨ρ id, 0, none⟩, n, ?_, ?_, n1, ?_, fun _ hA => (by cases hA), fun _ => ⟨ρ id, 0, rfl, ⟨.inr g1, by rw [hsz]; exact (R0.lt hlv).2, ?_⟩, ?_⟩⟩
      · rw [hl2]; rfl
      · rw [hl2]; omega
      · rw [hl2]; omega
      · intro id' hl' he
        have hne' : id' ≠ id := fun e => by subst e; rw [lkb_cons, if_pos rfl] at hl'; exact hl'
        rw [lkb_cons, if_neg (fun e => hne' e.symm), lkb_killH] at hl'
        rw [(live_killB _ _).2] at hl'
        exact hne' (R0.inj id' id (liveW_live hl') hlv he)
      · intro k hk
        have hkd : k < d.size := by rw [hd]; simp; simp at hk; omega
        have hval : d[k]! = (ys.take i.toNat ++ ys.drop j.toNat)[k] := by
          rw [getElem!_pos d k hkd]
          simp only [hd, List.getElem_toArray]
          rw [List.getElem_append_left hk]
        refine ⟨[.int .i64 (ys.take i.toNat ++ ys.drop j.toNat)[k]], rfl, fun m hm => ?_, rfl, ?_⟩
        · obtain rfl : m = 0 := by have : m < 1 := hm; omega
          have := hcell k hkd
          rw [hval] at this
          show w'.cell? ⟨ρ id, 0 + k * 1 + 0, none⟩ = _
          rw [show 0 + k * 1 + 0 = 0 + k by omega]
          exact this
        · refine g6 _ ?_
          have := List.getElem_mem hk
          rcases List.mem_append.1 this with h1 | h1
          · exact List.mem_of_mem_take h1
          · exact List.mem_of_mem_drop h1
    · exact h.elim
  · exact h.elim
end Go.Proofs.YtbkccpddkpclaaaV
