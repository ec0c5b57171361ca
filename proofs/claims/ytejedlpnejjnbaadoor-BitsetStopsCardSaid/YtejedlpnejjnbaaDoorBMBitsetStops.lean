/- BitsetStops: who ranges over a set's ids, and stops. -/
import Derived.Test.YtejedlpnejjnbaaDoorBMsets4
import Derived.Test.YtejedlpnejjnbaaDoorBDL04
import Derived.Test.YtejedlpnejjnbaaDoorBDBitsetStops
namespace Go.Proofs.YtejedlpnejjnbaaDoorBV
set_option linter.unusedVariables false
set_option linter.unusedSimpArgs false
theorem alive04 : L04_alive = some true := by decide +kernel
namespace BS
theorem wfu64 {n : Int} (h : wfD (.int .u64) n) : 0 ≤ n ∧ n < 18446744073709551616 := by
  have h : (Lit.int .u64 n).wf = true := h
  simp [Lit.wf, IntKind.min, IntKind.max, IntKind.signed, IntKind.bits] at h
  omega
theorem wf_of {s : List Int} (h : wfD (.arr 4 (.int .u64)) s) : Wf s := by
  obtain ⟨h1, h2⟩ := h
  match s, h1, h2 with
  | [a, b, c, d], _, h2 =>
    have ha := wfu64 (h2 a (by simp)); have hb := wfu64 (h2 b (by simp)); have hc := wfu64 (h2 c (by simp)); have hd := wfu64 (h2 d (by simp))
    refine ⟨a.toNat, b.toNat, c.toNat, d.toNat, ?_, ?_, ?_, ?_, ?_⟩
    · rw [Int.toNat_of_nonneg ha.1, Int.toNat_of_nonneg hb.1, Int.toNat_of_nonneg hc.1, Int.toNat_of_nonneg hd.1]
    all_goals (show _ < 18446744073709551616; omega)
/-- Back from the list. -/
theorem of_ids {s : List Int} (h : Wf s) : bitset_Of (ids (mem s)) = some s := by
  have hl := ids_len (mem s)
  obtain ⟨t, t1, t2, t3⟩ := Of_eq (ids (mem s)) (by omega)
  rw [t1]; congr 1
  refine ext t2 h fun i hi => ?_
  rw [t3 i hi, Bool.eq_iff_iff, decide_eq_true_iff, ids_mem_nat]
  exact ⟨fun h => h.2, fun h => ⟨hi, h⟩⟩
theorem ids_split {p : Nat → Bool} {j : Nat} (hj : j ≤ 256) : ∃ r, ids p = idsTo p j ++ r := by
  obtain ⟨m, h256⟩ : ∃ m, 256 = j + m := ⟨256 - j, by omega⟩
  refine ⟨((List.range' j m).filter p).map fun (i : Nat) => (i : Int), ?_⟩
  unfold ids idsTo
  rw [← List.map_append, ← List.filter_append]
  congr 2
  rw [h256, List.range_eq_range', List.range_eq_range']
  have := List.range'_append_1 (s := 0) (m := j) (n := m)
  rw [Nat.zero_add] at this
  rw [this]
theorem ids_at {p : Nat → Bool} {i : Nat} (hi : i < 256) (hp : p i = true) : (idsTo p i).length < (ids p).length ∧ (ids p).getD (idsTo p i).length 0 = (i : Int) := by
  obtain ⟨r, hr⟩ := ids_split (p := p) (j := i + 1) (by omega)
  rw [idsTo_succ hp] at hr
  rw [hr]
  refine ⟨by simp, ?_⟩
  simp
theorem stops (s : List Int) (st : Int) (hs : Wf s) (h0 : 0 ≤ st) (h1 : st ≤ 255) : L04_BitsetStops s st = some true := by
  unfold L04_BitsetStops
  rw [List_eq hs, Option.bind_some, cutv_eq]
  unfold L04_BitsetStops_C1 L04_BitsetStops_R1
  simp only
  have hw : IntKind.i64.wrap st = st := w64 (by omega) (by omega)
  have hlen := ids_len (mem s)
  have fin : ∀ n : Int, n = min ((ids (mem s)).length : Int) (st + 1) → L04_BitsetStops_J1 (s, st, ids (mem s), s) n = some true := by
    intro n hn
    unfold L04_BitsetStops_J1
    simp only
    rw [hw, w64 (by omega) (by omega), bif_pos hn, of_ids hs, Option.bind_some, bif_pos rfl, alive04]; rfl
  rw [Next_eq hs 0 (by omega), Option.bind_some]
  refine loop_by (fun x => ∃ j : Nat, j ≤ 256 ∧ ((idsTo (mem s) j).length : Int) ≤ st ∧ x = ((res (nxt (mem s) j)).1, (res (nxt (mem s) j)).2.1, ((idsTo (mem s) j).length : Int))) (fun x => 257 - x.2.2.toNat) (fun _ => some true) ⟨0, by omega, by simpa [idsTo] using h0, rfl⟩ (by simp) ?_
  rintro k x ⟨j, hj, hjs, rfl⟩ hk
  unfold L04_BitsetStops_L1
  simp only at hk ⊢
  have hlen := idsTo_len (mem s) j
  cases hn : nxt (mem s) j with
  | none =>
    simp only [res, cond_false]
    unfold L04_BitsetStops_J2
    refine fin _ ?_
    have : ids (mem s) = idsTo (mem s) j := idsTo_ext hj (nxt_no hn)
    rw [this]; omega
  | some i =>
    obtain ⟨i1, i2, i3, i4⟩ := nxt_out hn
    simp only [res, cond_true]
    have he : idsTo (mem s) j = idsTo (mem s) i := (idsTo_ext i1 i4).symm
    obtain ⟨a1, a2⟩ := ids_at i2 i3
    rw [← he] at a1 a2
    rw [bif_neg (by omega), chk_pos (by omega), Int.toNat_natCast, a2]
    refine (bnot_pos rfl).trans ?_
    rw [hw, w64 (by omega) (by omega)]
    by_cases hst : ((idsTo (mem s) j).length : Int) + 1 > st
    · rw [bif_pos hst]
      exact fin _ (by omega)
    · rw [bif_neg hst, w64 (by omega) (by omega), Next_eq hs _ (by omega), Option.bind_some]
      have e : (max ((i : Int) + 1) 0).toNat = i + 1 := by omega
      rw [e]
      have e2 : (idsTo (mem s) (i + 1)).length = (idsTo (mem s) j).length + 1 := by rw [idsTo_succ i3, he]; simp
      refine hk _ ⟨i + 1, by omega, by omega, by rw [e2]; simp⟩ ?_
      simp only
      omega
end BS
theorem law_L04_BitsetStops : ∀ x : ((.pair (.arr 4 (.int .u64)) (.pair (.int .u8) .unit)) : Ty).den, wfD (.pair (.arr 4 (.int .u64)) (.pair (.int .u8) .unit)) x → L04_BitsetStops x.1 x.2.1 = some true :=
  fun x hx => BS.stops x.1 x.2.1 (BS.wf_of hx.1) (wfu8 hx.2.1).1 (wfu8 hx.2.1).2
end Go.Proofs.YtejedlpnejjnbaaDoorBV
