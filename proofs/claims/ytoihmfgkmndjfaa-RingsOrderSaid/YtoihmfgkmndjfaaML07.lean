/- The laws of rings. -/
import Derived.Test.YtoihmfgkmndjfaaMKit
import Derived.Test.YtoihmfgkmndjfaaDL07
namespace Go.Proofs.YtoihmfgkmndjfaaV
set_option linter.unusedVariables false
set_option linter.unusedSimpArgs false
open Go.RowKit
theorem alive07 : L07_alive = some true := by decide +kernel
namespace L07
def pos (n f j : Int) : Int := if f + j < n then f + j else f + j - n
theorem pos_is {n f j : Int} (h0 : 0 ≤ f) (h1 : f < n) (h2 : 0 ≤ j) (h3 : j ≤ n) : Int.tmod (f + j) n = pos n f j := by
  rw [Int.tmod_eq_emod_of_nonneg (by omega)]
  unfold pos
  by_cases h : f + j < n
  · rw [if_pos h, Int.emod_eq_of_lt (by omega) h]
  · rw [if_neg h]
    have e : f + j = (f + j - n) + n := by omega
    rw [e, Int.add_emod_right, Int.emod_eq_of_lt (by omega) (by omega)]
    omega
theorem getD_set {xs : List Int} {i j : Nat} {v : Int} (hj : j < xs.length) : (xs.set j v).getD i 0 = if i = j then v else xs.getD i 0 := by
  rw [List.getD_eq_getElem?_getD, List.getD_eq_getElem?_getD, List.getElem?_set]
  by_cases h : j = i
  · subst h; simp [hj]
  · rw [if_neg h, if_neg (Ne.symm h)]
theorem getD_app {xs ys : List Int} {i : Nat} (hi : i < xs.length) : (xs ++ ys).getD i 0 = xs.getD i 0 := by
  rw [List.getD_eq_getElem?_getD, List.getD_eq_getElem?_getD, List.getElem?_append_left hi]
theorem getD_last {xs : List Int} {x : Int} : (xs ++ [x]).getD xs.length 0 = x := by
  rw [List.getD_eq_getElem?_getD]; simp
/-- The ring holds what came in and did not go. -/
structure Ri (all : List Int) (f m out : Int) (inn : List Int) : Prop where
  n1 : 1 ≤ all.length
  n2 : all.length ≤ 1000
  f0 : 0 ≤ f
  f1 : f < (all.length : Int)
  m0 : 0 ≤ m
  m1 : m ≤ (all.length : Int)
  o0 : 0 ≤ out
  om : m = (inn.length : Int) - out
  has : ∀ j, 0 ≤ j → j < m → all.getD (pos all.length f j).toNat 0 = inn.getD (out + j).toNat 0
theorem Ri.push {all inn : List Int} {f m out : Int} (h : Ri all f m out inn) (hm : m < (all.length : Int)) (x : Int) : Ri (all.set (pos all.length f m).toNat x) f (m + 1) out (inn ++ [x]) := by
  have := h.n1; have := h.n2; have f0 := h.f0; have f1 := h.f1; have m0 := h.m0; have o0 := h.o0; have om := h.om
  have hp : 0 ≤ pos all.length f m ∧ pos all.length f m < all.length := by unfold pos; split <;> omega
  refine ⟨by simpa using h.n1, by simpa using h.n2, f0, by simpa using f1, by omega, by simp; omega, o0, by simp; omega, fun j j0 j1 => ?_⟩
  rw [List.length_set, getD_set (by omega)]
  by_cases e : j = m
  · subst e
    rw [if_pos rfl, show (out + j).toNat = inn.length by omega, getD_last]
  · have hq : (pos all.length f j).toNat ≠ (pos all.length f m).toNat := by
      unfold pos at hp ⊢
      split at hp <;> split <;> omega
    rw [if_neg hq, getD_app (by omega)]
    exact h.has j j0 (by omega)
theorem Ri.pop {all inn : List Int} {f m out : Int} (h : Ri all f m out inn) (hm : 1 ≤ m) : all.getD f.toNat 0 = inn.getD out.toNat 0 ∧ Ri (all.set f.toNat 0) (pos all.length f 1) (m - 1) (out + 1) inn := by
  have := h.n1; have := h.n2; have f0 := h.f0; have f1 := h.f1; have m0 := h.m0; have m1 := h.m1; have o0 := h.o0; have om := h.om
  constructor
  · have := h.has 0 (by omega) (by omega)
    rw [show pos all.length f 0 = f by unfold pos; rw [if_pos (by omega)]; omega, show out + 0 = out by omega] at this
    exact this
  · have hp : 0 ≤ pos all.length f 1 ∧ pos all.length f 1 < all.length := by unfold pos; split <;> omega
    refine ⟨by simpa using h.n1, by simpa using h.n2, hp.1, by simpa using hp.2, by omega, by simp; omega, by omega, by omega, fun j j0 j1 => ?_⟩
    rw [List.length_set, getD_set (by omega)]
    have e : pos all.length (pos all.length f 1) j = pos all.length f (j + 1) := by
      unfold pos at hp ⊢
      split at hp <;> split <;> split <;> omega
    have hq : (pos all.length f (j + 1)).toNat ≠ f.toNat := by
      unfold pos
      split <;> omega
    rw [e, if_neg hq, h.has (j + 1) (by omega) (by omega), show out + (j + 1) = out + 1 + j by omega]
abbrev X := List Bool × Int × List Int × Int × Int × List Int × List Int × Int × Int
theorem order (a : Int) (l : List Int) (pops : List Bool) (ha : 0 ≤ a ∧ a ≤ 255) : L07_RingsOrder a l pops = some true := by
  unfold L07_RingsOrder
  rw [chk_pos (by omega), Int.tmod_eq_emod_of_nonneg ha.1, w64 (x := a % 16) (by omega) (by omega), w64 (x := 1 + a % 16) (by omega) (by omega), bif_neg (by omega), bif_neg (by omega), chk_pos ⟨rfl, by omega, by omega⟩, letv_eq, alive07]
  by_cases h1 : (l.length : Int) > 200
  · rw [bif_pos h1]; rfl
  rw [bif_neg h1]
  by_cases h2 : (pops.length : Int) > 200
  · rw [bif_pos h2]; rfl
  rw [bif_neg h2]
  have hr0 : Ri (List.replicate (1 + a % 16).toNat 0) 0 0 0 [] := ⟨by simp; omega, by simp; omega, by omega, by simp; omega, by omega, by omega, by omega, by simp, fun j j0 j1 => by omega⟩
  refine loop_up (fun x : X => x.2.2.2.2.1) l.length (fun x : X => x.1 = pops ∧ x.2.2.1 = l ∧ x.2.2.2.1 = l.length ∧ 0 ≤ x.2.2.2.2.1 ∧ x.2.2.2.2.1 ≤ l.length ∧ (x.2.2.2.2.2.1.length : Int) ≤ x.2.2.2.2.1 ∧ Ri x.2.2.2.2.2.2.1 x.2.2.2.2.2.2.2.1 x.2.2.2.2.2.2.2.2 x.2.1 x.2.2.2.2.2.1) (fun _ => some true) ⟨rfl, rfl, rfl, by simp, by simp, by simp, hr0⟩ (by simp; omega) ?_
  rintro k ⟨pops', out, l', n', i, inn, all, f, m⟩ ⟨e1, e2, e3, i0, i1, il, h⟩ hk
  simp only at e1 e2 e3 i0 i1 il h
  subst e1 e2 e3
  unfold L07_RingsOrder_L1
  simp only
  by_cases hi : i < (l'.length : Int)
  · rw [bif_pos hi, cutv_eq]
    have hk : ∀ (out' : Int) (inn' all' : List Int) (f' m' : Int), (inn'.length : Int) ≤ i + 1 → Ri all' f' m' out' inn' → k (pops', out', l', (l'.length : Int), IntKind.i64.wrap (i + 1), inn', all', f', m') = some true := by
      intro out' inn' all' f' m' k1 k2
      rw [w64 (by omega) (by omega)]
      exact hk hi _ ⟨rfl, rfl, rfl, by simp only; omega, by simp only; omega, k1, k2⟩ rfl
    unfold L07_RingsOrder_C2 L07_RingsOrder_R2
    simp only
    rw [chk_at i0 hi, letv_eq]
    have n1 := h.n1; have n2 := h.n2; have f0 := h.f0; have f1 := h.f1; have m0 := h.m0; have m1 := h.m1; have o0 := h.o0; have om := h.om
    by_cases hm : m = (all.length : Int)
    · rw [bif_pos hm]
      obtain ⟨p1, p2⟩ := h.pop (by omega)
      have rest : (bif !decide (m = IntKind.i64.wrap ((inn.length : Int) - out)) then some false else bif decide (m > (all.length : Int)) then some false else k (pops', out, l', (l'.length : Int), IntKind.i64.wrap (i + 1), inn, all, f, m)) = some true := by
        rw [w64 (x := (inn.length : Int) - out) (by omega) (by omega), bnot_pos om, bif_neg (by omega)]
        exact hk out inn all f m (by omega) h
      by_cases hp : i < (pops'.length : Int)
      · rw [bif_pos hp, chk_at i0 hp]
        cases pops'.getD i.toNat false with
        | false => exact rest
        | true =>
          simp only [cond_true]
          rw [bif_neg (by omega), chk_pos ⟨f0, f1⟩, letv_eq, chk_pos ⟨f0, f1⟩, letv_eq, chk_pos (by rw [List.length_set]; omega), letv_eq, List.length_set, w64 (x := f + 1) (by omega) (by omega), pos_is f0 f1 (by omega) (by omega), bif_neg (by omega), chk_pos (by omega), p1, bnot_pos rfl, letv_eq, w64 (x := m - 1) (by omega) (by omega), w64 (x := out + 1) (by omega) (by omega), w64 (x := (inn.length : Int) - (out + 1)) (by omega) (by omega), bnot_pos (by omega), bif_neg (by omega)]
          exact hk _ _ _ _ _ (by omega) p2
      · rw [bif_neg hp]; exact rest
    · rw [bif_neg hm, cutv_eq]
      unfold L07_RingsOrder_C1
      simp only
      generalize hx : IntKind.i64.wrap (l'.getD i.toNat 0) = x
      have h2 := h.push (by omega) x
      have hp : 0 ≤ pos all.length f m ∧ pos all.length f m < all.length := by unfold pos; split <;> omega
      rw [chk_pos (by omega), letv_eq, w64 (x := f + m) (by omega) (by omega), pos_is f0 f1 m0 m1, chk_pos hp, letv_eq]
      generalize all.set (pos all.length f m).toNat x = all2 at h2
      unfold L07_RingsOrder_R1
      simp only
      rw [hx]
      have n1 := h2.n1; have n2 := h2.n2; have f0 := h2.f0; have f1 := h2.f1; have m1 := h2.m1; have om2 := h2.om
      have hl2 : ((inn ++ [x]).length : Int) = inn.length + 1 := by simp
      obtain ⟨p1, p2⟩ := h2.pop (by omega)
      rw [letv_eq, chk_pos (by simp; omega), w64 (x := m + 1) (by omega) (by omega)]
      generalize inn ++ [x] = inn2 at *
      have rest : (bif !decide (m + 1 = IntKind.i64.wrap ((inn2.length : Int) - out)) then some false else bif decide (m + 1 > (all2.length : Int)) then some false else k (pops', out, l', (l'.length : Int), IntKind.i64.wrap (i + 1), inn2, all2, f, m + 1)) = some true := by
        rw [w64 (x := (inn2.length : Int) - out) (by omega) (by omega), bnot_pos om2, bif_neg (by omega)]
        exact hk out inn2 all2 f (m + 1) (by omega) h2
      by_cases hp : i < (pops'.length : Int)
      · rw [bif_pos hp, chk_at i0 hp]
        cases pops'.getD i.toNat false with
        | false => exact rest
        | true =>
          simp only [cond_true]
          rw [letv_eq, bif_neg (by omega), chk_pos ⟨f0, f1⟩, chk_pos ⟨f0, f1⟩, chk_pos (by rw [List.length_set]; omega), letv_eq, List.length_set, w64 (x := f + 1) (by omega) (by omega), pos_is f0 f1 (by omega) (by omega), bif_neg (by omega), chk_pos (by omega), p1, bnot_pos rfl, letv_eq, w64 (x := m + 1 - 1) (by omega) (by omega), w64 (x := out + 1) (by omega) (by omega), w64 (x := (inn2.length : Int) - (out + 1)) (by omega) (by omega), bnot_pos (by omega), letv_eq, bif_neg (by omega)]
          exact hk _ _ _ _ _ (by omega) p2
      · rw [bif_neg hp]; exact rest
  · rw [bif_neg hi]
    unfold L07_RingsOrder_J1
    rw [alive07]; rfl
end L07
theorem law_L07_RingsOrder : ∀ x : ((.pair (.int .u8) (.pair (.sl (.int .u8)) (.pair (.sl .bool) .unit))) : Ty).den, wfD (.pair (.int .u8) (.pair (.sl (.int .u8)) (.pair (.sl .bool) .unit))) x → L07_RingsOrder x.1 x.2.1 x.2.2.1 = some true :=
  fun x hx => L07.order x.1 x.2.1 x.2.2.1 (wfu8 hx.1)
end Go.Proofs.YtoihmfgkmndjfaaV
