/- Small lemmas on numbers, lists, and what the functions of data are built of. No program stands here. -/
import Derived.Test.YtoihmfgkmndjfaaVcG1
import Derived.OpenShut
namespace Go.Proofs.YtoihmfgkmndjfaaV
open Go.RowKit

theorem w64 {x : Int} (h1 : -9223372036854775808 ≤ x) (h2 : x ≤ 9223372036854775807) : IntKind.i64.wrap x = x := by
  rw [IntKind.wrap_i64]; omega
theorem wfi {n : Int} (h : wfD (.int .i64) n) : -9223372036854775808 ≤ n ∧ n ≤ 9223372036854775807 := wf_i64 h
theorem wfu8 {n : Int} (h : wfD (.int .u8) n) : 0 ≤ n ∧ n ≤ 255 := by
  have h : (Lit.int .u8 n).wf = true := h
  simp [Lit.wf, IntKind.min, IntKind.max, IntKind.signed, IntKind.bits] at h
  omega
theorem wfl {e : Ty} {xs : List e.den} (h : wfD (.sl e) xs) : xs.length ≤ 140737488355328 ∧ ∀ x ∈ xs, wfD e x := h
theorem cond_some {b : Bool} : (cond b (some true) (some false) : Option Bool) = some b := by cases b <;> rfl
theorem cond_bind {α β : Type} (b : Bool) (x y : Option α) (f : α → Option β) : Option.bind (cond b x y) f = cond b (Option.bind x f) (Option.bind y f) := by cases b <;> rfl
theorem bif_pos {R : Type} {p : Prop} [Decidable p] {x y : R} (h : p) : cond (decide p) x y = x := by rw [decide_eq_true h]; rfl
theorem bif_neg {R : Type} {p : Prop} [Decidable p] {x y : R} (h : ¬ p) : cond (decide p) x y = y := by rw [decide_eq_false h]; rfl
theorem bnot_pos {R : Type} {p : Prop} [Decidable p] {x y : R} (h : p) : cond (!decide p) x y = y := by rw [decide_eq_true h]; rfl
theorem bnot_neg {R : Type} {p : Prop} [Decidable p] {x y : R} (h : ¬ p) : cond (!decide p) x y = x := by rw [decide_eq_false h]; rfl

/-- Steps that the kernel takes by comparing parts alone: what follows isn't looked into. -/
theorem bind_t {α β : Type} {x : α} {f : α → Option β} {r : Option β} (h : f x = r) : Option.bind (some x) f = r := h
theorem cond_tt {β : Type} (a b : β) : cond (!true) a b = b := rfl
theorem cond_ff {β : Type} (a b : β) : cond (!false) a b = a := rfl
theorem cond_t {β : Type} (a b : β) : cond true a b = a := rfl
theorem cond_f {β : Type} (a b : β) : cond false a b = b := rfl
/-- The element at a place that is there. -/
theorem getD_at {α : Type} {xs : List α} {i : Int} {d : α} (h : i.toNat < xs.length) : xs.getD i.toNat d = xs[i.toNat] := by
  rw [List.getD_eq_getElem?_getD, List.getElem?_eq_getElem h]; rfl
theorem getD_mem {α : Type} {xs : List α} {i : Int} {d : α} (h0 : 0 ≤ i) (h : i < (xs.length : Int)) : xs.getD i.toNat d ∈ xs := by
  rw [getD_at (by omega)]; exact List.getElem_mem _
theorem drop_at {α : Type} {xs : List α} {i : Int} {d : α} (h0 : 0 ≤ i) (h : i < (xs.length : Int)) : xs.drop i.toNat = xs.getD i.toNat d :: xs.drop (i + 1).toNat := by
  rw [getD_at (by omega), show (i + 1).toNat = i.toNat + 1 by omega]
  exact List.drop_eq_getElem_cons (by omega)
theorem drop_end {α : Type} {xs : List α} {i : Int} (h : ¬ i < (xs.length : Int)) : xs.drop i.toNat = [] := List.drop_of_length_le (by omega)
theorem take_at {α : Type} {xs : List α} {i : Int} {d : α} (h0 : 0 ≤ i) (h : i < (xs.length : Int)) : xs.take (i + 1).toNat = xs.take i.toNat ++ [xs.getD i.toNat d] := by
  rw [getD_at (by omega), show (i + 1).toNat = i.toNat + 1 by omega]
  exact List.take_succ_eq_append_getElem (by omega)
theorem take_end {α : Type} {xs : List α} {i : Int} (h : ¬ i < (xs.length : Int)) : xs.take i.toNat = xs := List.take_of_length_le (by omega)
theorem split_at {α : Type} {d : α} {s : List α} {i : Int} (h0 : 0 ≤ i) (h1 : i < (s.length : Int)) : ∃ a z b, s = a ++ z :: b ∧ (a.length : Int) = i ∧ s.getD i.toNat d = z := by
  refine ⟨s.take i.toNat, s.getD i.toNat d, s.drop (i + 1).toNat, ?_, ?_, rfl⟩
  · rw [← drop_at h0 h1, List.take_append_drop]
  · rw [List.length_take]; omega
theorem set_mid {α : Type} {a b : List α} {z w : α} {i : Int} (h : (a.length : Int) = i) : (a ++ z :: b).set i.toNat w = a ++ w :: b := by
  rw [show i.toNat = a.length by omega, List.set_append_right _ _ (Nat.le_refl _), Nat.sub_self]; rfl
theorem get_mid {α : Type} {a b : List α} {z d : α} {i : Int} (h : (a.length : Int) = i) : (a ++ z :: b).getD i.toNat d = z := by
  rw [show i.toNat = a.length by omega, List.getD_eq_getElem?_getD, List.getElem?_append_right (Nat.le_refl _), Nat.sub_self]; rfl
theorem chk_at {α R : Type} {xs : List α} {i : Int} {x : Option R} (h0 : 0 ≤ i) (h : i < (xs.length : Int)) : chk (0 ≤ i ∧ i < (xs.length : Int)) x = x := chk_pos ⟨h0, h⟩

theorem u8_at {xs : List Int} {m : Nat} (h : wfD (.arr m (.int .u8)) xs) (i : Nat) : 0 ≤ xs.getD i 0 ∧ xs.getD i 0 ≤ 255 := by
  by_cases hi : i < xs.length
  · have := getD_mem (xs := xs) (i := (i : Int)) (d := 0) (by omega) (by omega)
    exact wfu8 (h.2 _ (by simpa using this))
  · rw [List.getD_eq_getElem?_getD, List.getElem?_eq_none (by omega)]; simp
theorem wfu16 {n : Int} (h : wfD (.int .u16) n) : 0 ≤ n ∧ n ≤ 65535 := by
  have h : (Lit.int .u16 n).wf = true := h
  simp [Lit.wf, IntKind.min, IntKind.max, IntKind.signed, IntKind.bits] at h
  omega
theorem u16_at {xs : List Int} {m : Nat} (h : wfD (.arr m (.int .u16)) xs) (i : Nat) : 0 ≤ xs.getD i 0 ∧ xs.getD i 0 ≤ 65535 := by
  by_cases hi : i < xs.length
  · have := getD_mem (xs := xs) (i := (i : Int)) (d := 0) (by omega) (by omega)
    exact wfu16 (h.2 _ (by simpa using this))
  · rw [List.getD_eq_getElem?_getD, List.getElem?_eq_none (by omega)]; simp
/-- A loop that counts up from i to n: what it answers, by what is known while it runs. -/
theorem loop_up {X R : Type} {F : (X → Option R) → X → Option R} (idx : X → Int) (n : Int) (inv : X → Prop) (spec : X → Option R) {x : X} (hx : inv x) (hn : n - idx x < 1152921504606846976)
    (h : ∀ k x, inv x → (idx x < n → ∀ y, inv y → idx y = idx x + 1 → k y = spec y) → F k x = spec x) : loop F x = spec x := by
  refine loop_by inv (fun x => (n - idx x).toNat) spec hx (by omega) fun k x hi hk => h k x hi fun hl y hy he => hk y hy (by omega)
/-- The same, where what it answers is told by a relation. -/
theorem loop_to {X R : Type} {F : (X → Option R) → X → Option R} (idx : X → Int) (n : Int) (inv : X → Option R → Prop) {x : X} {r : Option R} (hx : inv x r) (hn : n - idx x < 1152921504606846976)
    (h : ∀ k x r, inv x r → (idx x < n → ∀ y r', inv y r' → idx y = idx x + 1 → k y = r') → F k x = r) : loop F x = r := by
  have key : ∀ m x r, inv x r → (n - idx x).toNat < m → fixN F m x = r := by
    intro m
    induction m with
    | zero => intro x r _ h; omega
    | succ m ih => intro x r hi hm; exact h _ x r hi fun hl y r' hy he => ih y r' hy (by omega)
  unfold loop
  exact key FUEL x r hx (by rw [FUEL_eq]; omega)
end Go.Proofs.YtoihmfgkmndjfaaV
