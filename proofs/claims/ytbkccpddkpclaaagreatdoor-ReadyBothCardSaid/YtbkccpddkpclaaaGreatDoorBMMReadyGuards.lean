import Derived.Test.YtbkccpddkpclaaaGreatDoorBVcG1
import Derived.OpenShut
import Derived.Test.YtbkccpddkpclaaaGreatDoorBDDReady
namespace Go.Proofs.YtbkccpddkpclaaaGreatDoorV
open Go.RowKit
theorem w64 {x : Int} (h1 : -9223372036854775808 ≤ x) (h2 : x ≤ 9223372036854775807) : IntKind.i64.wrap x = x := by
  rw [IntKind.wrap_i64]; omega
theorem wfl {e : Ty} {xs : List e.den} (h : wfD (.sl e) xs) : xs.length ≤ 140737488355328 ∧ ∀ x ∈ xs, wfD e x := h
theorem bif_pos {R : Type} {p : Prop} [Decidable p] {x y : R} (h : p) : cond (decide p) x y = x := by rw [decide_eq_true h]; rfl
theorem bif_neg {R : Type} {p : Prop} [Decidable p] {x y : R} (h : ¬ p) : cond (decide p) x y = y := by rw [decide_eq_false h]; rfl
theorem bnot_pos {R : Type} {p : Prop} [Decidable p] {x y : R} (h : p) : cond (!decide p) x y = y := by rw [decide_eq_true h]; rfl
theorem bnot_neg {R : Type} {p : Prop} [Decidable p] {x y : R} (h : ¬ p) : cond (!decide p) x y = x := by rw [decide_eq_false h]; rfl
theorem bind_t {α β : Type} {x : α} {f : α → Option β} {r : Option β} (h : f x = r) : Option.bind (some x) f = r := h
theorem cond_tt {β : Type} (a b : β) : cond (!true) a b = b := rfl
theorem cond_ff {β : Type} (a b : β) : cond (!false) a b = a := rfl
theorem cond_t {β : Type} (a b : β) : cond true a b = a := rfl
theorem cond_f {β : Type} (a b : β) : cond false a b = b := rfl
theorem getD_at {α : Type} {xs : List α} {i : Int} {d : α} (h : i.toNat < xs.length) : xs.getD i.toNat d = xs[i.toNat] := by
  rw [List.getD_eq_getElem?_getD, List.getElem?_eq_getElem h]; rfl
theorem getD_mem {α : Type} {xs : List α} {i : Int} {d : α} (h0 : 0 ≤ i) (h : i < (xs.length : Int)) : xs.getD i.toNat d ∈ xs := by
  rw [getD_at (by omega)]; exact List.getElem_mem _
theorem drop_at {α : Type} {xs : List α} {i : Int} {d : α} (h0 : 0 ≤ i) (h : i < (xs.length : Int)) : xs.drop i.toNat = xs.getD i.toNat d :: xs.drop (i + 1).toNat := by
  rw [getD_at (by omega), show (i + 1).toNat = i.toNat + 1 by omega]
  exact List.drop_eq_getElem_cons (by omega)
theorem drop_end {α : Type} {xs : List α} {i : Int} (h : ¬ i < (xs.length : Int)) : xs.drop i.toNat = [] := List.drop_of_length_le (by omega)
theorem take_at {α : Type} {xs : List α} {i : Int} {d : α} (h0 : 0 ≤ i) (h : i < (xs.length : Int)) : xs.take (i + 1).toNat = xs.take i.toNat ++ [xs.getD i.toNat d] := by
  rw [getD_at (by omega), show (i + 1).toNat = i.toNat + 1 by omega]
  exact List.take_succ_eq_append_getElem (by omega)
theorem take_end {α : Type} {xs : List α} {i : Int} (h : ¬ i < (xs.length : Int)) : xs.take i.toNat = xs := List.take_of_length_le (by omega)
theorem chk_at {α R : Type} {xs : List α} {i : Int} {x : Option R} (h0 : 0 ≤ i) (h : i < (xs.length : Int)) : chk (0 ≤ i ∧ i < (xs.length : Int)) x = x := chk_pos ⟨h0, h⟩
theorem loop_up {X R : Type} {F : (X → Option R) → X → Option R} (idx : X → Int) (n : Int) (inv : X → Prop) (spec : X → Option R) {x : X} (hx : inv x) (hn : n - idx x < 1152921504606846976)
    (h : ∀ k x, inv x → (idx x < n → ∀ y, inv y → idx y = idx x + 1 → k y = spec y) → F k x = spec x) : loop F x = spec x := by
  refine loop_by inv (fun x => (n - idx x).toNat) spec hx (by omega) fun k x hi hk => h k x hi fun hl y hy he => hk y hy (by omega)
theorem loop_to {X R : Type} {F : (X → Option R) → X → Option R} (idx : X → Int) (n : Int) (inv : X → Option R → Prop) {x : X} {r : Option R} (hx : inv x r) (hn : n - idx x < 1152921504606846976)
    (h : ∀ k x r, inv x r → (idx x < n → ∀ y r', inv y r' → idx y = idx x + 1 → k y = r') → F k x = r) : loop F x = r := by
  have key : ∀ m x r, inv x r → (n - idx x).toNat < m → fixN F m x = r := by
    intro m
    induction m with
    | zero => intro x r _ h; omega
    | succ m ih => intro x r hi hm; exact h _ x r hi fun hl y r' hy he => ih y r' hy (by omega)
  unfold loop
  exact key FUEL x r hx (by rw [FUEL_eq]; omega)
end Go.Proofs.YtbkccpddkpclaaaGreatDoorV
namespace Go.Proofs.YtbkccpddkpclaaaGreatDoorV
set_option linter.unusedVariables false
set_option linter.unusedSimpArgs false
open Go.RowKit
namespace lists
def ixf : List Int → Int → Int → Int
  | [], _, _ => -1
  | x :: xs, v, i => if x = v then i else ixf xs v (i + 1)
theorem ixf_not : ∀ {xs : List Int} {v : Int} (h : v ∉ xs) (i : Int), ixf xs v i = -1
  | [], _, _, _ => rfl
  | x :: xs, v, h, i => by
    unfold ixf
    rw [if_neg (fun e => h (by rw [e]; exact List.mem_cons_self)), ixf_not (fun h2 => h (List.mem_cons_of_mem _ h2))]
theorem ixf_mem : ∀ {xs : List Int} {v : Int} (h : v ∈ xs) (i : Int), i ≤ ixf xs v i ∧ ixf xs v i < i + xs.length
  | x :: xs, v, h, i => by
    unfold ixf
    by_cases e : x = v
    · rw [if_pos e]; simp; omega
    · rw [if_neg e]
      have := ixf_mem (List.mem_of_ne_of_mem (Ne.symm e) h) (i + 1)
      simp; omega
theorem ixf_app : ∀ (a b : List Int) (v i : Int), ixf (a ++ b) v i = if v ∈ a then ixf a v i else ixf b v (i + a.length)
  | [], b, v, i => by simp
  | x :: a, b, v, i => by
    simp only [List.cons_append, ixf]
    by_cases e : x = v
    · rw [if_pos e, if_pos (by rw [e]; exact List.mem_cons_self), if_pos e]
    · rw [if_neg e, if_neg e, ixf_app a b v (i + 1)]
      have : v ∈ x :: a ↔ v ∈ a := by simp [Ne.symm e]
      simp only [this, List.length_cons]
      split
      · rfl
      · congr 1; omega
theorem ixf_ge {xs : List Int} {v : Int} : 0 ≤ ixf xs v 0 ↔ v ∈ xs := by
  constructor
  · intro h
    by_cases hv : v ∈ xs
    · exact hv
    · rw [ixf_not hv] at h; omega
  · intro h; exact (ixf_mem h 0).1
theorem index_eq (xs : List Int) (v : Int) (hl : xs.length ≤ 140737488355328) : slices_Index_int_int xs v = some (ixf xs v 0) := by
  unfold slices_Index_int_int
  refine (loop_up (fun j => j) xs.length (fun j => 0 ≤ j) (fun j => some (ixf (xs.drop j.toNat) v j)) (by simp) (by simp; omega) ?_).trans (by simp)
  intro k j (h0 : 0 ≤ j) hk
  unfold slices_Index_int_int_L1
  by_cases hj : j < (xs.length : Int)
  · have hk := hk hj (j + 1) (by omega) rfl
    rw [bif_pos hj, chk_at h0 hj, drop_at (d := 0) h0 hj, w64 (by omega) (by omega), hk, ixf]
    by_cases e : v = xs.getD j.toNat 0
    · rw [bif_pos e, if_pos e.symm]
    · rw [bif_neg e, if_neg (Ne.symm e)]
  · rw [bif_neg hj, drop_end hj]; rfl
theorem contains_eq (xs : List Int) (v : Int) (hl : xs.length ≤ 140737488355328) : slices_Contains_int_int xs v = some (decide (v ∈ xs)) := by
  unfold slices_Contains_int_int
  rw [index_eq _ _ hl]
  simp only [Option.bind_some]
  rw [show decide (ixf xs v 0 ≥ 0) = decide (v ∈ xs) from decide_eq_decide.2 ixf_ge]
end lists
end Go.Proofs.YtbkccpddkpclaaaGreatDoorV
namespace Go.Proofs.YtbkccpddkpclaaaGreatDoorV
set_option linter.unusedVariables false
set_option linter.unusedSimpArgs false
open Go.RowKit lists
namespace claims
abbrev Line := Bool × List Int × Unit
def okW : List Int → List Int → Bool
  | _, [] => true
  | pre, x :: r => decide (0 ≤ x ∧ x ≤ 15 ∧ x ∉ pre) && okW (pre ++ [x]) r
def fine (c : Line) : Bool := okW [] c.2.1 && (c.1 || decide (c.2.1.length ≤ 1))
def join (c : Line) (p : Int) : Line × Int × Unit :=
  if fine c = false then (c, 1, ())
  else if ¬ (0 ≤ p ∧ p ≤ 15) then (c, 8, ())
  else if p ∈ c.2.1 then (c, 7, ())
  else if c.1 = false ∧ c.2.1 ≠ [] then (c, 15, ())
  else ((c.1, c.2.1 ++ [p], ()), 0, ())
def leave (c : Line) (p : Int) : Line × Bool × Unit :=
  if fine c = true ∧ p ∈ c.2.1 then ((c.1, c.2.1.take (ixf c.2.1 p 0).toNat ++ c.2.1.drop ((ixf c.2.1 p 0).toNat + 1), ()), true, ()) else (c, false, ())
def head (c : Line) : Int × Bool × Unit :=
  if fine c = true ∧ c.2.1 ≠ [] then (c.2.1.getD 0 0, true, ()) else (0, false, ())
theorem process_eq (p : Int) : claims_process p = some (decide (0 ≤ p ∧ p ≤ 15)) := by
  unfold claims_process
  by_cases h : p ≥ 0
  · rw [bif_pos h]; congr 1; rw [decide_eq_decide]; omega
  · rw [bif_neg h, decide_eq_false (by omega)]
theorem at_eq (xs : List Int) (v : Int) (hl : xs.length ≤ 140737488355328) : R17_At xs v = some (ixf xs v 0) := by
  unfold R17_At
  refine (loop_up (fun j => j) xs.length (fun j => 0 ≤ j) (fun j => some (ixf (xs.drop j.toNat) v j)) (by simp) (by simp; omega) ?_).trans (by simp)
  intro k j (h0 : 0 ≤ j) hk
  unfold R17_At_L1
  by_cases hj : j < (xs.length : Int)
  · have hk := hk hj (j + 1) (by omega) rfl
    rw [bif_pos hj, chk_at h0 hj, drop_at (d := 0) h0 hj, w64 (by omega) (by omega), hk, ixf]
    by_cases e : xs.getD j.toNat 0 = v
    · rw [bif_pos e, if_pos e]
    · rw [bif_neg e, if_neg e]
  · rw [bif_neg hj, drop_end hj]; rfl
theorem at_self {xs : List Int} {j : Int} (h0 : 0 ≤ j) (hj : j < (xs.length : Int)) : ixf xs (xs.getD j.toNat 0) 0 = j ↔ xs.getD j.toNat 0 ∉ xs.take j.toNat := by
  have hs : xs = xs.take j.toNat ++ (xs.getD j.toNat 0 :: xs.drop (j + 1).toNat) := by rw [← drop_at h0 hj, List.take_append_drop]
  have hl : (xs.take j.toNat).length = j.toNat := by rw [List.length_take]; omega
  generalize xs.getD j.toNat 0 = x at hs ⊢
  have e : ixf xs x 0 = if x ∈ xs.take j.toNat then ixf (xs.take j.toNat) x 0 else j := by
    conv => lhs; rw [hs]
    rw [ixf_app, ixf, if_pos rfl, hl]
    congr 1
    omega
  rw [e]
  by_cases hm : x ∈ xs.take j.toNat
  · rw [if_pos hm]
    have := ixf_mem hm 0
    rw [hl] at this
    constructor
    · intro h; omega
    · intro h; exact absurd hm h
  · rw [if_neg hm]
    exact ⟨fun _ => hm, fun _ => rfl⟩
theorem fine_eq (c : Line) (hl : c.2.1.length ≤ 140737488355328) : claims_Fine c = some (fine c) := by
  obtain ⟨sh, xs, u⟩ := c
  have hl : xs.length ≤ 140737488355328 := hl
  unfold claims_Fine
  refine (loop_up (fun j => j) xs.length (fun j => 0 ≤ j) (fun j => some (okW (xs.take j.toNat) (xs.drop j.toNat) && (sh || decide (xs.length ≤ 1)))) (by simp) (by simp; omega) ?_).trans (by simp [fine])
  intro k j (h0 : 0 ≤ j) hk
  unfold claims_Fine_L1
  simp only
  by_cases hj : j < (xs.length : Int)
  · have hk := hk hj (j + 1) (by omega) rfl
    rw [bif_pos hj, chk_at h0 hj, drop_at (d := 0) h0 hj, w64 (by omega) (by omega), hk, process_eq, take_at (d := 0) h0 hj, okW]
    simp only [Option.bind_some]
    rw [chk_pos ⟨by omega, h0, by omega⟩, Int.toNat_zero, List.drop_zero, contains_eq _ _ (by rw [List.length_take]; omega)]
    generalize xs.getD j.toNat 0 = x
    by_cases h1 : 0 ≤ x ∧ x ≤ 15
    · by_cases h2 : x ∈ xs.take j.toNat
      · rw [decide_eq_true h1, decide_eq_false (p := 0 ≤ x ∧ x ≤ 15 ∧ x ∉ xs.take j.toNat) (fun h => h.2.2 h2)]
        simp [h2]
      · rw [decide_eq_true h1, decide_eq_true (p := 0 ≤ x ∧ x ≤ 15 ∧ x ∉ xs.take j.toNat) ⟨h1.1, h1.2, h2⟩]
        simp [h2]
    · rw [decide_eq_false h1, decide_eq_false (p := 0 ≤ x ∧ x ≤ 15 ∧ x ∉ xs.take j.toNat) (fun h => h1 ⟨h.1, h.2.1⟩)]
      simp
  · rw [bif_neg hj, drop_end hj]
    unfold claims_Fine_J1
    simp only [okW, Bool.true_and]
    cases sh with
    | true => rfl
    | false => simp; omega
theorem rfine_eq (c : Line) (hl : c.2.1.length ≤ 140737488355328) : R17_Fine c = some (fine c) := by
  obtain ⟨sh, xs, u⟩ := c
  have hl : xs.length ≤ 140737488355328 := hl
  unfold R17_Fine
  refine (loop_up (fun j => j) xs.length (fun j => 0 ≤ j) (fun j => some (okW (xs.take j.toNat) (xs.drop j.toNat) && (sh || decide (xs.length ≤ 1)))) (by simp) (by simp; omega) ?_).trans (by simp [fine])
  intro k j (h0 : 0 ≤ j) hk
  unfold R17_Fine_L1
  simp only
  by_cases hj : j < (xs.length : Int)
  · have hk := hk hj (j + 1) (by omega) rfl
    rw [bif_pos hj, chk_at h0 hj, chk_at h0 hj, chk_at h0 hj, drop_at (d := 0) h0 hj, w64 (by omega) (by omega), hk, at_eq _ _ hl, take_at (d := 0) h0 hj, okW]
    simp only [Option.bind_some]
    have hs := at_self h0 hj
    generalize xs.getD j.toNat 0 = x at hs
    by_cases h1 : x < 0
    · rw [bif_pos h1, decide_eq_false (p := 0 ≤ x ∧ x ≤ 15 ∧ x ∉ xs.take j.toNat) (fun h => by omega)]; rfl
    · by_cases h2 : x > 15
      · rw [bif_neg h1, bif_pos h2, decide_eq_false (p := 0 ≤ x ∧ x ≤ 15 ∧ x ∉ xs.take j.toNat) (fun h => by omega)]; rfl
      · rw [bif_neg h1, bif_neg h2]
        by_cases h3 : ixf xs x 0 = j
        · rw [bnot_pos h3, decide_eq_true (p := 0 ≤ x ∧ x ≤ 15 ∧ x ∉ xs.take j.toNat) ⟨by omega, by omega, hs.1 h3⟩]; rfl
        · rw [bnot_neg h3, decide_eq_false (p := 0 ≤ x ∧ x ≤ 15 ∧ x ∉ xs.take j.toNat) (fun h => h3 (hs.2 h.2.2))]; rfl
  · rw [bif_neg hj, drop_end hj]
    unfold R17_Fine_J1
    simp only [okW, Bool.true_and]
    cases sh with
    | true => rfl
    | false => simp; omega
theorem rjoin_eq (c : Line) (p : Int) (hl : c.2.1.length ≤ 1000000) : R17_Join c p = some (join c p) := by
  obtain ⟨sh, xs, u⟩ := c
  have hl : xs.length ≤ 1000000 := hl
  unfold R17_Join join
  rw [rfine_eq _ (show xs.length ≤ 140737488355328 by omega), at_eq _ _ (show xs.length ≤ 140737488355328 by omega)]
  simp only [Option.bind_some]
  cases hf : fine (sh, xs, u) with
  | false => rfl
  | true =>
    rw [if_neg (by simp)]
    by_cases h1 : 0 ≤ p ∧ p ≤ 15
    · rw [if_neg (not_not_intro h1)]
      simp only [Bool.not_true, cond_false]
      rw [bif_neg (by omega), bif_neg (by omega)]
      by_cases h2 : p ∈ xs
      · rw [if_pos h2, bif_pos (ixf_ge.2 h2)]
      · rw [if_neg h2, bif_neg (fun h => h2 (ixf_ge.1 h)), chk_pos (by omega), chk_pos (by simp; omega)]
        cases sh with
        | true => simp
        | false =>
          cases xs with
          | nil => simp
          | cons x xs => simp <;> omega
    · rw [if_pos h1]
      by_cases h2 : p < 0
      · simp [h2]
      · have : p > 15 := by omega
        simp [h2, this]
theorem head_eq (c : Line) (hl : c.2.1.length ≤ 1000000) : claims_Head c = some (head c) := by
  obtain ⟨sh, xs, u⟩ := c
  have hl : xs.length ≤ 1000000 := hl
  unfold claims_Head head
  rw [fine_eq _ (show xs.length ≤ 140737488355328 by omega)]
  simp only [Option.bind_some]
  cases hf : fine (sh, xs, u) with
  | false => simp
  | true =>
    cases xs with
    | nil => simp
    | cons x xs =>
      rw [if_pos ⟨rfl, by simp⟩, bif_neg (by simp <;> omega), chk_pos ⟨by omega, by simp <;> omega⟩]; rfl
end claims
end Go.Proofs.YtbkccpddkpclaaaGreatDoorV
namespace Go.Proofs.YtbkccpddkpclaaaGreatDoorV
set_option linter.unusedVariables false
set_option linter.unusedSimpArgs false
open Go.RowKit lists
theorem and_some1 {b x : Bool} : cond (!b) (some false) (some x) = some (b && x) := by cases b <;> rfl
theorem and_some2 {b x : Bool} : cond b (some x) (some false) = some (b && x) := by cases b <;> rfl
theorem and_some3 {b x : Bool} : cond b (some false) (some x) = some (!b && x) := by cases b <;> rfl
theorem dec_ite {p : Prop} [Decidable p] {α : Type} {x y : α} : cond (decide p) x y = if p then x else y := by by_cases h : p <;> simp [h]
namespace channel
abbrev Conf := Int × Int × Int × Int × Unit
abbrev Ch := Conf × Int × List Int × claims.Line × List Int × claims.Line × Unit
def pf (n : Int) : Bool := decide (0 ≤ n ∧ n ≤ 255)
def word (n : Int) : Bool := decide (-2147483648 ≤ n ∧ n ≤ 2147483647)
def check (f : Conf) : Int :=
  if f.1 < 0 then 12 else if f.1 > 3 then 12 else if f.2.1 < 0 then 8 else if f.2.1 > 8 then 8 else if pf f.2.2.1 = false then 8 else if pf f.2.2.2.1 = false then 8 else 0
def so (k : Int) : Bool := decide (k = 1 ∨ k = 3)
def si (k : Int) : Bool := decide (2 ≤ k)
def fine (c : Ch) : Bool :=
  decide (check c.1 = 0) && (pf c.2.1 && (!decide ((c.2.2.1.length : Int) > c.1.2.1) && (c.2.2.1.all word && (c.2.2.2.2.1.all word && ((c.2.2.2.1.1 == so c.1.1) && ((c.2.2.2.2.2.1.1 == si c.1.1) && (claims.fine c.2.2.2.1 && (claims.fine c.2.2.2.2.2.1 && decide ((c.2.2.2.2.1.length : Int) = (c.2.2.2.1.2.1.length : Int))))))))))
def hit (l e : Int) : Bool := pf l && (pf e && decide (e < l))
def raise (n b : Int) : Int × Int × Unit := if pf n = false then (0, 8, ()) else if 1 ≤ b ∧ b ≤ 255 then (max n b, 0, ()) else (0, 8, ())
theorem pfine_eq (n : Int) : poison_Fine n = some (pf n) := by
  unfold poison_Fine pf
  by_cases h : n ≥ 0
  · rw [bif_pos h]; congr 1; rw [decide_eq_decide]; omega
  · rw [bif_neg h, decide_eq_false (by omega)]
theorem rpfine_eq (n : Int) : R16_Fine n = some (pf n) := by
  unfold R16_Fine pf
  by_cases h : n ≥ 0
  · rw [bif_pos h]; congr 1; rw [decide_eq_decide]; omega
  · rw [bif_neg h, decide_eq_false (by omega)]
theorem word_eq (n : Int) : word_Fine n = some (word n) := by
  unfold word_Fine word
  by_cases h : n ≥ -2147483648
  · rw [bif_pos h]; congr 1; rw [decide_eq_decide]; omega
  · rw [bif_neg h, decide_eq_false (by omega)]
theorem rword_eq (n : Int) : R08_Fine n = some (word n) := by
  unfold R08_Fine word
  by_cases h : n ≥ -2147483648
  · rw [bif_pos h]; congr 1; rw [decide_eq_decide]; omega
  · rw [bif_neg h, decide_eq_false (by omega)]
theorem hit_eq (l e : Int) : poison_Hit l e = some (hit l e) := by
  unfold poison_Hit hit
  simp only [pfine_eq, Option.bind_some, and_some2]
theorem rraise_eq (n b : Int) : R16_Raise n b = some (raise n b) := by
  unfold R16_Raise raise
  simp only [rpfine_eq, Option.bind_some]
  cases h : pf n with
  | false => rfl
  | true =>
    simp only [Bool.not_true, cond_false, Bool.true_eq_false, if_false]
    by_cases h1 : b < 1
    · rw [bif_pos h1, if_neg (by omega)]
    · rw [bif_neg h1]
      by_cases h2 : b > 255
      · rw [bif_pos h2, if_neg (by omega)]
      · rw [bif_neg h2, if_pos (by omega)]
        by_cases h3 : b > n
        · rw [bif_pos h3, Int.max_eq_right (by omega)]
        · rw [bif_neg h3, Int.max_eq_left (by omega)]
theorem check_eq (f : Conf) : channel_Check f = some (check f) := by
  unfold channel_Check check
  simp only [pfine_eq, Option.bind_some, dec_ite]
  cases pf f.2.2.1 <;> cases pf f.2.2.2.1 <;> (repeat' split) <;> first | rfl | simp_all
theorem rcheck_eq (f : Conf) : R18_Check f = some (check f) := by
  unfold R18_Check check
  simp only [rpfine_eq, Option.bind_some, dec_ite]
  cases pf f.2.2.1 <;> cases pf f.2.2.2.1 <;> (repeat' split) <;> first | rfl | simp_all
theorem kind_of {f : Conf} (h : check f = 0) : 0 ≤ f.1 ∧ f.1 ≤ 3 ∧ 0 ≤ f.2.1 ∧ f.2.1 ≤ 8 := by
  unfold check at h
  repeat' split at h
  all_goals omega
theorem shares1 {f : Conf} (h : 0 ≤ f.1 ∧ f.1 ≤ 3) : channel_shares f 1 = some (so f.1) := by
  unfold channel_shares so
  generalize f.1 = k at h
  rcases (by omega : k = 0 ∨ k = 1 ∨ k = 2 ∨ k = 3) with rfl | rfl | rfl | rfl <;> decide
theorem shares2 {f : Conf} (h : 0 ≤ f.1 ∧ f.1 ≤ 3) : channel_shares f 2 = some (si f.1) := by
  unfold channel_shares si
  generalize f.1 = k at h
  rcases (by omega : k = 0 ∨ k = 1 ∨ k = 2 ∨ k = 3) with rfl | rfl | rfl | rfl <;> decide
theorem words_eq (xs : List Int) (hl : xs.length ≤ 140737488355328) : channel_words xs = some (xs.all word) := by
  first
  | skip
    unfold channel_words
    refine (loop_up (fun j => j) xs.length (fun j => 0 ≤ j) (fun j => some ((xs.drop j.toNat).all word)) (by simp) (by simp; omega) ?_).trans (by simp)
    intro k j (h0 : 0 ≤ j) hk
    unfold channel_words_L1 channel_words_1
    by_cases hj : j < (xs.length : Int)
    · have hk := hk hj (j + 1) (by omega) rfl
      rw [bif_pos hj, chk_at h0 hj, drop_at (d := 0) h0 hj, w64 (by omega) (by omega), hk, word_eq, List.all_cons, decide_eq_true h0]
      simp only [Option.bind_some]
      cases word (xs.getD j.toNat 0) <;> rfl
    · rw [bif_neg hj, drop_end hj]; rfl
  | skip
    unfold channel_words
    rw [cutv_eq]
    unfold channel_words_C1
    refine (loop_up (fun j => j) xs.length (fun j => 0 ≤ j) (fun j => some ((xs.drop j.toNat).all word)) (by simp) (by simp; omega) ?_).trans (by simp)
    intro k j (h0 : 0 ≤ j) hk
    unfold channel_words_L1 channel_words_1
    by_cases hj : j < (xs.length : Int)
    · have hk := hk hj (j + 1) (by omega) rfl
      rw [bif_pos hj, chk_at h0 hj, drop_at (d := 0) h0 hj, w64 (by omega) (by omega), hk, word_eq, List.all_cons, decide_eq_true h0]
      simp only [Option.bind_some]
      cases word (xs.getD j.toNat 0) <;> rfl
    · rw [bif_neg hj, drop_end hj]; rfl
theorem rwords_eq (xs : List Int) (hl : xs.length ≤ 140737488355328) : R18_words xs = some (xs.all word) := by
  unfold R18_words
  refine (loop_up (fun j => j) xs.length (fun j => 0 ≤ j) (fun j => some ((xs.drop j.toNat).all word)) (by simp) (by simp; omega) ?_).trans (by simp)
  intro k j (h0 : 0 ≤ j) hk
  unfold R18_words_L1
  by_cases hj : j < (xs.length : Int)
  · have hk := hk hj (j + 1) (by omega) rfl
    rw [bif_pos hj, chk_at h0 hj, drop_at (d := 0) h0 hj, w64 (by omega) (by omega), hk, rword_eq, List.all_cons]
    simp only [Option.bind_some]
    cases word (xs.getD j.toNat 0) <;> rfl
  · rw [bif_neg hj, drop_end hj]; rfl
def new (f : Conf) : Ch × Int × Unit :=
  if check f = 0 then ((f, 0, [], (so f.1, [], ()), [], (si f.1, [], ()), ()), 0, ()) else (((0, 0, 0, 0, ()), 0, [], (false, [], ()), [], (false, [], ()), ()), check f, ())
theorem rnew_eq (f : Conf) : R18_New f = some (new f) := by
  unfold R18_New new
  rw [rcheck_eq]
  simp only [Option.bind_some]
  by_cases h : check f = 0
  · rw [bnot_pos h, if_pos h]
    have hk := kind_of h
    have h2 : decide (f.1 ≥ 2) = si f.1 := rfl
    by_cases h1 : f.1 = 1
    · rw [bif_pos h1, show so f.1 = true from decide_eq_true (.inl h1)]; rfl
    · rw [bif_neg h1, show so f.1 = decide (f.1 = 3) from decide_eq_decide.2 ⟨fun h => h.resolve_left h1, .inr⟩]; rfl
  · rw [bnot_neg h, if_neg h]
structure Small (c : Ch) : Prop where
  a : c.2.2.1.length ≤ 1000
  b : c.2.2.2.1.2.1.length ≤ 1000
  d : c.2.2.2.2.1.length ≤ 1000
  e : c.2.2.2.2.2.1.2.1.length ≤ 1000
theorem fine_eq (c : Ch) (hs : Small c) : channel_Fine c = some (fine c) := by
  unfold channel_Fine fine
  rw [check_eq]
  simp only [Option.bind_some]
  by_cases h : check c.1 = 0
  · have hk := kind_of h
    have := hs.a; have := hs.b; have := hs.d; have := hs.e
    rw [bnot_pos h, decide_eq_true h, shares1 ⟨hk.1, hk.2.1⟩, shares2 ⟨hk.1, hk.2.1⟩, words_eq _ (by omega), words_eq _ (by omega), claims.fine_eq _ (by omega), claims.fine_eq _ (by omega), pfine_eq]
    simp only [Option.bind_some, letv_eq, and_some1, and_some2, and_some3, Bool.true_and, Bool.not_not]
  · rw [bnot_neg h, decide_eq_false h]; rfl
theorem rfine_eq (c : Ch) (hs : Small c) : R18_Fine c = some (fine c) := by
  unfold R18_Fine fine
  rw [rnew_eq]
  simp only [Option.bind_some]
  have := hs.a; have := hs.b; have := hs.d; have := hs.e
  by_cases h : check c.1 = 0
  · rw [decide_eq_true h, rwords_eq _ (by omega), rwords_eq _ (by omega), claims.rfine_eq _ (by omega), claims.rfine_eq _ (by omega), rpfine_eq]
    unfold new
    rw [if_pos h]
    simp only [Option.bind_some, letv_eq, and_some1, and_some2, and_some3, Bool.true_and, decide_true, Bool.not_not]
    congr 1
    ac_rfl
  · unfold new
    rw [if_neg h, bnot_neg h, decide_eq_false h]; rfl
def send (c : Ch) (p v : Int) : Ch × Int × Unit :=
  if fine c = false then (c, 1, ()) else if word v = false then (c, 8, ()) else
  if (claims.join c.2.2.2.1 p).2.1 = 0 then ((c.1, c.2.1, c.2.2.1, (claims.join c.2.2.2.1 p).1, c.2.2.2.2.1 ++ [v], c.2.2.2.2.2.1, ()), 0, ()) else (c, (claims.join c.2.2.2.1 p).2.1, ())
theorem rsend_eq (c : Ch) (p v : Int) (hs : Small c) : R18_Send c p v = some (send c p v) := by
  have := hs.b; have := hs.d
  unfold R18_Send send
  rw [rfine_eq c hs, rword_eq, claims.rjoin_eq _ _ (by omega)]
  simp only [Option.bind_some]
  cases fine c with
  | false => rfl
  | true =>
    cases word v with
    | false => rfl
    | true =>
      simp only [Bool.not_true, cond_false, Bool.true_eq_false, if_false]
      by_cases h : (claims.join c.2.2.2.1 p).2.1 = 0
      · rw [bnot_pos h, if_pos h, chk_pos (by omega), chk_pos (by simp; omega)]
      · rw [bnot_neg h, if_neg h]
def recv (c : Ch) (p : Int) : Ch × Int × Unit :=
  if fine c = false then (c, 1, ()) else
  if (claims.join c.2.2.2.2.2.1 p).2.1 = 0 then ((c.1, c.2.1, c.2.2.1, c.2.2.2.1, c.2.2.2.2.1, (claims.join c.2.2.2.2.2.1 p).1, ()), 0, ()) else (c, (claims.join c.2.2.2.2.2.1 p).2.1, ())
theorem rrecv_eq (c : Ch) (p : Int) (hs : Small c) : R18_Recv c p = some (recv c p) := by
  have := hs.e
  unfold R18_Recv recv
  rw [rfine_eq c hs, claims.rjoin_eq _ _ (by omega)]
  simp only [Option.bind_some]
  cases fine c with
  | false => rfl
  | true =>
    simp only [Bool.not_true, cond_false, Bool.true_eq_false, if_false]
    by_cases h : (claims.join c.2.2.2.2.2.1 p).2.1 = 0
    · rw [bnot_pos h, if_pos h]
    · rw [bnot_neg h, if_neg h]
def poison (c : Ch) (v : Int) : Ch × Int × Unit :=
  if fine c = false then (c, 1, ()) else
  if (raise c.2.1 v).2.1 = 0 then ((c.1, (raise c.2.1 v).1, c.2.2.1, c.2.2.2.1, c.2.2.2.2.1, c.2.2.2.2.2.1, ()), 0, ()) else (c, (raise c.2.1 v).2.1, ())
theorem rpoison_eq (c : Ch) (v : Int) (hs : Small c) : R18_Poison c v = some (poison c v) := by
  unfold R18_Poison poison
  rw [rfine_eq c hs, rraise_eq]
  simp only [Option.bind_some]
  cases fine c with
  | false => rfl
  | true =>
    simp only [Bool.not_true, cond_false, Bool.true_eq_false, if_false]
    by_cases h : (raise c.2.1 v).2.1 = 0
    · rw [bnot_pos h, if_pos h]
    · rw [bnot_neg h, if_neg h]
structure Ok (c : Ch) : Prop where
  conf : check c.1 = 0
  room : (c.2.2.1.length : Int) ≤ c.1.2.1
  out : claims.fine c.2.2.2.1 = true
  inn : claims.fine c.2.2.2.2.2.1 = true
  len : c.2.2.2.2.1.length = c.2.2.2.1.2.1.length
theorem Ok.of {c : Ch} (h : fine c = true) : Ok c := by
  unfold fine at h
  simp only [Bool.and_eq_true, decide_eq_true_eq, Bool.not_eq_true', decide_eq_false_iff_not] at h
  obtain ⟨h1, _, h3, _, _, _, _, h8, h9, h10⟩ := h
  exact ⟨h1, by omega, h8, h9, by omega⟩
def leave (c : Ch) (p : Int) : Ch :=
  if fine c = false then c else
  (c.1, c.2.1, c.2.2.1, (claims.leave c.2.2.2.1 p).1, if p ∈ c.2.2.2.1.2.1 then c.2.2.2.2.1.take (ixf c.2.2.2.1.2.1 p 0).toNat ++ c.2.2.2.2.1.drop ((ixf c.2.2.2.1.2.1 p 0).toNat + 1) else c.2.2.2.2.1, (claims.leave c.2.2.2.2.2.1 p).1, ())
def mayB (c : Ch) (m : Int) : Bool :=
  bif decide (m = 1) then decide (c.1.2.1 = 0) && ((decide ((c.2.2.2.1.2.1.length : Int) > 0) && !hit c.2.1 c.1.2.2.2.1) && (decide ((c.2.2.2.2.2.1.2.1.length : Int) > 0) && !hit c.2.1 c.1.2.2.1))
  else bif decide (m = 2) then decide ((c.2.2.1.length : Int) < c.1.2.1) && (decide ((c.2.2.2.1.2.1.length : Int) > 0) && !hit c.2.1 c.1.2.2.2.1)
  else bif decide (m = 3) then decide ((c.2.2.1.length : Int) > 0) && (decide ((c.2.2.2.2.2.1.2.1.length : Int) > 0) && !hit c.2.1 c.1.2.2.1)
  else false
theorem head_is {l : claims.Line} (h : claims.fine l = true) : (claims.head l).2.1 = decide ((l.2.1.length : Int) > 0) := by
  unfold claims.head
  by_cases hp : l.2.1 = []
  · rw [if_neg (fun h => h.2 hp), hp]; rfl
  · rw [if_pos ⟨h, hp⟩, decide_eq_true]
    have := List.length_pos_iff.2 hp
    omega
theorem may_eq (c : Ch) (m : Int) (hs : Small c) (ok : Ok c) : channel_may c m = some (mayB c m) := by
  have := hs.b; have := hs.e
  unfold channel_may mayB
  rw [claims.head_eq _ (by omega), claims.head_eq _ (by omega), hit_eq, hit_eq]
  simp only [Option.bind_some]
  rw [head_is ok.out, head_is ok.inn]
  generalize decide ((c.2.2.2.1.2.1.length : Int) > 0) = b1
  generalize decide ((c.2.2.2.2.2.1.2.1.length : Int) > 0) = b2
  generalize hit c.2.1 c.1.2.2.2.1 = b3
  generalize hit c.2.1 c.1.2.2.1 = b4
  generalize decide (c.1.2.1 = 0) = b5
  generalize decide ((c.2.2.1.length : Int) < c.1.2.1) = b6
  generalize decide ((c.2.2.1.length : Int) > 0) = b7
  generalize decide (m = 1) = m1
  generalize decide (m = 2) = m2
  generalize decide (m = 3) = m3
  cases b1 <;> cases b2 <;> cases m1 <;> cases m2 <;> cases m3 <;> cases b5 <;> cases b6 <;> cases b7 <;> cases b3 <;> cases b4 <;> rfl
def one_ (c : Ch) (m : Int) : List Int := bif mayB c m then [m] else []
def what (c : Ch) : List Int := if fine c = false then [] else one_ c 1 ++ (one_ c 2 ++ one_ c 3)
theorem one_len (c : Ch) (m : Int) : (one_ c m).length ≤ 1 := by
  unfold one_
  cases mayB c m <;> simp
theorem what_eq (c : Ch) (hs : Small c) : channel_What c = some (what c) := by
  unfold channel_What what
  rw [fine_eq c hs]
  simp only [Option.bind_some]
  cases hf : fine c with
  | false => rfl
  | true =>
    have ok := Ok.of hf
    simp only [Bool.not_true, cond_false, Bool.true_eq_false, if_false]
    refine (loop_up (fun x => x.1) 4 (fun x : Int × List Int => 1 ≤ x.1 ∧ x.1 ≤ 4 ∧ (x.2.length : Int) ≤ x.1) (fun x => some (x.2 ++ ((if x.1 ≤ 1 then one_ c 1 else []) ++ ((if x.1 ≤ 2 then one_ c 2 else []) ++ (if x.1 ≤ 3 then one_ c 3 else []))))) (by simp) (by simp) ?_).trans (by simp)
    rintro k ⟨i, out⟩ ⟨i1, i2, i3⟩ hk
    simp only at i1 i2 i3 hk
    unfold channel_What_L1
    simp only
    by_cases h4 : i = 4
    · subst h4
      rw [bif_neg (by omega)]
      simp [channel_What_J1]
    · rw [bif_pos (by omega), may_eq c i hs ok]
      simp only [Option.bind_some]
      rw [w64 (by omega) (by omega), chk_pos (by simp; omega), hk (by omega) (i + 1, out ++ [i]) ⟨by simp only; omega, by simp only; omega, by simp; omega⟩ rfl, hk (by omega) (i + 1, out) ⟨by simp only; omega, by simp only; omega, by simp only; omega⟩ rfl]
      rcases (by omega : i = 1 ∨ i = 2 ∨ i = 3) with rfl | rfl | rfl
      · cases hm : mayB c 1 <;> simp [one_, hm]
      · cases hm : mayB c 2 <;> simp [one_, hm]
      · cases hm : mayB c 3 <;> simp [one_, hm]
theorem mem_what {c : Ch} (hf : fine c = true) (m : Int) : m ∈ what c ↔ mayB c m = true := by
  unfold what
  rw [if_neg (by rw [hf]; simp)]
  have key : ∀ k : Int, m ∈ one_ c k ↔ m = k ∧ mayB c k = true := by
    intro k
    unfold one_
    cases mayB c k <;> simp
  simp only [List.mem_append, key]
  constructor
  · rintro (⟨rfl, h⟩ | ⟨rfl, h⟩ | ⟨rfl, h⟩) <;> exact h
  · intro h
    by_cases h1 : m = 1
    · subst h1; exact .inl ⟨rfl, h⟩
    · by_cases h2 : m = 2
      · subst h2; exact .inr (.inl ⟨rfl, h⟩)
      · by_cases h3 : m = 3
        · subst h3; exact .inr (.inr ⟨rfl, h⟩)
        · unfold mayB at h
          rw [decide_eq_false h1, decide_eq_false h2, decide_eq_false h3] at h
          cases h
theorem first_goes {l : claims.Line} (h : claims.fine l = true) (hn : 0 < l.2.1.length) : (claims.head l).1 = l.2.1.getD 0 0 ∧ (claims.leave l (l.2.1.getD 0 0)).1 = (l.1, l.2.1.drop 1, ()) := by
  obtain ⟨sh, xs, u⟩ := l
  cases xs with
  | nil => simp at hn
  | cons x xs =>
    refine ⟨by unfold claims.head; rw [if_pos ⟨h, by simp⟩], ?_⟩
    unfold claims.leave
    rw [if_pos ⟨h, by simp⟩]
    simp [ixf]
theorem may1 {c : Ch} (h : mayB c 1 = true) : 0 < c.2.2.2.1.2.1.length ∧ 0 < c.2.2.2.2.2.1.2.1.length := by
  unfold mayB at h
  simp at h
  omega
theorem may2 {c : Ch} (h : mayB c 2 = true) : 0 < c.2.2.2.1.2.1.length := by
  unfold mayB at h
  simp at h
  omega
theorem may3 {c : Ch} (h : mayB c 3 = true) : 0 < c.2.2.1.length ∧ 0 < c.2.2.2.2.2.1.2.1.length := by
  unfold mayB at h
  simp at h
  omega
theorem may_m {c : Ch} {m : Int} (h : mayB c m = true) : m = 1 ∨ m = 2 ∨ m = 3 := by
  by_cases h1 : m = 1
  · exact .inl h1
  · by_cases h2 : m = 2
    · exact .inr (.inl h2)
    · by_cases h3 : m = 3
      · exact .inr (.inr h3)
      · unfold mayB at h
        rw [decide_eq_false h1, decide_eq_false h2, decide_eq_false h3] at h
        cases h
end channel
end Go.Proofs.YtbkccpddkpclaaaGreatDoorV
namespace Go.Proofs.YtbkccpddkpclaaaGreatDoorV
set_option linter.unusedVariables false
set_option linter.unusedSimpArgs false
open Go.RowKit lists channel
namespace chantab
def newT : List Conf → Int → List Ch → List Ch × Int × Int × Unit
  | [], _, acc => (acc, 0, 0, ())
  | f :: fs, i, acc => if (new f).2.1 = 0 then newT fs (i + 1) (acc ++ [(new f).1]) else ([], i, (new f).2.1, ())
def newR (l : List Conf) : List Ch × Int × Int × Unit := if (l.length : Int) > 8 then ([], 8, 5, ()) else newT l 0 []
theorem rnew_eq (l : List Conf) : R19_New l = some (newR l) := by
  unfold R19_New newR
  by_cases h : (l.length : Int) > 8
  · rw [bif_pos h, if_pos h]
  · rw [bif_neg h, if_neg h]
    refine (loop_up (fun x => x.1) l.length (fun x : Int × List Ch => 0 ≤ x.1 ∧ (x.2.length : Int) ≤ x.1) (fun x => some (newT (l.drop x.1.toNat) x.1 x.2)) ⟨by simp, by simp⟩ (by simp; omega) ?_).trans (by simp)
    rintro k ⟨i, acc⟩ ⟨i0, i1⟩ hk
    simp only at i0 i1
    unfold R19_New_L1
    simp only
    by_cases hi : i < (l.length : Int)
    · have hk := hk hi
      rw [bif_pos hi, chk_at i0 hi, drop_at (d := (0, 0, 0, 0, ())) i0 hi, channel.rnew_eq, newT]
      simp only [Option.bind_some]
      generalize l.getD i.toNat (0, 0, 0, 0, ()) = f
      by_cases hf : (new f).2.1 = 0
      · rw [bnot_pos hf, if_pos hf, chk_pos (by simp; omega), w64 (by omega) (by omega), hk (i + 1, acc ++ [(new f).1]) ⟨by simp only; omega, by simp; omega⟩ rfl]
      · rw [bnot_neg hf, if_neg hf]
    · rw [bif_neg hi, drop_end hi]; rfl
theorem newT_all (P : Ch → Prop) (hP : ∀ f, P (new f).1) : ∀ (l : List Conf) (i : Int) (acc : List Ch), (∀ c ∈ acc, P c) → ∀ c ∈ (newT l i acc).1, P c
  | [], _, acc, h => h
  | f :: fs, i, acc, h => by
    unfold newT
    split
    · refine newT_all P hP fs _ _ fun c hc => ?_
      rcases List.mem_append.1 hc with hc | hc
      · exact h c hc
      · rw [List.mem_singleton.1 hc]; exact hP f
    · intro c hc; cases hc
theorem newT_len : ∀ (l : List Conf) (i : Int) (acc : List Ch), (newT l i acc).1.length ≤ acc.length + l.length
  | [], _, acc => by simp [newT]
  | f :: fs, i, acc => by
    unfold newT
    split
    · have := newT_len fs (i + 1) (acc ++ [(new f).1])
      simp at this ⊢; omega
    · simp
structure Tab (t : List Ch) : Prop where
  len : t.length ≤ 10
  all : ∀ c ∈ t, Small c
theorem Tab.at_ {t : List Ch} (h : Tab t) {i : Int} (h0 : 0 ≤ i) (hi : i < (t.length : Int)) : Small (t.getD i.toNat ((0, 0, 0, 0, ()), 0, [], (false, [], ()), [], (false, [], ()), ())) := h.all _ (getD_mem h0 hi)
theorem what_len (c : Ch) : (what c).length ≤ 3 := by
  unfold what
  split
  · simp
  · have := one_len c 1; have := one_len c 2; have := one_len c 3
    simp only [List.length_append]; omega
def movesF : List Ch → Int → List (Int × Int × Unit)
  | [], _ => []
  | c :: cs, i => (what c).map (fun m => (i, m, ())) ++ movesF cs (i + 1)
theorem inner (r1 : List Int) (hr : r1.length ≤ 3) (n i : Int) (acc : List (Int × Int × Unit)) (hi : i ≤ 10) (ha : (acc.length : Int) ≤ 3 * i) (hi0 : 0 ≤ i) (k1 : (Int × Int × List (Int × Int × Unit)) → Option (List (Int × Int × Unit))) :
    loop (chantab_Moves_L1 (r1.length : Int) r1 (n, i, acc) k1) (0, acc) = k1 (n, i + 1, acc ++ r1.map (fun m => (i, m, ()))) := by
  refine (loop_up (fun x => x.1) r1.length (fun x : Int × List (Int × Int × Unit) => 0 ≤ x.1 ∧ (x.2.length : Int) ≤ 3 * i + x.1) (fun x => k1 (n, i + 1, x.2 ++ (r1.drop x.1.toNat).map (fun m => (i, m, ())))) ⟨by simp, by simp; omega⟩ (by simp; omega) ?_).trans (by simp)
  rintro k ⟨j, b⟩ ⟨j0, j1⟩ hk
  simp only at j0 j1
  unfold chantab_Moves_L1
  simp only
  by_cases hj : j < (r1.length : Int)
  · have hk := hk hj
    rw [bif_pos hj, chk_at j0 hj, chk_pos (by simp; omega), letv_eq, w64 (by omega) (by omega), drop_at (d := 0) j0 hj, hk (j + 1, b ++ [(i, r1.getD j.toNat 0, ())]) ⟨by simp only; omega, by simp; omega⟩ rfl]
    simp
  · rw [bif_neg hj, drop_end hj]
    unfold chantab_Moves_J3 chantab_Moves_J2
    simp only
    rw [w64 (by omega) (by omega)]
    simp
theorem moves_eq (t : List Ch) (h : Tab t) : chantab_Moves t = some (movesF t 0) := by
  have hl := h.len
  unfold chantab_Moves
  refine (loop_up (fun x => x.2.1) t.length (fun x : Int × Int × List (Int × Int × Unit) => 0 ≤ x.2.1 ∧ (x.2.2.length : Int) ≤ 3 * x.2.1 ∧ x.1 = t.length) (fun x => some (x.2.2 ++ movesF (t.drop x.2.1.toNat) x.2.1)) ⟨by simp, by simp, rfl⟩ (by simp; omega) ?_).trans (by simp)
  rintro k ⟨n, i, acc⟩ ⟨i0, i1, i2⟩ hk
  simp only at i0 i1 i2
  subst i2
  unfold chantab_Moves_L2
  simp only
  by_cases hi : i < (t.length : Int)
  · have hk := hk hi
    rw [bif_pos hi, chk_at i0 hi, what_eq _ (h.at_ i0 hi)]
    simp only [Option.bind_some]
    have hw := what_len (t.getD i.toNat ((0, 0, 0, 0, ()), 0, [], (false, [], ()), [], (false, [], ()), ()))
    rw [inner _ hw _ _ _ (by omega) i1 i0, drop_at (d := ((0, 0, 0, 0, ()), 0, [], (false, [], ()), [], (false, [], ()), ())) i0 hi, movesF, hk (_, i + 1, _) ⟨by simp only; omega, by simp only [List.length_append, List.length_map]; omega, rfl⟩ rfl]
    simp
  · rw [bif_neg hi, drop_end hi]
    simp [movesF, chantab_Moves_J1]
theorem put_eq (t : List Ch) (i : Int) (x : Ch) (h0 : 0 ≤ i) (hi : i < (t.length : Int)) (hl : t.length ≤ 1000000) : R19_put t i x = some (t.set i.toNat x) := by
  unfold R19_put
  rw [chk_pos (by omega), chk_pos ⟨h0, hi⟩]
theorem ris_eq (t : List Ch) (i : Int) : R19_Is t i = some (decide (0 ≤ i ∧ i < (t.length : Int))) := by
  unfold R19_Is
  by_cases h : i ≥ 0
  · rw [bif_pos h]; congr 1; rw [decide_eq_decide]; omega
  · rw [bif_neg h, decide_eq_false (by omega)]
def poisonT (t : List Ch) (i v : Int) : List Ch × Int × Unit :=
  if 0 ≤ i ∧ i < (t.length : Int) then
    if (poison (t.getD i.toNat ((0, 0, 0, 0, ()), 0, [], (false, [], ()), [], (false, [], ()), ())) v).2.1 = 0 then (t.set i.toNat (poison (t.getD i.toNat ((0, 0, 0, 0, ()), 0, [], (false, [], ()), [], (false, [], ()), ())) v).1, 0, ()) else (t, (poison (t.getD i.toNat ((0, 0, 0, 0, ()), 0, [], (false, [], ()), [], (false, [], ()), ())) v).2.1, ())
  else (t, 8, ())
theorem rpoisonT_eq (t : List Ch) (i v : Int) (h : Tab t) : R19_Poison t i v = some (poisonT t i v) := by
  have hl := h.len
  unfold R19_Poison poisonT
  rw [ris_eq]
  simp only [Option.bind_some]
  by_cases hi : 0 ≤ i ∧ i < (t.length : Int)
  · rw [decide_eq_true hi, if_pos hi, chk_pos hi, rpoison_eq _ _ (h.at_ hi.1 hi.2)]
    simp only [Option.bind_some, Bool.not_true, cond_false]
    by_cases hp : (poison (t.getD i.toNat ((0, 0, 0, 0, ()), 0, [], (false, [], ()), [], (false, [], ()), ())) v).2.1 = 0
    · rw [bnot_pos hp, if_pos hp, put_eq _ _ _ hi.1 hi.2 (by omega)]; rfl
    · rw [bnot_neg hp, if_neg hp]
  · rw [decide_eq_false hi, if_neg hi]; rfl
end chantab
end Go.Proofs.YtbkccpddkpclaaaGreatDoorV
namespace Go.Proofs.YtbkccpddkpclaaaGreatDoorV
set_option linter.unusedVariables false
set_option linter.unusedSimpArgs false
namespace BS
theorem wrap_u64 (n : Int) : IntKind.u64.wrap n = n % 18446744073709551616 := by simp [IntKind.wrap, IntKind.bits, IntKind.signed]
theorem wu64 {n : Int} (h0 : 0 ≤ n) (h1 : n < 18446744073709551616) : IntKind.u64.wrap n = n := by rw [wrap_u64]; omega
theorem ofInt_nat {n : Nat} (h : n < 18446744073709551616) : (BitVec.ofInt 64 (n : Int)).toNat = n := by
  rw [BitVec.toNat_ofInt]
  have e : ((2 ^ 64 : Nat) : Int) = 18446744073709551616 := by decide
  rw [e]; omega
theorem and_nat {a b : Nat} (ha : a < 18446744073709551616) (hb : b < 18446744073709551616) : bitsOp .and .u64 (a : Int) (b : Int) = ((a &&& b : Nat) : Int) := by
  show IntKind.u64.wrap (BitVec.ofInt 64 (a : Int) &&& BitVec.ofInt 64 (b : Int)).toNat = _
  rw [BitVec.toNat_and, ofInt_nat ha, ofInt_nat hb]
  have := Nat.and_lt_two_pow a (y := b) (n := 64) hb
  exact wu64 (by omega) (by omega)
theorem or_nat {a b : Nat} (ha : a < 18446744073709551616) (hb : b < 18446744073709551616) : bitsOp .or .u64 (a : Int) (b : Int) = ((a ||| b : Nat) : Int) := by
  show IntKind.u64.wrap (BitVec.ofInt 64 (a : Int) ||| BitVec.ofInt 64 (b : Int)).toNat = _
  rw [BitVec.toNat_or, ofInt_nat ha, ofInt_nat hb]
  have := Nat.or_lt_two_pow (x := a) (y := b) (n := 64) ha hb
  exact wu64 (by omega) (by omega)
theorem andNot_nat {a b : Nat} (ha : a < 18446744073709551616) (hb : b < 18446744073709551616) : bitsOp .andNot .u64 (a : Int) (b : Int) = ((a &&& (18446744073709551615 - b) : Nat) : Int) := by
  show IntKind.u64.wrap (BitVec.ofInt 64 (a : Int) &&& ~~~BitVec.ofInt 64 (b : Int)).toNat = _
  rw [BitVec.toNat_and, BitVec.toNat_not, ofInt_nat ha, ofInt_nat hb]
  rw [show (2 ^ 64 - 1 - b : Nat) = 18446744073709551615 - b from rfl]
  have := Nat.and_lt_two_pow a (y := 18446744073709551615 - b) (n := 64) (by omega)
  exact wu64 (by omega) (by omega)
theorem not_bit {b : Nat} (hb : b < 18446744073709551616) (i : Nat) : (18446744073709551615 - b).testBit i = (decide (i < 64) && !b.testBit i) := by
  have := Nat.testBit_two_pow_sub_succ (n := 64) hb i
  rw [← this]; congr 1; omega
end BS
end Go.Proofs.YtbkccpddkpclaaaGreatDoorV
namespace Go.Proofs.YtbkccpddkpclaaaGreatDoorV
set_option linter.unusedVariables false
set_option linter.unusedSimpArgs false
def bitset_Add (a0 : List Int) (a1 : Int) : Option (List Int) :=
  Option.bind (bitset_fine a1) fun r1 =>
  bif r1 then
    chk ((64 : Int) ≠ 0) <|
    chk (0 ≤ (IntKind.i64.wrap (Int.tdiv a1 64)) ∧ (IntKind.i64.wrap (Int.tdiv a1 64)) < (4 : Int)) <|
    chk ((64 : Int) ≠ 0) <|
    chk (0 ≤ (Int.tmod a1 64)) <|
    chk (0 ≤ (IntKind.i64.wrap (Int.tdiv a1 64)) ∧ (IntKind.i64.wrap (Int.tdiv a1 64)) < (4 : Int)) <|
    some (a0.set (IntKind.i64.wrap (Int.tdiv a1 64)).toNat (bitsOp .or .u64 (a0.getD (IntKind.i64.wrap (Int.tdiv a1 64)).toNat 0) (IntKind.u64.wrap (1 * 2 ^ min (Int.tmod a1 64).toNat 64))))
  else
    some a0
namespace BS
abbrev M : Nat := 18446744073709551616
structure Wf (s : List Int) : Prop where
  ex : ∃ a b c d : Nat, s = [(a : Int), (b : Int), (c : Int), (d : Int)] ∧ a < M ∧ b < M ∧ c < M ∧ d < M
def wd (s : List Int) (k : Nat) : Nat := (s.getD k 0).toNat
def mem (s : List Int) (i : Nat) : Bool := (wd s (i / 64)).testBit (i % 64)
theorem Wf.len {s : List Int} (h : Wf s) : s.length = 4 := by obtain ⟨a, b, c, d, rfl, _⟩ := h.ex; rfl
theorem Wf.wd {s : List Int} (h : Wf s) (k : Nat) : s.getD k 0 = (BS.wd s k : Int) ∧ BS.wd s k < M := by
  obtain ⟨a, b, c, d, rfl, ha, hb, hc, hd⟩ := h.ex
  unfold BS.wd
  match k with
  | 0 => exact ⟨by simp, by simpa using ha⟩
  | 1 => exact ⟨by simp, by simpa using hb⟩
  | 2 => exact ⟨by simp, by simpa using hc⟩
  | 3 => exact ⟨by simp, by simpa using hd⟩
  | k + 4 => exact ⟨by simp, by simp⟩
theorem Wf.bit {s : List Int} (h : Wf s) (k i : Nat) (hi : 64 ≤ i) : (BS.wd s k).testBit i = false := by
  refine Nat.testBit_lt_two_pow (Nat.lt_of_lt_of_le (h.wd k).2 ?_)
  have : (2 : Nat) ^ 64 ≤ 2 ^ i := Nat.pow_le_pow_right (by omega) hi
  have e : (2 : Nat) ^ 64 = M := by decide
  omega
theorem ext {s t : List Int} (hs : Wf s) (ht : Wf t) (h : ∀ i, i < 256 → mem s i = mem t i) : s = t := by
  have hw : ∀ k, k < 4 → wd s k = wd t k := by
    intro k hk
    apply Nat.eq_of_testBit_eq
    intro i
    by_cases hi : i < 64
    · have := h (64 * k + i) (by omega)
      unfold mem at this
      rw [show (64 * k + i) / 64 = k by omega, show (64 * k + i) % 64 = i by omega] at this
      exact this
    · rw [hs.bit k i (by omega), ht.bit k i (by omega)]
  apply List.ext_getElem?
  intro k
  by_cases hk : k < 4
  · have e1 := (hs.wd k).1
    have e2 := (ht.wd k).1
    rw [List.getD_eq_getElem?_getD, List.getElem?_eq_getElem (by rw [hs.len]; exact hk)] at e1
    rw [List.getD_eq_getElem?_getD, List.getElem?_eq_getElem (by rw [ht.len]; exact hk)] at e2
    rw [List.getElem?_eq_getElem (by rw [hs.len]; exact hk), List.getElem?_eq_getElem (by rw [ht.len]; exact hk)]
    simp only [Option.getD_some] at e1 e2
    rw [e1, e2, hw k hk]
  · rw [List.getElem?_eq_none (by rw [hs.len]; omega), List.getElem?_eq_none (by rw [ht.len]; omega)]
theorem Wf.set {s : List Int} (h : Wf s) (k v : Nat) (hk : k < 4) (hv : v < M) : Wf (s.set k (v : Int)) ∧ ∀ i, i < 256 → mem (s.set k (v : Int)) i = if i / 64 = k then v.testBit (i % 64) else mem s i := by
  refine ⟨?_, fun i hi => ?_⟩
  · obtain ⟨a, b, c, d, rfl, ha, hb, hc, hd⟩ := h.ex
    match k, hk with
    | 0, _ => exact ⟨v, b, c, d, rfl, hv, hb, hc, hd⟩
    | 1, _ => exact ⟨a, v, c, d, rfl, ha, hv, hc, hd⟩
    | 2, _ => exact ⟨a, b, v, d, rfl, ha, hb, hv, hd⟩
    | 3, _ => exact ⟨a, b, c, v, rfl, ha, hb, hc, hv⟩
  · unfold mem BS.wd
    rw [List.getD_eq_getElem?_getD, List.getD_eq_getElem?_getD, List.getElem?_set]
    by_cases hik : i / 64 = k
    · rw [if_pos hik.symm, if_pos hik, if_pos (by rw [h.len]; omega)]; simp
    · rw [if_neg (fun e => hik e.symm), if_neg hik]
theorem fine_eq (a : Int) : bitset_fine a = some (decide (0 ≤ a ∧ a ≤ 255)) := by
  unfold bitset_fine
  by_cases h : a ≥ 0
  · rw [bif_pos h]; congr 1; rw [decide_eq_decide]; omega
  · rw [bif_neg h, decide_eq_false (by omega)]
theorem at_eq {n : Nat} (h : n < 256) : IntKind.i64.wrap (Int.tdiv (n : Int) 64) = ((n / 64 : Nat) : Int) ∧ Int.tmod (n : Int) 64 = ((n % 64 : Nat) : Int) := by
  rw [Int.tdiv_eq_ediv_of_nonneg (by omega), Int.tmod_eq_emod_of_nonneg (by omega)]
  exact ⟨by rw [w64 (by omega) (by omega)]; omega, by omega⟩
theorem bit_eq {r : Nat} (h : r < 64) : IntKind.u64.wrap (1 * 2 ^ min ((r : Nat) : Int).toNat 64) = ((2 ^ r : Nat) : Int) ∧ 2 ^ r < M := by
  have h1 : (2 : Nat) ^ r < 2 ^ 64 := Nat.pow_lt_pow_right (by omega) h
  have e : (2 : Nat) ^ 64 = M := by decide
  have e2 : min ((r : Nat) : Int).toNat 64 = r := by omega
  rw [e2, Int.one_mul]
  have e3 : ((2 : Int) ^ r) = ((2 ^ r : Nat) : Int) := by simp
  rw [e3]
  generalize 2 ^ r = z at h1
  exact ⟨wu64 (by omega) (by omega), by omega⟩
theorem add_eq {s : List Int} (h : Wf s) (a : Int) : ∃ t, bitset_Add s a = some t ∧ Wf t ∧ ∀ i, i < 256 → mem t i = (mem s i || decide ((i : Int) = a)) := by
  unfold bitset_Add
  rw [fine_eq]
  by_cases ha : 0 ≤ a ∧ a ≤ 255
  · obtain ⟨n, rfl⟩ : ∃ n : Nat, a = (n : Int) := ⟨a.toNat, by omega⟩
    rw [decide_eq_true ha, Option.bind_some, cond_true]
    obtain ⟨e1, e2⟩ := at_eq (n := n) (by omega)
    obtain ⟨e3, e4⟩ := bit_eq (r := n % 64) (by omega)
    rw [e1, e2, e3]
    have e5 : (((n / 64 : Nat) : Int)).toNat = n / 64 := by omega
    rw [e5]
    obtain ⟨w1, w2⟩ := h.wd (n / 64)
    rw [chk_pos (by omega), chk_pos (by omega), chk_pos (by omega), chk_pos (by omega), chk_pos (by omega), w1, or_nat w2 e4]
    have hlt : BS.wd s (n / 64) ||| 2 ^ (n % 64) < M := by
      have := Nat.or_lt_two_pow (x := BS.wd s (n / 64)) (y := 2 ^ (n % 64)) (n := 64) w2 e4
      exact this
    obtain ⟨g1, g2⟩ := h.set (n / 64) _ (by omega) hlt
    refine ⟨_, rfl, g1, fun i hi => ?_⟩
    rw [g2 i hi]
    split
    · rename_i hk
      rw [Nat.testBit_or, Nat.testBit_two_pow]
      unfold mem
      rw [hk]
      congr 1
      rw [decide_eq_decide]; omega
    · rename_i hk
      rw [decide_eq_false (by omega), Bool.or_false]
  · rw [decide_eq_false ha, Option.bind_some, cond_false]
    exact ⟨s, rfl, h, fun i hi => by rw [decide_eq_false (by omega), Bool.or_false]⟩
theorem shr_eq (x r : Nat) (h : r < 64) : Int.fdiv (x : Int) (2 ^ min ((r : Nat) : Int).toNat 64) = ((x / 2 ^ r : Nat) : Int) := by
  have e2 : min ((r : Nat) : Int).toNat 64 = r := by omega
  rw [e2]
  have e3 : ((2 : Int) ^ r) = ((2 ^ r : Nat) : Int) := by simp
  rw [e3, Int.fdiv_eq_ediv_of_nonneg _ (Int.natCast_nonneg _)]
  exact (Int.natCast_ediv _ _).symm
theorem has_eq {s : List Int} (h : Wf s) (a : Int) : bitset_Has s a = some (decide (0 ≤ a ∧ a ≤ 255) && mem s a.toNat) := by
  unfold bitset_Has
  rw [fine_eq]
  by_cases ha : 0 ≤ a ∧ a ≤ 255
  · obtain ⟨n, rfl⟩ : ∃ n : Nat, a = (n : Int) := ⟨a.toNat, by omega⟩
    rw [decide_eq_true ha, Option.bind_some, cond_true]
    obtain ⟨e1, e2⟩ := at_eq (n := n) (by omega)
    rw [e1, e2]
    have e5 : (((n / 64 : Nat) : Int)).toNat = n / 64 := by omega
    rw [e5]
    obtain ⟨w1, w2⟩ := h.wd (n / 64)
    rw [chk_pos (by omega), chk_pos (by omega), chk_pos (by omega), chk_pos (by omega), w1, shr_eq _ _ (by omega), letv_eq]
    have hb : BS.wd s (n / 64) / 2 ^ (n % 64) < 18446744073709551616 := Nat.lt_of_le_of_lt (Nat.div_le_self _ _) w2
    have := and_nat hb (b := 1) (by omega)
    rw [show ((1 : Nat) : Int) = 1 from rfl] at this
    rw [this, Nat.and_one_is_mod]
    have ht : mem s n = decide (BS.wd s (n / 64) / 2 ^ (n % 64) % 2 = 1) := by
      unfold mem
      rw [Nat.testBit_eq_decide_div_mod_eq]
    rw [show ((n : Int)).toNat = n by omega, ht, Bool.true_and]
    congr 1
    rw [decide_eq_decide]; omega
  · rw [decide_eq_false ha, Option.bind_some, cond_false, Bool.false_and]
end BS
end Go.Proofs.YtbkccpddkpclaaaGreatDoorV
namespace Go.Proofs.YtbkccpddkpclaaaGreatDoorV
set_option linter.unusedVariables false
set_option linter.unusedSimpArgs false
namespace BS
structure Part (f : Nat → Nat → Nat) (s t cur : List Int) (i : Int) : Prop where
  wf : Wf cur
  lo : ∀ k : Nat, (k : Int) < i → k < 4 → wd cur k = f (wd s k) (wd t k)
  hi : ∀ k : Nat, i ≤ (k : Int) → wd cur k = wd s k
theorem wd_set {s : List Int} (h : Wf s) (k v j : Nat) (hk : k < 4) : wd (s.set k (v : Int)) j = if j = k then v else wd s j := by
  unfold wd
  rw [List.getD_eq_getElem?_getD, List.getD_eq_getElem?_getD, List.getElem?_set]
  by_cases hj : k = j
  · rw [if_pos hj, if_pos hj.symm, if_pos (by rw [h.len]; exact hk)]; simp
  · rw [if_neg hj, if_neg (fun e => hj e.symm)]
theorem part0 (f : Nat → Nat → Nat) {s t : List Int} (hs : Wf s) : Part f s t s 0 := ⟨hs, fun k h => by omega, fun k _ => rfl⟩
theorem part_step {f : Nat → Nat → Nat} {s t cur : List Int} {k : Nat} (hf : ∀ a b, a < M → b < M → f a b < M) (hs : Wf s) (ht : Wf t) (hk : k < 4) (h : Part f s t cur (k : Int)) : Part f s t (cur.set k ((f (wd s k) (wd t k) : Nat) : Int)) ((k : Int) + 1) := by
  refine ⟨(h.wf.set k _ hk (hf _ _ (hs.wd k).2 (ht.wd k).2)).1, fun j hj h4 => ?_, fun j hj => ?_⟩
  · rw [wd_set h.wf k _ j hk]
    split
    · rename_i e; rw [e]
    · exact h.lo j (by omega) h4
  · rw [wd_set h.wf k _ j hk, if_neg (by omega)]
    exact h.hi j (by omega)
def zipf (f : Nat → Nat → Nat) (s t : List Int) : List Int := [((f (wd s 0) (wd t 0) : Nat) : Int), ((f (wd s 1) (wd t 1) : Nat) : Int), ((f (wd s 2) (wd t 2) : Nat) : Int), ((f (wd s 3) (wd t 3) : Nat) : Int)]
theorem part_zip {f : Nat → Nat → Nat} {s t cur : List Int} (hf : ∀ a b, a < M → b < M → f a b < M) (hs : Wf s) (ht : Wf t) (h : Part f s t cur 4) : cur = zipf f s t := by
  have l0 := h.lo 0 (by omega) (by omega)
  have l1 := h.lo 1 (by omega) (by omega)
  have l2 := h.lo 2 (by omega) (by omega)
  have l3 := h.lo 3 (by omega) (by omega)
  obtain ⟨a, b, c, d, rfl, _⟩ := h.wf.ex
  unfold zipf
  rw [← l0, ← l1, ← l2, ← l3]
  simp [wd]
theorem zip_mem {f : Nat → Nat → Nat} {g : Bool → Bool → Bool} (hf : ∀ a b, a < M → b < M → f a b < M) (hg : ∀ a b i, i < 64 → a < M → b < M → (f a b).testBit i = g (a.testBit i) (b.testBit i)) {s t : List Int} (hs : Wf s) (ht : Wf t) : Wf (zipf f s t) ∧ ∀ i, i < 256 → mem (zipf f s t) i = g (mem s i) (mem t i) := by
  have h : Wf (zipf f s t) := ⟨_, _, _, _, rfl, hf _ _ (hs.wd _).2 (ht.wd _).2, hf _ _ (hs.wd _).2 (ht.wd _).2, hf _ _ (hs.wd _).2 (ht.wd _).2, hf _ _ (hs.wd _).2 (ht.wd _).2⟩
  refine ⟨h, fun i hi => ?_⟩
  have hw : ∀ k, k < 4 → wd (zipf f s t) k = f (wd s k) (wd t k) := by
    intro k hk
    match k, hk with
    | 0, _ => simp [zipf, wd]
    | 1, _ => simp [zipf, wd]
    | 2, _ => simp [zipf, wd]
    | 3, _ => simp [zipf, wd]
  unfold mem
  rw [hw _ (by omega), hg _ _ _ (by omega) (hs.wd _).2 (ht.wd _).2]
theorem andNot_lt {a b : Nat} (ha : a < M) (hb : b < M) : a &&& (18446744073709551615 - b) < M := Nat.and_lt_two_pow (n := 64) a (Nat.lt_of_le_of_lt (Nat.sub_le _ _) (by decide))
theorem Less_zip {s t : List Int} (hs : Wf s) (ht : Wf t) : bitset_Less s t = some (zipf (fun a b => a &&& (18446744073709551615 - b)) s t) := by
  unfold bitset_Less
  rw [cutv_eq]
  unfold bitset_Less_C2
  refine loop_up (fun x => x.1) 4 (fun x => ∃ (k : Nat) (cur : List Int), x = ((k : Int), s, t, List.replicate 4 0, cur, t, List.replicate 4 0) ∧ k ≤ 4 ∧ Part (fun a b => a &&& (18446744073709551615 - b)) s t cur (k : Int)) (fun _ => some (zipf (fun a b => a &&& (18446744073709551615 - b)) s t)) ⟨0, s, rfl, by omega, part0 _ hs⟩ (by show (4 : Int) - 0 < _; omega) ?_
  rintro k2 x ⟨k, cur, rfl, hk, hp⟩ hnext
  unfold bitset_Less_L1
  simp only at hnext ⊢
  by_cases h4 : (k : Int) < 4
  · rw [bif_pos h4, cutv_eq]
    unfold bitset_Less_C1 bitset_Less_1 bitset_Less_R1
    simp only [Int.toNat_natCast]
    rw [chk_pos (by omega), chk_pos (by omega), (hp.wf.wd k).1, (ht.wd k).1, andNot_nat (hp.wf.wd k).2 (ht.wd k).2, Option.bind_some, chk_pos (by omega), hp.hi k (Int.le_refl _), w64 (by omega) (by omega)]
    refine hnext h4 _ ⟨k + 1, _, rfl, by omega, ?_⟩ (by simp)
    have := part_step (f := fun a b => a &&& (18446744073709551615 - b)) (fun a b ha hb => andNot_lt ha hb) hs ht (by omega) hp
    exact_mod_cast this
  · rw [bif_neg h4]
    unfold bitset_Less_J1 bitset_Less_R2
    simp only
    obtain rfl : k = 4 := by omega
    rw [part_zip (fun a b ha hb => andNot_lt ha hb) hs ht hp]
theorem Less_eq {s t : List Int} (hs : Wf s) (ht : Wf t) : ∃ u, bitset_Less s t = some u ∧ Wf u ∧ ∀ i, i < 256 → mem u i = (mem s i && !mem t i) := by
  obtain ⟨h1, h2⟩ := zip_mem (f := fun a b => a &&& (18446744073709551615 - b)) (g := fun a b => (a && !b)) (fun a b ha hb => andNot_lt ha hb) (fun a b i hi ha hb => by rw [Nat.testBit_and, not_bit hb, decide_eq_true hi, Bool.true_and]) hs ht
  exact ⟨_, Less_zip hs ht, h1, h2⟩
theorem zero_wf : Wf (List.replicate 4 0) := ⟨0, 0, 0, 0, rfl, by decide, by decide, by decide, by decide⟩
theorem zero_mem (i : Nat) : mem (List.replicate 4 0) i = false := by
  unfold mem wd
  rw [List.getD_eq_getElem?_getD, List.getElem?_replicate]
  split <;> simp
def sub (s t : List Int) : Bool := (List.range 256).all fun i => !mem s i || mem t i
theorem sub_iff {s t : List Int} : sub s t = true ↔ ∀ i, i < 256 → mem s i = true → mem t i = true := by
  unfold sub
  rw [List.all_eq_true]
  constructor
  · intro h i hi hm
    have := h i (List.mem_range.2 hi)
    rw [hm] at this; simpa using this
  · intro h i hi
    cases hm : mem s i with
    | false => rfl
    | true => rw [h i (List.mem_range.1 hi) hm]; rfl
theorem Sub_eq {s t : List Int} (hs : Wf s) (ht : Wf t) : bitset_Sub s t = some (sub s t) := by
  obtain ⟨u, h1, h2, h3⟩ := Less_eq hs ht
  unfold bitset_Sub
  rw [h1, Option.bind_some, letv_eq]
  congr 1
  rw [Bool.eq_iff_iff, decide_eq_true_iff, sub_iff]
  constructor
  · rintro rfl i hi hm
    have := h3 i hi
    rw [zero_mem, hm] at this
    cases ht2 : mem t i with
    | true => rfl
    | false => rw [ht2] at this; cases this
  · intro h
    refine ext h2 zero_wf fun i hi => ?_
    rw [zero_mem, h3 i hi]
    cases hm : mem s i with
    | false => rfl
    | true => rw [h i hi hm]; rfl
end BS
end Go.Proofs.YtbkccpddkpclaaaGreatDoorV
namespace Go.Proofs.YtbkccpddkpclaaaGreatDoorV
set_option linter.unusedVariables false
set_option linter.unusedSimpArgs false
namespace BS
def idsTo (p : Nat → Bool) (j : Nat) : List Int := ((List.range j).filter p).map fun (i : Nat) => (i : Int)
def ids (p : Nat → Bool) : List Int := idsTo p 256
theorem idsTo_len (p : Nat → Bool) (j : Nat) : (idsTo p j).length ≤ j := by
  unfold idsTo
  rw [List.length_map]
  have := List.length_filter_le p (List.range j)
  simpa using this
theorem idsTo_ext {p : Nat → Bool} {i j : Nat} (hij : i ≤ j) (h : ∀ k, i ≤ k → k < j → p k = false) : idsTo p j = idsTo p i := by
  induction j with
  | zero => obtain rfl : i = 0 := by omega
            rfl
  | succ j ih =>
    by_cases he : i = j + 1
    · rw [he]
    · rw [← ih (by omega) (fun k h1 h2 => h k h1 (by omega))]
      unfold idsTo
      rw [List.range_succ, List.filter_append]
      simp [h j (by omega) (by omega)]
theorem idsTo_succ {p : Nat → Bool} {j : Nat} (h : p j = true) : idsTo p (j + 1) = idsTo p j ++ [(j : Int)] := by
  unfold idsTo
  rw [List.range_succ, List.filter_append]
  simp [h]
def ofs : List Int → List Int → List Int
  | s, [] => s
  | s, a :: l => ofs ((bitset_Add s a).getD []) l
theorem ofs_eq : ∀ (l : List Int) (s : List Int), Wf s → Wf (ofs s l) ∧ ∀ i, i < 256 → mem (ofs s l) i = (mem s i || decide ((i : Int) ∈ l))
  | [], s, h => ⟨h, fun i _ => by simp [ofs]⟩
  | a :: l, s, h => by
    obtain ⟨t, t1, t2, t3⟩ := add_eq h a
    unfold ofs
    rw [t1, Option.getD_some]
    obtain ⟨g1, g2⟩ := ofs_eq l t t2
    refine ⟨g1, fun i hi => ?_⟩
    rw [g2 i hi, t3 i hi, Bool.or_assoc]
    congr 1
    rw [Bool.eq_iff_iff]; simp
theorem ofs_app : ∀ (l : List Int) (s : List Int) (a : Int), ofs s (l ++ [a]) = (bitset_Add (ofs s l) a).getD []
  | [], s, a => rfl
  | b :: l, s, a => by
    show ofs _ (l ++ [a]) = _
    rw [ofs_app l]; rfl
end BS
end Go.Proofs.YtbkccpddkpclaaaGreatDoorV
namespace Go.Proofs.YtbkccpddkpclaaaGreatDoorV
set_option linter.unusedVariables false
set_option linter.unusedSimpArgs false
namespace BS
theorem filt_loop {F : (Int × List Int → Option (List Int)) → Int × List Int → Option (List Int)} (l : List Int) (c : Int → Bool) (hl : l.length ≤ 140737488355328)
    (h1 : ∀ k (i : Int) out, 0 ≤ i → i < (l.length : Int) → out.length ≤ l.length → F k (i, out) = if c (l.getD i.toNat 0) then k (i + 1, out ++ [l.getD i.toNat 0]) else k (i + 1, out))
    (h2 : ∀ k (i : Int) out, ¬ i < (l.length : Int) → F k (i, out) = some out) : loop F (0, []) = some (l.filter c) := by
  refine loop_up (fun x => x.1) l.length (fun x => ∃ k : Nat, x = ((k : Int), (l.take k).filter c) ∧ k ≤ l.length) (fun _ => some (l.filter c)) ⟨0, by simp, by omega⟩ (by show (l.length : Int) - 0 < _; omega) ?_
  rintro kk x ⟨k, rfl, hk⟩ hnext
  simp only at hnext
  by_cases h : (k : Int) < (l.length : Int)
  · have hle : ((l.take k).filter c).length ≤ l.length := Nat.le_trans (List.length_filter_le _ _) (by simp; omega)
    rw [h1 kk _ _ (by omega) h hle]
    have ht := take_at (xs := l) (i := (k : Int)) (d := 0) (by omega) h
    rw [show ((k : Int) + 1).toNat = k + 1 by omega, show ((k : Int)).toNat = k by omega] at ht
    rw [show ((k : Int)).toNat = k by omega]
    split
    · rename_i hc
      exact hnext h _ ⟨k + 1, by rw [ht, List.filter_append, List.filter_cons_of_pos hc]; rfl, by omega⟩ rfl
    · rename_i hc
      exact hnext h _ ⟨k + 1, by rw [ht, List.filter_append, List.filter_cons_of_neg hc]; simp, by omega⟩ rfl
  · rw [h2 kk _ _ h, List.take_of_length_le (by omega)]
theorem rHas_eq (l : List Int) (v : Int) (hl : l.length ≤ 140737488355328) : R04_Has l v = some (decide (v ∈ l)) := by
  unfold R04_Has
  refine loop_up (fun i => i) l.length (fun i => ∃ k : Nat, i = (k : Int) ∧ k ≤ l.length ∧ v ∉ l.take k) (fun _ => some (decide (v ∈ l))) ⟨0, rfl, by omega, by simp⟩ (by omega) ?_
  rintro kk x ⟨k, rfl, hk, hv⟩ hnext
  unfold R04_Has_L1
  by_cases h : (k : Int) < (l.length : Int)
  · rw [bif_pos h, chk_at (by omega) h]
    have ht := take_at (xs := l) (i := (k : Int)) (d := 0) (by omega) h
    rw [show ((k : Int) + 1).toNat = k + 1 by omega, show ((k : Int)).toNat = k by omega] at ht
    rw [show ((k : Int)).toNat = k by omega]
    by_cases he : l.getD k 0 = v
    · rw [bif_pos he, decide_eq_true]
      have := getD_mem (xs := l) (i := (k : Int)) (d := 0) (by omega) h
      rw [show ((k : Int)).toNat = k by omega, he] at this
      exact this
    · rw [bif_neg he, w64 (by omega) (by omega)]
      refine hnext h _ ⟨k + 1, rfl, by omega, ?_⟩ rfl
      rw [ht, List.mem_append]
      rintro (h1 | h1)
      · exact hv h1
      · exact he (List.mem_singleton.1 h1).symm
  · rw [bif_neg h]
    unfold R04_Has_J1
    rw [List.take_of_length_le (by omega)] at hv
    rw [decide_eq_false hv]
theorem rOf_eq (l : List Int) (hl : l.length ≤ 140737488355328) : R04_Of l = some (ids fun i => decide ((i : Int) ∈ l)) := by
  unfold R04_Of
  refine loop_up (fun x => x.1) 256 (fun x => ∃ k : Nat, x = ((k : Int), idsTo (fun i => decide ((i : Int) ∈ l)) k) ∧ k ≤ 256) (fun _ => some (ids fun i => decide ((i : Int) ∈ l))) ⟨0, rfl, by omega⟩ (by show (256 : Int) - 0 < _; omega) ?_
  rintro kk x ⟨k, rfl, hk⟩ hnext
  unfold R04_Of_L1
  simp only at hnext ⊢
  by_cases h : (k : Int) ≤ 255
  · rw [bif_pos h, rHas_eq _ _ hl, Option.bind_some]
    have hlen := idsTo_len (fun i => decide ((i : Int) ∈ l)) k
    by_cases hm : (k : Int) ∈ l
    · rw [decide_eq_true hm, cond_true, chk_pos (by simp; omega), w64 (by omega) (by omega)]
      exact hnext (by omega) _ ⟨k + 1, by rw [idsTo_succ (by simp [hm])]; rfl, by omega⟩ rfl
    · rw [decide_eq_false hm, cond_false, w64 (by omega) (by omega)]
      refine hnext (by omega) _ ⟨k + 1, ?_, by omega⟩ rfl
      rw [idsTo_ext (p := fun i => decide ((i : Int) ∈ l)) (i := k) (j := k + 1) (by omega) (fun q h1 h2 => by have e : q = k := (by omega); rw [e]; exact decide_eq_false hm)]
      rfl
  · rw [bif_neg h]
    obtain rfl : k = 256 := by omega
    rfl
theorem rAdd_eq (l : List Int) (a : Int) (hl : l.length ≤ 4294967295) : R04_Add l a = some (ids fun i => decide ((i : Int) ∈ l ++ [a])) := by
  unfold R04_Add
  rw [chk_pos (by omega), chk_pos (by simp; omega), rOf_eq _ (by simp; omega)]; rfl
theorem rLess_eq (l m : List Int) (hl : l.length ≤ 4294967295) (hm : m.length ≤ 140737488355328) : R04_Less l m = some (l.filter fun x => !decide (x ∈ m)) := by
  unfold R04_Less
  refine filt_loop l _ (by omega) (fun k i out h0 h h2 => ?_) (fun k i out h => ?_)
  · unfold R04_Less_L1
    simp only
    rw [bif_pos h, chk_at h0 h, w64 (by omega) (by omega), rHas_eq _ _ hm, Option.bind_some]
    by_cases he : l.getD i.toNat 0 ∈ m
    · rw [decide_eq_true he]; rfl
    · rw [decide_eq_false he, Bool.not_false, cond_true, chk_at h0 h, chk_pos (by simp; omega)]; rfl
  · unfold R04_Less_L1; rw [bif_neg h]; rfl
theorem ids_mem {p : Nat → Bool} {v : Int} : v ∈ ids p ↔ 0 ≤ v ∧ v < 256 ∧ p v.toNat = true := by
  unfold ids idsTo
  rw [List.mem_map]
  constructor
  · rintro ⟨i, hi, rfl⟩
    rw [List.mem_filter, List.mem_range] at hi
    exact ⟨by omega, by omega, by simpa using hi.2⟩
  · rintro ⟨h0, h1, h2⟩
    exact ⟨v.toNat, by rw [List.mem_filter, List.mem_range]; exact ⟨by omega, h2⟩, by omega⟩
theorem ids_mem_nat {p : Nat → Bool} {i : Nat} : (i : Int) ∈ ids p ↔ i < 256 ∧ p i = true := by
  rw [ids_mem]; simp only [Int.toNat_natCast]; constructor
  · rintro ⟨_, h1, h2⟩; exact ⟨by omega, h2⟩
  · rintro ⟨h1, h2⟩; exact ⟨by omega, by omega, h2⟩
theorem ids_congr {p q : Nat → Bool} (h : ∀ i, i < 256 → p i = q i) : ids p = ids q := by
  unfold ids idsTo
  congr 1
  refine List.filter_congr fun i hi => h i (List.mem_range.1 hi)
theorem ids_len (p : Nat → Bool) : (ids p).length ≤ 256 := idsTo_len p 256
end BS
end Go.Proofs.YtbkccpddkpclaaaGreatDoorV
namespace Go.Proofs.YtbkccpddkpclaaaGreatDoorV
set_option linter.unusedVariables false
set_option linter.unusedSimpArgs false
namespace BS
theorem rfine_eq (a : Int) : R04_fine a = some (decide (0 ≤ a ∧ a ≤ 255)) := by
  unfold R04_fine
  by_cases h : a ≥ 0
  · rw [bif_pos h]; congr 1; rw [decide_eq_decide]; omega
  · rw [bif_neg h, decide_eq_false (by omega)]
theorem Words_eq (l : List Int) (hl : l.length ≤ 140737488355328) : ∃ s, R04_Words l = some s ∧ Wf s ∧ ∀ i, i < 256 → mem s i = decide ((i : Int) ∈ l) := by
  have hz := zero_wf
  refine ⟨ofs (List.replicate 4 0) l, ?_, (ofs_eq l _ hz).1, fun i hi => by rw [(ofs_eq l _ hz).2 i hi, zero_mem, Bool.false_or]⟩
  unfold R04_Words
  refine loop_up (fun x => x.1) l.length (fun x => ∃ k : Nat, x = ((k : Int), ofs (List.replicate 4 0) (l.take k)) ∧ k ≤ l.length) (fun _ => some (ofs (List.replicate 4 0) l)) ⟨0, rfl, by omega⟩ (by show (l.length : Int) - 0 < _; omega) ?_
  rintro kk x ⟨k, rfl, hk⟩ hnext
  unfold R04_Words_L1
  simp only at hnext ⊢
  by_cases h : (k : Int) < (l.length : Int)
  · have hw := (ofs_eq (l.take k) _ hz).1
    have ht := take_at (xs := l) (i := (k : Int)) (d := 0) (by omega) h
    rw [show ((k : Int) + 1).toNat = k + 1 by omega, show ((k : Int)).toNat = k by omega] at ht
    obtain ⟨t, t1, _, _⟩ := add_eq hw (l.getD k 0)
    have hn : kk ((k : Int) + 1, t) = some (ofs (List.replicate 4 0) l) := hnext h _ ⟨k + 1, by rw [ht, ofs_app, t1]; simp, by omega⟩ rfl
    rw [bif_pos h, chk_at (by omega) h, show ((k : Int)).toNat = k by omega, rfine_eq, Option.bind_some]
    generalize hg : l.getD k 0 = a at *
    unfold bitset_Add at t1
    rw [fine_eq] at t1
    by_cases ha : 0 ≤ a ∧ a ≤ 255
    · obtain ⟨n, rfl⟩ : ∃ n : Nat, a = (n : Int) := ⟨a.toNat, by omega⟩
      rw [decide_eq_true ha, cond_true]
      rw [decide_eq_true ha, Option.bind_some, cond_true] at t1
      obtain ⟨e1, e2⟩ := at_eq (n := n) (by omega)
      rw [e1, e2, chk_pos (by omega), chk_pos (by omega), chk_pos (by omega), chk_pos (by omega), chk_pos (by omega)] at t1
      rw [e1, e2, wu64 (n := ((n % 64 : Nat) : Int)) (by omega) (by omega), chk_at (by omega) h, chk_pos (by omega), chk_pos (by omega), chk_at (by omega) h, chk_pos (by omega), chk_pos (by omega), chk_pos (by omega), w64 (by omega) (by omega), Option.some.inj t1]
      exact hn
    · rw [decide_eq_false ha, cond_false]
      rw [decide_eq_false ha, Option.bind_some, cond_false] at t1
      rw [w64 (by omega) (by omega), Option.some.inj t1]
      exact hn
  · rw [bif_neg h]
    unfold R04_Words_J1
    rw [List.take_of_length_le (by omega)]
theorem words_ids {p : Nat → Bool} : ∃ s, R04_Words (ids p) = some s ∧ Wf s ∧ ids (mem s) = ids p := by
  have hl := ids_len p
  obtain ⟨s, s1, s2, s3⟩ := Words_eq (ids p) (by omega)
  refine ⟨s, s1, s2, ids_congr fun i hi => ?_⟩
  rw [s3 i hi, Bool.eq_iff_iff, decide_eq_true_iff, ids_mem_nat]
  exact ⟨fun h => h.2, fun h => ⟨hi, h⟩⟩
end BS
end Go.Proofs.YtbkccpddkpclaaaGreatDoorV
namespace Go.Proofs.YtbkccpddkpclaaaGreatDoorV
set_option linter.unusedVariables false
set_option linter.unusedSimpArgs false
namespace BS
abbrev Roll := (List Int) × (List Int) × Unit
def PR (r : Roll) : Roll := (ids (mem r.1), ids (mem r.2.1), ())
def WR (r : Roll) : Prop := Wf r.1 ∧ Wf r.2.1
theorem ev_wf : Wf gl_becket_roll_everybody := ⟨65535, 0, 0, 0, rfl, by decide, by decide, by decide, by decide⟩
def fine (r : Roll) : Bool := sub r.1 gl_becket_roll_everybody && sub r.2.1 r.1
theorem Fine_eq {r : Roll} (h : WR r) : roll_Fine r = some (fine r) := by
  unfold roll_Fine fine
  rw [Sub_eq h.1 ev_wf, Sub_eq h.2 h.1]
  cases sub r.1 gl_becket_roll_everybody <;> rfl
theorem has_sim {s : List Int} (h : Wf s) (a : Int) : ∃ b, bitset_Has s a = some b ∧ R04_Has (ids (mem s)) a = some b := by
  have hl := ids_len (mem s)
  refine ⟨_, has_eq h a, ?_⟩
  rw [rHas_eq _ _ (by omega), Option.some_inj, Bool.eq_iff_iff, decide_eq_true_iff, ids_mem, Bool.and_eq_true, decide_eq_true_iff]
  constructor
  · rintro ⟨h1, h2, h3⟩; exact ⟨⟨h1, by omega⟩, h3⟩
  · rintro ⟨⟨h1, h2⟩, h3⟩; exact ⟨h1, by omega, h3⟩
theorem PR_mk (s t : List Int) : PR (s, t, ()) = (ids (mem s), ids (mem t), ()) := rfl
theorem ids_nil {s : List Int} (h : Wf s) : ids (mem s) = [] ↔ s = List.replicate 4 0 := by
  constructor
  · intro hn
    refine ext h zero_wf fun i hi => ?_
    rw [zero_mem]
    cases hm : mem s i with
    | false => rfl
    | true =>
      have : (i : Int) ∈ ids (mem s) := ids_mem_nat.2 ⟨hi, hm⟩
      rw [hn] at this; cases this
  · rintro rfl
    rw [List.eq_nil_iff_forall_not_mem]
    intro x hx
    have := (ids_mem.1 hx).2.2
    rw [zero_mem] at this; cases this
def full (r : Roll) : Bool := fine r && (decide ((r.2.1 : List Int) = r.1) && !decide ((r.2.1 : List Int) = List.replicate 4 0))
theorem Full_eq {r : Roll} (h : WR r) : roll_Full r = some (full r) := by
  unfold roll_Full full
  rw [Fine_eq h, Option.bind_some]
  cases fine r with
  | false => rfl
  | true =>
    by_cases e : r.2.1 = r.1
    · rw [cond_true, bif_pos e, letv_eq, decide_eq_true e]; rfl
    · rw [cond_true, bif_neg e, decide_eq_false e]; rfl
theorem To_eq (a : Roll) (h1 : a.1.length ≤ 140737488355328) (h2 : a.2.1.length ≤ 140737488355328) : ∃ r, WR r ∧ L21_Plain a = some (PR r) ∧ L21_To (PR r) = some r := by
  unfold L21_Plain
  rw [rOf_eq _ h1, rOf_eq _ h2]
  obtain ⟨s, s1, s2, s3⟩ := words_ids (p := fun i => decide ((i : Int) ∈ a.1))
  obtain ⟨t, t1, t2, t3⟩ := words_ids (p := fun i => decide ((i : Int) ∈ a.2.1))
  refine ⟨(s, t, ()), ⟨s2, t2⟩, by rw [PR_mk, s3, t3]; rfl, ?_⟩
  unfold L21_To
  rw [PR_mk, s3, t3]
  simp only
  rw [s1, t1]; rfl
theorem Plain_PR (r : Roll) : L21_Plain (PR r) = some (PR r) := by
  unfold L21_Plain PR
  have h1 := ids_len (mem r.1)
  have h2 := ids_len (mem r.2.1)
  simp only
  rw [rOf_eq _ (by omega), rOf_eq _ (by omega)]
  have e : ∀ p : Nat → Bool, (ids fun i => decide ((i : Int) ∈ ids p)) = ids p := fun p => ids_congr fun i hi => by
    rw [Bool.eq_iff_iff, decide_eq_true_iff, ids_mem_nat]; exact ⟨fun h => h.2, fun h => ⟨hi, h⟩⟩
  rw [e, e]; rfl
end BS
end Go.Proofs.YtbkccpddkpclaaaGreatDoorV
namespace Go.Proofs.YtbkccpddkpclaaaGreatDoorV
set_option linter.unusedVariables false
set_option linter.unusedSimpArgs false
namespace BS
abbrev Bar := (Bool × Int × Unit) × Roll × Int × Unit
def PB (b : Bar) : Bar := (b.1, PR b.2.1, b.2.2.1, ())
def WB (b : Bar) : Prop := WR b.2.1
def ph (n l : Int) : Bool := decide (0 ≤ n ∧ n ≤ l ∧ 1 ≤ l ∧ l ≤ 65535)
theorem phase_eq (n l : Int) : phase_Fine n l = some (ph n l) := by
  unfold phase_Fine ph
  by_cases h1 : l ≥ 1
  · rw [bif_pos h1]
    by_cases h2 : l ≤ 65535
    · rw [bif_pos h2]
      by_cases h3 : n ≥ 0
      · rw [bif_pos h3]; congr 1; rw [decide_eq_decide]; omega
      · rw [bif_neg h3, decide_eq_false (by omega)]
    · rw [bif_neg h2, decide_eq_false (by omega)]
  · rw [bif_neg h1, decide_eq_false (by omega)]
theorem r20_eq (n l : Int) : R20_Fine n l = some (ph n l) := by
  unfold R20_Fine ph
  by_cases h1 : l ≥ 1
  · rw [bif_pos h1]
    by_cases h2 : l ≤ 65535
    · rw [bif_pos h2]
      by_cases h3 : n ≥ 0
      · rw [bif_pos h3]; congr 1; rw [decide_eq_decide]; omega
      · rw [bif_neg h3, decide_eq_false (by omega)]
    · rw [bif_neg h2, decide_eq_false (by omega)]
  · rw [bif_neg h1, decide_eq_false (by omega)]
def bfine (b : Bar) : Bool := ph b.2.2.1 b.1.2.1 && fine b.2.1
theorem bFine_eq {b : Bar} (h : WB b) : barrier_Fine b = some (bfine b) := by
  unfold barrier_Fine bfine
  rw [phase_eq, Fine_eq h]
  cases ph b.2.2.1 b.1.2.1 <;> rfl
theorem bfine_ph {b : Bar} (h : bfine b = true) : (0 ≤ b.2.2.1 ∧ b.2.2.1 ≤ b.1.2.1 ∧ 1 ≤ b.1.2.1 ∧ b.1.2.1 ≤ 65535) ∧ ph b.2.2.1 b.1.2.1 = true ∧ fine b.2.1 = true := by
  unfold bfine at h
  rw [Bool.and_eq_true] at h
  exact ⟨of_decide_eq_true h.1, h.1, h.2⟩
theorem Left_eq {n l : Int} (h : ph n l = true) : phase_Left n l = some (l - n) := by
  have h' := of_decide_eq_true h
  unfold phase_Left
  rw [phase_eq, h, Option.bind_some, Bool.not_true, cond_false, w64 (by omega) (by omega)]
def bready (b : Bar) : Bool := bfine b && (full b.2.1 && decide (b.2.2.1 < b.1.2.1))
theorem bReady_eq {b : Bar} (h : WB b) : barrier_Ready b = some (bready b) := by
  unfold barrier_Ready bready
  rw [bFine_eq h, Option.bind_some]
  cases hf : bfine b with
  | false => rfl
  | true =>
    obtain ⟨p, p2, p3⟩ := bfine_ph hf
    rw [cond_true, Full_eq h, Option.bind_some]
    cases full b.2.1 with
    | false => rfl
    | true =>
      rw [cond_true, Left_eq p2, Option.bind_some, Bool.true_and, Bool.true_and, Option.some_inj, decide_eq_decide]
      omega
theorem bTo_eq (a : Bar) (h1 : a.2.1.1.length ≤ 140737488355328) (h2 : a.2.1.2.1.length ≤ 140737488355328) : ∃ b, WB b ∧ L22_Plain a = some (PB b) ∧ L22_To (PB b) = some b ∧ b.1 = a.1 := by
  obtain ⟨r, r1, r2, r3⟩ := To_eq a.2.1 h1 h2
  refine ⟨(a.1, r, a.2.2.1, ()), r1, ?_, ?_, rfl⟩
  · unfold L22_Plain; rw [r2]; rfl
  · unfold L22_To
    rw [show (PB (a.1, r, a.2.2.1, ())).2.1 = PR r from rfl, Plain_PR, Option.bind_some, r3]; rfl
theorem Small_eq (a : Bar) : L22_Small a = some (decide (a.2.1.1.length ≤ 40 ∧ a.2.1.2.1.length ≤ 40)) := by
  unfold L22_Small
  by_cases h : (a.2.1.1.length : Int) ≤ 40
  · rw [bif_pos h]; congr 1; rw [decide_eq_decide]; omega
  · rw [bif_neg h, decide_eq_false (by omega)]
end BS
end Go.Proofs.YtbkccpddkpclaaaGreatDoorV
namespace Go.Proofs.YtbkccpddkpclaaaGreatDoorV
set_option linter.unusedVariables false
set_option linter.unusedSimpArgs false
open Go.RowKit
namespace lists0
end lists0
end Go.Proofs.YtbkccpddkpclaaaGreatDoorV
namespace Go.Proofs.YtbkccpddkpclaaaGreatDoorV
set_option linter.unusedVariables false
set_option linter.unusedSimpArgs false
namespace BS
def B0 : Bar := ((false, 0, ()), ((List.replicate 4 0), (List.replicate 4 0), ()), 0, ())
def D0 : Bar := ((false, 0, ()), ([], [], ()), 0, ())
abbrev Gd : Type := Int × Int × Int × Int × Int × Unit
def g0 : Gd := (0, 0, 0, 0, 0, ())
def WT (t : List Bar) : Prop := ∀ b ∈ t, WB b
def PT (t : List Bar) : List Bar := t.map PB
theorem PT_len (t : List Bar) : (PT t).length = t.length := by simp [PT]
theorem WT.at {t : List Bar} (h : WT t) {i : Int} (h0 : 0 ≤ i) (hi : i < (t.length : Int)) : WB (t.getD i.toNat B0) := h _ (getD_mem h0 hi)
theorem WT.set {t : List Bar} (h : WT t) (i : Nat) {b : Bar} (hb : WB b) : WT (t.set i b) := fun y hy => by
  rcases List.mem_or_eq_of_mem_set hy with hy | hy
  · exact h y hy
  · rw [hy]; exact hb
def inB (a : Bar) : Bar := ((L22_Plain a).bind L22_To).getD B0
theorem inB_eq (a : Bar) (h1 : a.2.1.1.length ≤ 140737488355328) (h2 : a.2.1.2.1.length ≤ 140737488355328) : WB (inB a) ∧ L22_Plain a = some (PB (inB a)) ∧ L22_To (PB (inB a)) = some (inB a) := by
  obtain ⟨b, b1, b2, b3, b4⟩ := bTo_eq a h1 h2
  have : inB a = b := by unfold inB; rw [b2, Option.bind_some, b3]; rfl
  rw [this]; exact ⟨b1, b2, b3⟩
def WfT23 (a : List Bar) : Prop := a.length ≤ 140737488355328 ∧ ∀ b ∈ a, b.2.1.1.length ≤ 140737488355328 ∧ b.2.1.2.1.length ≤ 140737488355328
def inT (a : List Bar) : List Bar := a.map inB
theorem inT_wt {a : List Bar} (h : WfT23 a) : WT (inT a) := fun b hb => by
  obtain ⟨c, hc, rfl⟩ := List.mem_map.1 hb
  exact (inB_eq c (h.2 c hc).1 (h.2 c hc).2).1
theorem inT_len (a : List Bar) : (inT a).length = a.length := by simp [inT]
theorem Plain_tab {a : List Bar} (h : WfT23 a) (hl : a.length ≤ 100) : L23_Plain a = some (PT (inT a)) := by
  unfold L23_Plain
  refine (loop_up (fun x => x.1) a.length (fun x => ∃ j acc, 0 ≤ j ∧ (acc.length : Int) ≤ j ∧ x = (j, acc)) (fun x => some (x.2 ++ PT (inT (a.drop x.1.toNat)))) ⟨0, [], by omega, by simp, rfl⟩ (by simp; omega) ?_).trans (by simp)
  rintro k _ ⟨j, acc, h0, ha, rfl⟩ hk
  simp only at hk ⊢
  unfold L23_Plain_L1 L23_Plain_J1
  simp only
  by_cases hj : j < (a.length : Int)
  · have hm := h.2 _ (getD_mem (d := D0) h0 hj)
    have hb := (inB_eq _ hm.1 hm.2).2.1
    have e := drop_at (d := D0) h0 hj
    unfold D0 at hb e
    rw [bif_pos hj, chk_at h0 hj, hb, Option.bind_some, chk_pos (by simp; omega), w64 (by omega) (by omega), hk hj (j + 1, _) ⟨j + 1, _, by omega, by simp; omega, rfl⟩ rfl, e]
    simp [PT, inT]
  · rw [bif_neg hj, drop_end hj]; simp [PT, inT]
theorem To_tab {a : List Bar} (h : WfT23 a) (hl : a.length ≤ 100) : L23_To (PT (inT a)) = some (inT a) := by
  unfold L23_To
  have hll : ((PT (inT a)).length : Int) = a.length := by rw [PT_len, inT_len]
  refine (loop_up (fun x => x.1) a.length (fun x => ∃ j acc, 0 ≤ j ∧ (acc.length : Int) ≤ j ∧ x = (j, acc)) (fun x => some (x.2 ++ inT (a.drop x.1.toNat))) ⟨0, [], by omega, by simp, rfl⟩ (by simp; omega) ?_).trans (by simp)
  rintro k _ ⟨j, acc, h0, ha, rfl⟩ hk
  simp only at hk ⊢
  unfold L23_To_L1 L23_To_J1
  simp only
  rw [hll]
  by_cases hj : j < (a.length : Int)
  · have hm := h.2 _ (getD_mem (d := D0) h0 hj)
    have hb := (inB_eq _ hm.1 hm.2).2.2
    have e := drop_at (d := D0) h0 hj
    have e2 : (PT (inT a)).getD j.toNat D0 = PB (inB (a.getD j.toNat D0)) := by
      rw [getD_at (by omega), getD_at (by omega)]; simp [PT, inT]
    unfold D0 at hb e e2
    rw [bif_pos hj, chk_pos ⟨h0, hj⟩, e2, hb, Option.bind_some, chk_pos (by simp; omega), w64 (by omega) (by omega), hk hj (j + 1, _) ⟨j + 1, _, by omega, by simp; omega, rfl⟩ rfl, e]
    simp [inT]
  · rw [bif_neg hj, drop_end hj]; simp [inT]
def small23 (a : List Bar) : Bool := a.all (fun b => decide (b.2.1.1.length ≤ 40 ∧ b.2.1.2.1.length ≤ 40)) && decide ((a.length : Int) ≤ 10)
theorem Small_tab (a : List Bar) (hl : a.length ≤ 140737488355328) : L23_Small a = some (small23 a) := by
  unfold L23_Small small23
  refine (loop_up (fun j => j) a.length (fun j => 0 ≤ j) (fun j => some ((a.drop j.toNat).all (fun b => decide (b.2.1.1.length ≤ 40 ∧ b.2.1.2.1.length ≤ 40)) && decide ((a.length : Int) ≤ 10))) (by simp) (by simp; omega) ?_).trans (by simp)
  intro k j (h0 : 0 ≤ j) hk
  unfold L23_Small_L1 L23_Small_J1
  by_cases hj : j < (a.length : Int)
  · have e := drop_at (d := D0) h0 hj
    unfold D0 at e
    rw [bif_pos hj, chk_at h0 hj, Small_eq, Option.bind_some, w64 (by omega) (by omega), hk hj (j + 1) (by omega) rfl, e, List.all_cons]
    cases decide ((a.getD j.toNat ((false, 0, ()), ([], [], ()), 0, ())).2.1.1.length ≤ 40 ∧ (a.getD j.toNat ((false, 0, ()), ([], [], ()), 0, ())).2.1.2.1.length ≤ 40) <;> rfl
  · rw [bif_neg hj, drop_end hj]; rfl
theorem small_in {a : List Bar} (h : small23 a = true) : a.length ≤ 10 ∧ WfT23 a := by
  unfold small23 at h
  simp only [Bool.and_eq_true, decide_eq_true_eq, List.all_eq_true] at h
  refine ⟨by omega, by omega, fun b hb => ?_⟩
  have := h.1 b hb
  omega
def rdy : Int → List Bar → List Int
  | _, [] => []
  | j, b :: l => cond (bready b) [j] [] ++ rdy (j + 1) l
theorem rdy_len : ∀ {l : List Bar} {j : Int}, (rdy j l).length ≤ l.length
  | [], j => by simp [rdy]
  | y :: l, j => by
    have := rdy_len (l := l) (j := j + 1)
    rw [rdy, List.length_append, List.length_cons]
    cases bready y <;> simp <;> omega
theorem Ready_tab {t : List Bar} (h : WT t) (hl : t.length ≤ 100) : bartab_Ready t = some (rdy 0 t) := by
  unfold bartab_Ready
  refine (loop_up (fun x => x.1) t.length (fun x => ∃ j acc, 0 ≤ j ∧ (acc.length : Int) ≤ j ∧ x = (j, acc)) (fun x => some (x.2 ++ rdy x.1 (t.drop x.1.toNat))) ⟨0, [], by omega, by simp, rfl⟩ (by simp; omega) ?_).trans (by simp)
  rintro k _ ⟨j, acc, h0, ha, rfl⟩ hk
  simp only at hk ⊢
  unfold bartab_Ready_L1 bartab_Ready_J1
  simp only
  by_cases hj : j < (t.length : Int)
  · have hb := bReady_eq (h.at h0 hj)
    have e := drop_at (d := B0) h0 hj
    rw [bif_pos hj, chk_at h0 hj, w64 (by omega) (by omega)]
    unfold B0 at hb e
    rw [hb, Option.bind_some, chk_pos (by simp; omega), hk hj (j + 1, acc) ⟨j + 1, _, by omega, by omega, rfl⟩ rfl, hk hj (j + 1, acc ++ [j]) ⟨j + 1, _, by omega, by simp; omega, rfl⟩ rfl, e, rdy]
    cases bready (t.getD j.toNat ((false, 0, ()), ((List.replicate 4 0), (List.replicate 4 0), ()), 0, ())) <;> simp
  · rw [bif_neg hj, drop_end hj]; simp [rdy]
end BS
end Go.Proofs.YtbkccpddkpclaaaGreatDoorV
namespace Go.Proofs.YtbkccpddkpclaaaGreatDoorV
set_option linter.unusedVariables false
set_option linter.unusedSimpArgs false
open Go.RowKit
namespace Rd
abbrev Ch := channel.Ch
abbrev Bar := BS.Bar
abbrev Gd := Int × Int × Int × Int × Int × Unit
abbrev Ev := Int × Int × Int × Int × Unit
abbrev Wait := Int × (List Gd) × Unit
abbrev Tm := Int × Int × Int × Unit
abbrev View := Int × (List Ch) × (List Bar) × (List Wait) × (List Tm) × (List Int) × Unit
def C0 : Ch := ((0, 0, 0, 0, ()), 0, [], (false, [], ()), [], (false, [], ()), ())
def g0 : Gd := (0, 0, 0, 0, 0, ())
def none2 : Ev × Bool × Unit := ((0, 0, 0, 0, ()), false, ())
theorem alive29 : L29_alive = some true := by decide +kernel
def smallB (c : Ch) : Bool := !decide ((c.2.2.1.length : Int) > 20) && (!decide ((c.2.2.2.1.2.1.length : Int) > 20) && (!decide ((c.2.2.2.2.1.length : Int) > 20) && !decide ((c.2.2.2.2.2.1.2.1.length : Int) > 20)))
theorem smallB_of {c : Ch} (h : smallB c = true) : channel.Small c := by
  unfold smallB at h
  simp at h
  exact ⟨by omega, by omega, by omega, by omega⟩
theorem small19 (t : List Ch) (hl : t.length ≤ 140737488355328) : L19_Small t = some (!decide ((t.length : Int) > 10) && t.all smallB) := by
  unfold L19_Small
  by_cases h : (t.length : Int) > 10
  · rw [bif_pos h, decide_eq_true h]; rfl
  · rw [bif_neg h, decide_eq_false h]
    refine (loop_up (fun j => j) t.length (fun j => 0 ≤ j) (fun j => some ((t.drop j.toNat).all smallB)) (by simp) (by simp; omega) ?_).trans (by simp)
    intro k j (h0 : 0 ≤ j) hk
    unfold L19_Small_L1
    by_cases hj : j < (t.length : Int)
    · have hk := hk hj (j + 1) (by omega) rfl
      rw [bif_pos hj, chk_at h0 hj, drop_at (d := ((0, 0, 0, 0, ()), 0, [], (false, [], ()), [], (false, [], ()), ())) h0 hj, w64 (by omega) (by omega), hk, List.all_cons]
      unfold smallB
      generalize decide (((t.getD j.toNat ((0, 0, 0, 0, ()), 0, [], (false, [], ()), [], (false, [], ()), ())).2.2.1.length : Int) > 20) = b1
      generalize decide (((t.getD j.toNat ((0, 0, 0, 0, ()), 0, [], (false, [], ()), [], (false, [], ()), ())).2.2.2.1.2.1.length : Int) > 20) = b2
      generalize decide (((t.getD j.toNat ((0, 0, 0, 0, ()), 0, [], (false, [], ()), [], (false, [], ()), ())).2.2.2.2.1.length : Int) > 20) = b3
      generalize decide (((t.getD j.toNat ((0, 0, 0, 0, ()), 0, [], (false, [], ()), [], (false, [], ()), ())).2.2.2.2.2.1.2.1.length : Int) > 20) = b4
      cases b1 <;> cases b2 <;> cases b3 <;> cases b4 <;> rfl
    · rw [bif_neg hj, drop_end hj]; rfl
theorem tab_of {t : List Ch} (h : (!decide ((t.length : Int) > 10) && t.all smallB) = true) : chantab.Tab t := by
  rw [Bool.and_eq_true] at h
  obtain ⟨h1, h2⟩ := h
  simp at h1
  exact ⟨by omega, fun c hc => smallB_of (List.all_eq_true.1 h2 c hc)⟩
theorem to19 (t : List Ch) (hl : t.length ≤ 1000000) : L19_To t = some t := by
  unfold L19_To
  refine (loop_up (fun x => x.1) t.length (fun x : Int × List Ch => 0 ≤ x.1 ∧ (x.2.length : Int) ≤ x.1) (fun x => some (x.2 ++ t.drop x.1.toNat)) ⟨by simp, by simp⟩ (by simp; omega) ?_).trans (by simp)
  rintro k ⟨i, acc⟩ ⟨i0, i1⟩ hk
  simp only at i0 i1
  unfold L19_To_L1
  simp only
  by_cases hi : i < (t.length : Int)
  · have hk := hk hi
    rw [bif_pos hi, chk_at i0 hi]
    simp only [L18_To, Option.bind_some]
    rw [chk_pos (by simp; omega), w64 (by omega) (by omega), drop_at (d := ((0, 0, 0, 0, ()), 0, [], (false, [], ()), [], (false, [], ()), ())) i0 hi, hk (i + 1, acc ++ [t.getD i.toNat ((0, 0, 0, 0, ()), 0, [], (false, [], ()), [], (false, [], ()), ())]) ⟨by simp only; omega, by simp; omega⟩ rfl]
    simp
  · rw [bif_neg hi, drop_end hi]
    simp [L19_To_J1]
def tmB (t : Tm) : Bool := !decide (t.2.2.1 < 0)
def gdB (g : Gd) : Bool := !decide (g.2.2.2.2.1 < 0) && !decide (g.2.2.2.2.1 > 5)
def wtB (w : Wait) : Bool := !decide ((w.2.1.length : Int) > 8) && (!decide (w.1 < 0) && (!decide (w.1 > 15) && w.2.1.all gdB))
structure Len (v : View) : Prop where
  c : v.2.1.length ≤ 140737488355328
  b : v.2.2.1.length ≤ 140737488355328
  w : v.2.2.2.1.length ≤ 140737488355328
  g : ∀ w ∈ v.2.2.2.1, w.2.1.length ≤ 140737488355328
  t : v.2.2.2.2.1.length ≤ 140737488355328
  l : v.2.2.2.2.2.1.length ≤ 140737488355328
def small (v : View) : Bool :=
  cond (!(!decide ((v.2.1.length : Int) > 10) && v.2.1.all smallB)) false (cond (!BS.small23 v.2.2.1) false (cond (decide ((v.2.2.2.1.length : Int) > 16)) false (cond (decide ((v.2.2.2.2.1.length : Int) > 40)) false (cond (decide ((v.2.2.2.2.2.1.length : Int) > 40)) false (v.2.2.2.1.all wtB && v.2.2.2.2.1.all tmB)))))
theorem J2_eq (v : View) (hv : Len v) : L29_Small_J2 v = some (v.2.2.2.2.1.all tmB) := by
  have := hv.t
  unfold L29_Small_J2
  refine (loop_up (fun j => j) (v.2.2.2.2.1.length : Int) (fun j => 0 ≤ j) (fun j => some ((v.2.2.2.2.1.drop j.toNat).all tmB)) (Int.le_refl 0) (by omega) ?_).trans (by simp)
  intro k j h0 hk
  unfold L29_Small_L1
  by_cases hj : j < (v.2.2.2.2.1.length : Int)
  · have hk := hk hj (j + 1) (by omega) rfl
    rw [bif_pos hj, chk_at h0 hj, w64 (by omega) (by omega), hk, drop_at (d := (0, 0, 0, ())) h0 hj, List.all_cons]
    unfold tmB
    cases decide ((v.2.2.2.2.1.getD j.toNat (0, 0, 0, ())).2.2.1 < 0) <;> rfl
  · rw [bif_neg hj, drop_end hj]; rfl
theorem L2_eq (l : List Gd) (hl : l.length ≤ 140737488355328) (k2 : Int × Int → Option Bool) (x2 : Int × Int) : loop (L29_Small_L2 (l.length : Int) l k2 x2) 0 = cond (l.all gdB) (k2 (x2.1, IntKind.i64.wrap (x2.2 + 1))) (some false) := by
  refine (loop_up (fun j => j) (l.length : Int) (fun j => 0 ≤ j) (fun j => cond ((l.drop j.toNat).all gdB) (k2 (x2.1, IntKind.i64.wrap (x2.2 + 1))) (some false)) (Int.le_refl 0) (by omega) ?_).trans (by simp)
  intro k j h0 hk
  unfold L29_Small_L2
  by_cases hj : j < (l.length : Int)
  · have hk := hk hj (j + 1) (by omega) rfl
    rw [bif_pos hj, chk_at h0 hj, w64 (by omega) (by omega), hk, drop_at (d := (0, 0, 0, 0, 0, ())) h0 hj, List.all_cons]
    unfold gdB
    cases decide ((l.getD j.toNat (0, 0, 0, 0, 0, ())).2.2.2.2.1 < 0) <;> cases decide ((l.getD j.toNat (0, 0, 0, 0, 0, ())).2.2.2.2.1 > 5) <;> rfl
  · rw [bif_neg hj, drop_end hj]; rfl
theorem L3_eq (v : View) (hv : Len v) : loop (L29_Small_L3 v) ((v.2.2.2.1.length : Int), 0) = some (v.2.2.2.1.all wtB && v.2.2.2.2.1.all tmB) := by
  have := hv.w
  refine (loop_up (fun (y : Int × Int) => y.2) (v.2.2.2.1.length : Int) (fun y => 0 ≤ y.2 ∧ y.1 = (v.2.2.2.1.length : Int)) (fun y => some ((v.2.2.2.1.drop y.2.toNat).all wtB && v.2.2.2.2.1.all tmB)) ⟨Int.le_refl 0, rfl⟩ (by show (v.2.2.2.1.length : Int) - 0 < _; omega) ?_).trans (by simp)
  rintro k ⟨_, j⟩ ⟨h0, rfl⟩ hk
  dsimp only at h0 hk ⊢
  unfold L29_Small_L3
  dsimp only
  by_cases hj : j < (v.2.2.2.1.length : Int)
  · have hk := hk hj ((v.2.2.2.1.length : Int), j + 1) ⟨by dsimp only; omega, rfl⟩ rfl
    have hg := hv.g _ (getD_mem (d := (0, [], ())) h0 hj)
    rw [bif_pos hj, chk_at h0 hj, L2_eq _ hg, drop_at (d := (0, [], ())) h0 hj, List.all_cons]
    dsimp only
    rw [w64 (by omega) (by omega), hk]
    unfold wtB
    generalize decide ((((v.2.2.2.1.getD j.toNat (0, [], ())).2.1.length : Nat) : Int) > 8) = b1
    generalize decide ((v.2.2.2.1.getD j.toNat (0, [], ())).1 < 0) = b2
    generalize decide ((v.2.2.2.1.getD j.toNat (0, [], ())).1 > 15) = b3
    generalize (v.2.2.2.1.getD j.toNat (0, [], ())).2.1.all gdB = b4
    cases b1 <;> cases b2 <;> cases b3 <;> cases b4 <;> rfl
  · rw [bif_neg hj, drop_end hj, J2_eq v hv]; rfl
theorem small_eq (v : View) (hv : Len v) : L29_Small v = some (small v) := by
  unfold L29_Small small
  rw [small19 _ hv.c, BS.Small_tab _ hv.b, L3_eq v hv]
  simp only [Option.bind_some]
  cases (!decide ((v.2.1.length : Int) > 10) && v.2.1.all smallB)
  · rfl
  cases BS.small23 v.2.2.1
  · rfl
  cases decide ((v.2.2.2.1.length : Int) > 16)
  · cases decide ((v.2.2.2.2.1.length : Int) > 40)
    · cases decide ((v.2.2.2.2.2.1.length : Int) > 40) <;> rfl
    · rfl
  · rfl
theorem small_ok {v : View} (h : small v = true) : chantab.Tab v.2.1 ∧ BS.small23 v.2.2.1 = true ∧ v.2.2.2.1.length ≤ 16 ∧ v.2.2.2.2.1.length ≤ 40 ∧ v.2.2.2.2.2.1.length ≤ 40 ∧ v.2.2.2.1.all wtB = true := by
  unfold small at h
  cases h1 : (!decide ((v.2.1.length : Int) > 10) && v.2.1.all smallB)
  · rw [h1] at h; cases h
  cases h2 : BS.small23 v.2.2.1
  · rw [h1, h2] at h; cases h
  rw [h1, h2] at h
  by_cases h3 : (v.2.2.2.1.length : Int) > 16
  · rw [decide_eq_true h3] at h; cases h
  by_cases h4 : (v.2.2.2.2.1.length : Int) > 40
  · rw [decide_eq_false h3, decide_eq_true h4] at h; cases h
  by_cases h5 : (v.2.2.2.2.2.1.length : Int) > 40
  · rw [decide_eq_false h3, decide_eq_false h4, decide_eq_true h5] at h; cases h
  rw [decide_eq_false h3, decide_eq_false h4, decide_eq_false h5] at h
  have h : (v.2.2.2.1.all wtB && v.2.2.2.2.1.all tmB) = true := h
  rw [Bool.and_eq_true] at h
  exact ⟨tab_of h1, rfl, by omega, by omega, by omega, h.1⟩
def A_of (v : View) : View := (v.1, v.2.1, BS.inT v.2.2.1, v.2.2.2.1, v.2.2.2.2.1, v.2.2.2.2.2.1, ())
structure Good (v : View) : Prop where
  tab : chantab.Tab v.2.1
  bars : v.2.2.1.length ≤ 10
  wf : BS.WfT23 v.2.2.1
  w : v.2.2.2.1.length ≤ 16
  g : ∀ w ∈ v.2.2.2.1, w.2.1.length ≤ 8
  t : v.2.2.2.2.1.length ≤ 40
  l : v.2.2.2.2.2.1.length ≤ 40
theorem good_of {v : View} (h : small v = true) : Good v := by
  obtain ⟨h1, h2, h5, h6, h7, h8⟩ := small_ok h
  obtain ⟨h3, h4⟩ := BS.small_in h2
  refine ⟨h1, h3, h4, h5, fun w hw => ?_, h6, h7⟩
  have := List.all_eq_true.1 h8 w hw
  unfold wtB at this
  rw [Bool.and_eq_true] at this
  have := this.1
  simp at this
  omega
theorem To_eq {v : View} (h : Good v) : L29_To v = some (A_of v) := by
  have hw := h.w
  have ht := h.t
  have hb := h.bars
  have hc := h.tab.len
  unfold L29_To
  rw [to19 _ (by omega), BS.Plain_tab h.wf (by omega)]
  refine bind_t (bind_t ?_)
  rw [BS.To_tab h.wf (by omega)]
  refine bind_t ?_
  have J2 : ∀ p1 : List Wait, L29_To_J2 v v.2.1 (BS.inT v.2.2.1) p1 = some (v.1, v.2.1, BS.inT v.2.2.1, p1, v.2.2.2.2.1, v.2.2.2.2.2.1, ()) := by
    intro p1
    unfold L29_To_J2
    refine (loop_up (fun (y : Int × List Tm) => y.1) (v.2.2.2.2.1.length : Int) (fun y => 0 ≤ y.1 ∧ y.2 = v.2.2.2.2.1.take y.1.toNat) (fun _ => some (v.1, v.2.1, BS.inT v.2.2.1, p1, v.2.2.2.2.1, v.2.2.2.2.2.1, ())) ⟨Int.le_refl 0, by simp⟩ (by show (v.2.2.2.2.1.length : Int) - 0 < _; omega) ?_)
    rintro k ⟨j, acc⟩ ⟨h0, h1⟩ hk
    dsimp only at h0 h1 hk ⊢
    subst h1
    unfold L29_To_L1
    dsimp only
    by_cases hj : j < (v.2.2.2.2.1.length : Int)
    · have hn : (v.2.2.2.2.1.take j.toNat).length ≤ 40 := by rw [List.length_take]; omega
      rw [bif_pos hj, chk_at h0 hj, letv_eq, chk_pos (by simp only [List.length_cons, List.length_nil]; omega), w64 (by omega) (by omega), ← take_at h0 hj]
      exact hk hj _ ⟨by dsimp only; omega, rfl⟩ rfl
    · rw [bif_neg hj, take_end hj]; rfl
  refine (loop_up (fun (y : Int × List Wait) => y.1) (v.2.2.2.1.length : Int) (fun y => 0 ≤ y.1 ∧ y.2 = v.2.2.2.1.take y.1.toNat) (fun _ => some (A_of v)) ⟨Int.le_refl 0, by simp⟩ (by show (v.2.2.2.1.length : Int) - 0 < _; omega) ?_)
  rintro k ⟨j, acc⟩ ⟨h0, h1⟩ hk
  dsimp only at h0 h1 hk ⊢
  subst h1
  unfold L29_To_L2
  dsimp only
  by_cases hj : j < (v.2.2.2.1.length : Int)
  · have hn : (v.2.2.2.1.take j.toNat).length ≤ 16 := by rw [List.length_take]; omega
    rw [bif_pos hj, chk_at h0 hj, letv_eq, chk_pos (by simp only [List.length_cons, List.length_nil]; omega), w64 (by omega) (by omega), ← take_at h0 hj]
    exact hk hj _ ⟨by dsimp only; omega, rfl⟩ rfl
  · rw [bif_neg hj, take_end hj, J2]; rfl
def gds (who : Int) : List Wait → List Gd
  | [] => []
  | w :: l => if w.1 = who then w.2.1 else gds who l
theorem gds_len {who : Int} : ∀ {l : List Wait}, (∀ w ∈ l, w.2.1.length ≤ 8) → (gds who l).length ≤ 8
  | [], _ => by simp [gds]
  | w :: l, h => by
    rw [gds]
    split
    · exact h w List.mem_cons_self
    · exact gds_len fun x hx => h x (List.mem_cons_of_mem _ hx)
theorem guards_A (v : View) (who : Int) (hl : v.2.2.2.1.length ≤ 16) : ready_View_guards v who = some (gds who v.2.2.2.1) := by
  unfold ready_View_guards
  refine (loop_up (fun y => y) (v.2.2.2.1.length : Int) (fun y => 0 ≤ y) (fun y => some (gds who (v.2.2.2.1.drop y.toNat))) (Int.le_refl 0) (by omega) ?_).trans (by simp)
  intro k j h0 hk
  unfold ready_View_guards_L1
  by_cases hj : j < (v.2.2.2.1.length : Int)
  · have hk := hk hj (j + 1) (by omega) rfl
    rw [bif_pos hj, chk_at h0 hj, w64 (by omega) (by omega), hk, letv_eq, drop_at (d := (0, [], ())) h0 hj, gds]
    by_cases he : (v.2.2.2.1.getD j.toNat (0, [], ())).1 = who
    · rw [bif_pos he, if_pos he]
    · rw [bif_neg he, if_neg he]
  · rw [bif_neg hj, drop_end hj]; rfl
def fmv (o : Int) : List Int → Int
  | [] => 0
  | m :: l => if m ≠ o then m else fmv o l
theorem fmv_skip {o m : Int} (l : List Int) (h : m = o) : fmv o (m :: l) = fmv o l := by rw [fmv, if_neg (fun h2 => h2 h)]
theorem fmv_take {o m : Int} (l : List Int) (h : m ≠ o) : fmv o (m :: l) = m := by rw [fmv, if_pos h]
theorem fmv_mem {o : Int} : ∀ {l : List Int}, fmv o l = 0 ∨ (fmv o l ∈ l ∧ fmv o l ≠ o)
  | [] => .inl rfl
  | m :: l => by
    rw [fmv]
    by_cases h : m ≠ o
    · rw [if_pos h]; exact .inr ⟨List.mem_cons_self, h⟩
    · rw [if_neg h]
      rcases fmv_mem (o := o) (l := l) with h2 | h2
      · exact .inl h2
      · exact .inr ⟨List.mem_cons_of_mem _ h2.1, h2.2⟩
theorem endl_eq (l : List Int) (hl : l.length ≤ 100) (hm : ∀ m ∈ l, 1 ≤ m ∧ m ≤ 3) (o : Int) (g : Gd) : loop (ready_View_end_L1 (l.length : Int) l o g) 0 = some (if fmv o l = 0 then none2 else ((1 + fmv o l, g.2.1, 0, 0, ()), true, ())) := by
  refine (loop_up (fun y => y) (l.length : Int) (fun y => 0 ≤ y) (fun y => some (if fmv o (l.drop y.toNat) = 0 then none2 else ((1 + fmv o (l.drop y.toNat), g.2.1, 0, 0, ()), true, ()))) (Int.le_refl 0) (by omega) ?_).trans (by simp)
  intro k j h0 hk
  unfold ready_View_end_L1
  by_cases hj : j < (l.length : Int)
  · have hk := hk hj (j + 1) (by omega) rfl
    have hr := hm _ (getD_mem (d := 0) h0 hj)
    rw [bif_pos hj, chk_at h0 hj, w64 (x := j + 1) (by omega) (by omega), hk, drop_at (d := 0) h0 hj]
    by_cases he : l.getD j.toNat 0 = o
    · rw [bnot_pos he, fmv_skip _ he]
    · rw [bnot_neg he, fmv_take _ he, if_neg (by omega)]
      unfold ready_moves
      rw [letv_eq, w64 (x := 2 + _) (by omega) (by omega), w64 (by omega) (by omega), show 2 + l.getD j.toNat 0 - 1 = 1 + l.getD j.toNat 0 by omega]
      rfl
  · rw [bif_neg hj, drop_end hj]; rfl
theorem what_rng {c : Ch} {m : Int} (h : m ∈ channel.what c) : (1 ≤ m ∧ m ≤ 3) ∧ channel.fine c = true ∧ (m ≠ 2 → 0 < c.2.2.2.2.2.1.2.1.length) ∧ (m ≠ 3 → 0 < c.2.2.2.1.2.1.length) := by
  have hf : channel.fine c = true := by
    cases hf : channel.fine c with
    | true => rfl
    | false => unfold channel.what at h; rw [if_pos hf] at h; cases h
  have hb := (channel.mem_what hf m).1 h
  rcases channel.may_m hb with e | e | e
  · subst e; have := channel.may1 hb; exact ⟨by decide, hf, fun _ => this.2, fun _ => this.1⟩
  · subst e; exact ⟨by decide, hf, fun h => absurd rfl h, fun _ => channel.may2 hb⟩
  · subst e; exact ⟨by decide, hf, fun _ => (channel.may3 hb).2, fun h => absurd rfl h⟩
def ev (k : Int) (who : Int) (g : Gd) : Ev × Bool × Unit := ((k, 0, who, g.2.2.2.2.1, ()), true, ())
theorem at_c {v : View} (h : Good v) {i : Int} (h0 : 0 ≤ i) (h1 : i < (v.2.1.length : Int)) : channel.Small (v.2.1.getD i.toNat C0) := h.tab.at_ h0 h1
def endS (v : View) (who : Int) (g : Gd) : Ev × Bool × Unit :=
  if 0 ≤ g.2.1 ∧ g.2.1 < (v.2.1.length : Int) then
    (let c := v.2.1.getD g.2.1.toNat C0
     if g.1 = 2 then (if channel.hit c.2.1 c.1.2.2.2.1 = true then ev 5 who g else if c.2.2.2.1.2.1.getD 0 0 = who ∧ fmv 3 (channel.what c) ≠ 0 then ((1 + fmv 3 (channel.what c), g.2.1, 0, 0, ()), true, ()) else none2)
     else (if channel.hit c.2.1 c.1.2.2.1 = true then ev 5 who g else if c.2.2.2.2.2.1.2.1.getD 0 0 = who ∧ fmv 2 (channel.what c) ≠ 0 then ((1 + fmv 2 (channel.what c), g.2.1, 0, 0, ()), true, ()) else none2))
  else none2
theorem line_eq {c : Ch} (hs : channel.Small c) (l : claims.Line) (hl : l.2.1.length ≤ 1000) (o who : Int) (g : Gd) (h1 : ∀ m, m ∈ channel.what c → m ≠ o → claims.fine l = true ∧ 0 < l.2.1.length) (B : Bool) :
    (Option.bind (claims_Head l) fun r3 =>
    bif !r3.2.1 then
      some ((0, 0, 0, 0, ()), false, ())
    else
      bif !decide (r3.1 = who) then
        some ((0, 0, 0, 0, ()), false, ())
      else
        Option.bind (channel_What c) fun r4 =>
        loop (ready_View_end_L1 (r4.length : Int) r4 o g) 0) = some (if l.2.1.getD 0 0 = who ∧ fmv o (channel.what c) ≠ 0 then ((1 + fmv o (channel.what c), g.2.1, 0, 0, ()), true, ()) else none2) := by
  rw [claims.head_eq _ (by omega)]
  have hw := channel.what_eq c hs
  have hwl : (channel.what c).length ≤ 3 := chantab.what_len c
  have hmm : ∀ m ∈ channel.what c, 1 ≤ m ∧ m ≤ 3 := fun m hm => (what_rng hm).1
  refine bind_t ?_
  by_cases hf : fmv o (channel.what c) = 0
  · rw [if_neg (fun h => h.2 hf)]
    cases (claims.head l).2.1 with
    | false => rfl
    | true =>
      refine (cond_tt _ _).trans ?_
      by_cases he : (claims.head l).1 = who
      · rw [bnot_pos he, hw]
        refine bind_t ?_
        rw [endl_eq _ (by omega) hmm, if_pos hf]
      · rw [bnot_neg he]; rfl
  · have hm := (fmv_mem (o := o) (l := channel.what c)).resolve_left hf
    obtain ⟨hfi, hpos⟩ := h1 _ hm.1 hm.2
    rw [channel.head_is hfi, decide_eq_true (by omega)]
    refine (cond_tt _ _).trans ?_
    rw [(channel.first_goes hfi hpos).1]
    by_cases he : l.2.1.getD 0 0 = who
    · rw [bnot_pos he, hw, if_pos ⟨he, hf⟩]
      refine bind_t ?_
      rw [endl_eq _ (by omega) hmm, if_neg hf]
    · rw [bnot_neg he, if_neg (fun h => he h.1)]; rfl
theorem ok_what {c : Ch} {m : Int} (h : m ∈ channel.what c) : claims.fine c.2.2.2.1 = true ∧ claims.fine c.2.2.2.2.2.1 = true := by
  have := channel.Ok.of (what_rng h).2.1
  exact ⟨this.out, this.inn⟩
theorem end_A {v : View} (h : Good v) (who : Int) (g : Gd) : ready_View_end (A_of v) who g = some (endS v who g) := by
  unfold ready_View_end endS
  by_cases h0 : g.2.1 < 0
  · rw [bif_pos h0, if_neg (by omega)]; rfl
  by_cases h1 : g.2.1 ≥ (v.2.1.length : Int)
  · rw [bif_neg h0, if_neg (by omega)]; exact bif_pos h1
  have hr : 0 ≤ g.2.1 ∧ g.2.1 < (v.2.1.length : Int) := by omega
  have hs := at_c h hr.1 hr.2
  rw [bif_neg h0, if_pos hr]
  refine (bif_neg h1).trans ((chk_pos (show 0 ≤ g.2.1 ∧ g.2.1 < ((A_of v).2.1.length : Int) from hr)).trans ?_)
  rw [letv_eq, letv_eq]
  show cond _ (ready_View_end_J2 _ g who (v.2.1.getD g.2.1.toNat C0).1.2.2.1 (v.2.1.getD g.2.1.toNat C0).1.2.2.2.1 3 (v.2.1.getD g.2.1.toNat C0).1.2.2.2.1 (v.2.1.getD g.2.1.toNat C0).2.2.2.1.1 (v.2.1.getD g.2.1.toNat C0).2.2.2.1.2.1) (ready_View_end_J2 _ g who (v.2.1.getD g.2.1.toNat C0).1.2.2.1 (v.2.1.getD g.2.1.toNat C0).1.2.2.1 2 (v.2.1.getD g.2.1.toNat C0).1.2.2.2.1 (v.2.1.getD g.2.1.toNat C0).2.2.2.2.2.1.1 (v.2.1.getD g.2.1.toNat C0).2.2.2.2.2.1.2.1) = _
  unfold ready_View_end_J2
  have ec : (A_of v).2.1.getD g.2.1.toNat ((0, 0, 0, 0, ()), 0, [], (false, [], ()), [], (false, [], ()), ()) = v.2.1.getD g.2.1.toNat C0 := rfl
  rw [ec]
  obtain ⟨c, hc⟩ : ∃ c, v.2.1.getD g.2.1.toNat C0 = c := ⟨_, rfl⟩
  rw [hc] at hs ⊢
  dsimp only
  have e1 := line_eq hs c.2.2.2.1 hs.b 3 who g (fun m hm hne => ⟨(ok_what hm).1, (what_rng hm).2.2.2 hne⟩) true
  have e2 := line_eq hs c.2.2.2.2.2.1 hs.e 2 who g (fun m hm hne => ⟨(ok_what hm).2, (what_rng hm).2.2.1 hne⟩) true
  rw [channel.hit_eq, channel.hit_eq]
  by_cases hg : g.1 = 2
  · rw [bif_pos hg, if_pos hg]
    refine bind_t ?_
    cases channel.hit c.2.1 c.1.2.2.2.1 with
    | true => rfl
    | false =>
      refine (cond_f _ _).trans ?_
      rw [if_neg (by decide)]
      exact e1
  · rw [bif_neg hg, if_neg hg]
    refine bind_t ?_
    cases channel.hit c.2.1 c.1.2.2.1 with
    | true => rfl
    | false =>
      refine (cond_f _ _).trans ?_
      rw [if_neg (by decide)]
      exact e2
theorem rdy_mem {i : Int} : ∀ {l : List Bar} {j : Int}, i ∈ BS.rdy j l ↔ j ≤ i ∧ i < j + l.length ∧ BS.bready (l.getD (i - j).toNat BS.B0) = true
  | [], j => by simp [BS.rdy]; omega
  | b :: l, j => by
    have ih := rdy_mem (i := i) (l := l) (j := j + 1)
    rw [BS.rdy, List.mem_append, ih, List.length_cons]
    by_cases e : i = j
    · subst e
      have e0 : (b :: l).getD (i - i).toNat BS.B0 = b := by rw [Int.sub_self]; rfl
      rw [e0]
      cases hb : BS.bready b <;> simp <;> omega
    · have e1 : i ∉ (cond (BS.bready b) [j] [] : List Int) := by cases BS.bready b <;> simp [e]
      have : j ≤ i → (b :: l).getD (i - j).toNat BS.B0 = l.getD (i - (j + 1)).toNat BS.B0 := fun hj => by
        rw [show (i - j).toNat = (i - (j + 1)).toNat + 1 by omega]; rfl
      constructor
      · rintro (h | ⟨h1, h2, h3⟩)
        · exact absurd h e1
        · exact ⟨by omega, by omega, by rw [this (by omega)]; exact h3⟩
      · rintro ⟨h1, h2, h3⟩
        exact .inr ⟨by omega, by omega, by rw [← this h1]; exact h3⟩
def atS (v : View) (who b : Int) : Bool :=
  if 0 ≤ b ∧ b < (v.2.2.1.length : Int) then BS.bready ((BS.inT v.2.2.1).getD b.toNat BS.B0) && ((bitset_Has ((BS.inT v.2.2.1).getD b.toNat BS.B0).2.1.2.1 who).getD false) else false
theorem at_A {v : View} (h : Good v) (who b : Int) : ready_View_at (A_of v) who b = some (atS v who b) := by
  have hb := h.bars
  have hw := BS.inT_wt h.wf
  have hl : (BS.inT v.2.2.1).length = v.2.2.1.length := BS.inT_len _
  unfold ready_View_at atS
  rw [show (A_of v).2.2.1 = BS.inT v.2.2.1 from rfl, BS.Ready_tab hw (by omega)]
  refine bind_t ?_
  have hrl : (BS.rdy 0 (BS.inT v.2.2.1)).length ≤ 10 := by have := BS.rdy_len (l := BS.inT v.2.2.1) (j := 0); omega
  rw [lists.contains_eq _ _ (by omega)]
  refine bind_t ?_
  by_cases hr : 0 ≤ b ∧ b < (v.2.2.1.length : Int)
  · rw [if_pos hr]
    have hm : b ∈ BS.rdy 0 (BS.inT v.2.2.1) ↔ BS.bready ((BS.inT v.2.2.1).getD b.toNat BS.B0) = true := by
      rw [rdy_mem, Int.sub_zero, hl]
      exact ⟨fun h => h.2.2, fun h => ⟨hr.1, by omega, h⟩⟩
    cases hb : BS.bready ((BS.inT v.2.2.1).getD b.toNat BS.B0) with
    | false => rw [decide_eq_false (fun h => by rw [hm.1 h] at hb; cases hb)]; rfl
    | true =>
      rw [decide_eq_true (hm.2 hb)]
      refine (cond_t _ _).trans ?_
      have hwb := BS.WT.at hw hr.1 (by omega)
      obtain ⟨r, e1, e2⟩ := BS.has_sim hwb.2 who
      rw [chk_pos (by omega)]
      show Option.bind (bitset_Has ((BS.inT v.2.2.1).getD b.toNat BS.B0).2.1.2.1 who) _ = _
      rw [e1]; rfl
  · rw [if_neg hr, decide_eq_false (fun h => hr (by rw [rdy_mem] at h; omega))]; rfl
theorem due_eq (n t : Int) : clock_Due n t = some (decide (0 ≤ n ∧ n ≤ 1099511627776 ∧ 0 ≤ t ∧ t ≤ n)) ∧ R05_Due n t = some (decide (0 ≤ n ∧ n ≤ 1099511627776 ∧ 0 ≤ t ∧ t ≤ n)) := by
  have f : ∀ x, clock_Fine x = some (decide (0 ≤ x ∧ x ≤ 1099511627776)) := fun x => by
    unfold clock_Fine clock_held_int
    refine bind_t ?_
    rw [Option.some_inj, decide_eq_decide]; omega
  have r : ∀ x, R05_Fine x = some (decide (0 ≤ x ∧ x ≤ 1099511627776)) := fun x => by
    unfold R05_Fine
    by_cases hx : x ≥ 0
    · rw [bif_pos hx, Option.some_inj, decide_eq_decide]; omega
    · rw [bif_neg hx, decide_eq_false (by omega)]
  unfold clock_Due R05_Due
  rw [f, f, r, r]
  simp only [Option.bind_some]
  by_cases h1 : 0 ≤ n ∧ n ≤ 1099511627776
  · rw [bif_pos h1]
    by_cases h2 : 0 ≤ t ∧ t ≤ 1099511627776
    · rw [bif_pos h2, Option.some_inj, decide_eq_decide]; omega
    · rw [bif_neg h2, decide_eq_false (by omega)]; exact ⟨rfl, rfl⟩
  · rw [bif_neg h1, decide_eq_false (by omega)]; exact ⟨rfl, rfl⟩
def dueB (n who : Int) (g : Gd) (t : Tm) : Bool := decide (t.2.2.1 = IntKind.i64.wrap (IntKind.i64.wrap (8 * who) + g.2.2.2.2.1)) && decide (0 ≤ n ∧ n ≤ 1099511627776 ∧ 0 ≤ t.1 ∧ t.1 ≤ n)
def dueS (v : View) (who : Int) (g : Gd) : Bool := v.2.2.2.2.1.any (dueB v.1 who g)
theorem due_A {v : View} (h : Good v) (who : Int) (g : Gd) : ready_View_due (A_of v) who g = some (dueS v who g) := by
  have ht := h.t
  unfold ready_View_due dueS
  rw [cutv_eq]
  unfold ready_View_due_C1
  refine (loop_up (fun y => y) (v.2.2.2.2.1.length : Int) (fun y => 0 ≤ y) (fun y => some ((v.2.2.2.2.1.drop y.toNat).any (dueB v.1 who g))) (Int.le_refl 0) (by omega) ?_).trans (by simp)
  intro k j h0 hk
  unfold ready_View_due_L1
  by_cases hj : j < (v.2.2.2.2.1.length : Int)
  · have hk := hk hj (j + 1) (by omega) rfl
    refine (bif_pos (show j < (v.2.2.2.2.1.length : Int) from hj)).trans ((chk_pos (show 0 ≤ j ∧ j < (v.2.2.2.2.1.length : Int) from ⟨h0, hj⟩)).trans ?_)
    rw [drop_at (d := (0, 0, 0, ())) h0 hj, List.any_cons, w64 (x := j + 1) (by omega) (by omega), hk]
    show cond (decide ((v.2.2.2.2.1.getD j.toNat (0, 0, 0, ())).2.2.1 = _)) (Option.bind (clock_Due v.1 (v.2.2.2.2.1.getD j.toNat (0, 0, 0, ())).1) _) _ = _
    rw [(due_eq _ _).1]
    unfold dueB
    generalize decide ((v.2.2.2.2.1.getD j.toNat (0, 0, 0, ())).2.2.1 = IntKind.i64.wrap (IntKind.i64.wrap (8 * who) + g.2.2.2.2.1)) = b1
    generalize decide (0 ≤ v.1 ∧ v.1 ≤ 1099511627776 ∧ 0 ≤ (v.2.2.2.2.1.getD j.toNat (0, 0, 0, ())).1 ∧ (v.2.2.2.2.1.getD j.toNat (0, 0, 0, ())).1 ≤ v.1) = b2
    cases b1 <;> cases b2 <;> first | rfl | (unfold ready_View_due_R1; rw [decide_eq_true (show j ≥ 0 from h0)]; rfl)
  · refine (bif_neg (show ¬ j < (v.2.2.2.2.1.length : Int) from hj)).trans ?_
    rw [drop_end hj]; rfl
def ofS (v : View) (who : Int) (g : Gd) : Ev × Bool × Unit :=
  if g.1 = 1 ∨ g.1 = 2 then endS v who g
  else if g.1 = 3 then (if atS v who g.2.1 = true then ((1, g.2.1, 0, 0, ()), true, ()) else none2)
  else if g.1 = 4 then (if dueS v who g = true then ev 6 who g else none2)
  else if g.1 = 5 then ev 8 who g
  else if g.1 = 6 then (if g.2.2.1 ∈ v.2.2.2.2.2.1 then none2 else ev 7 who g)
  else none2
theorem of_A {v : View} (h : Good v) (who : Int) (g : Gd) : ready_View_of (A_of v) who g = some (ofS v who g) := by
  have hl := h.l
  unfold ready_View_of
  rw [cutv_eq]
  unfold ready_View_of_C1 ofS
  by_cases h1 : g.1 = 1
  · rw [bif_pos h1, if_pos (.inl h1)]
    unfold ready_View_of_J1
    refine (cond_t _ _).trans ?_
    rw [end_A h]; rfl
  rw [bif_neg h1]
  by_cases h2 : g.1 = 2
  · rw [if_pos (.inr h2), decide_eq_true h2]
    unfold ready_View_of_J1
    refine (cond_t _ _).trans ?_
    rw [end_A h]; rfl
  rw [if_neg (by omega), decide_eq_false h2]
  unfold ready_View_of_J1
  refine (cond_f _ _).trans ?_
  by_cases h3 : g.1 = 3
  · rw [bif_pos h3, if_pos h3, at_A h]
    refine bind_t ?_
    cases atS v who g.2.1 <;> rfl
  rw [bif_neg h3, if_neg h3]
  by_cases h4 : g.1 = 4
  · rw [bif_pos h4, if_pos h4, due_A h]
    refine bind_t ?_
    cases dueS v who g <;> rfl
  rw [bif_neg h4, if_neg h4]
  by_cases h6 : g.1 = 6
  · rw [bif_pos h6, if_neg (by omega), if_pos h6]
    show Option.bind (slices_Contains_int_int v.2.2.2.2.2.1 g.2.2.1) _ = _
    rw [lists.contains_eq _ _ (by omega)]
    refine bind_t ?_
    by_cases hm : g.2.2.1 ∈ v.2.2.2.2.2.1
    · rw [if_pos hm, decide_eq_true hm]; rfl
    · rw [if_neg hm, decide_eq_false hm]; rfl
  rw [bif_neg h6]
  by_cases h5 : g.1 = 5
  · rw [bif_pos h5, if_pos h5]; rfl
  · rw [bif_neg h5, if_neg h5, if_neg h6]; rfl
def whS (v : View) (who no : Int) : List Gd → Ev × Bool × Unit
  | [] => none2
  | g :: l => if g.2.2.2.2.1 = no then ofS v who g else whS v who no l
theorem which_A {v : View} (h : Good v) (who no : Int) : ready_Which (A_of v) who no = some (whS v who no (gds who v.2.2.2.1)) := by
  have hw := h.w
  have hgl := gds_len (who := who) h.g
  unfold ready_Which
  rw [guards_A (A_of v) who hw]
  refine bind_t ?_
  show loop (ready_Which_L1 (((gds who v.2.2.2.1).length : Nat) : Int) (gds who v.2.2.2.1) no (A_of v) who) 0 = _
  generalize gds who v.2.2.2.1 = l at hgl
  refine (loop_up (fun y => y) (l.length : Int) (fun y => 0 ≤ y) (fun y => some (whS v who no (l.drop y.toNat))) (Int.le_refl 0) (by omega) ?_).trans (by simp)
  intro k j h0 hk
  unfold ready_Which_L1
  by_cases hj : j < (l.length : Int)
  · have hk := hk hj (j + 1) (by omega) rfl
    rw [bif_pos hj, chk_at h0 hj, w64 (by omega) (by omega), hk, drop_at (d := (0, 0, 0, 0, 0, ())) h0 hj, whS, of_A h]
    by_cases he : (l.getD j.toNat (0, 0, 0, 0, 0, ())).2.2.2.2.1 = no
    · rw [bif_pos he, if_pos he]; rfl
    · rw [bif_neg he, if_neg he]
  · rw [bif_neg hj, drop_end hj]; rfl
def nosS (v : View) (who : Int) : List Gd → List Int
  | [] => []
  | g :: l => if (ofS v who g).2.1 = true then g.2.2.2.2.1 :: nosS v who l else nosS v who l
theorem nosS_len (v : View) (who : Int) : ∀ l : List Gd, (nosS v who l).length ≤ l.length
  | [] => by simp [nosS]
  | g :: l => by
    have := nosS_len v who l
    rw [nosS]
    split <;> simp <;> omega
theorem nos_A {v : View} (h : Good v) (who : Int) : ready_Guards (A_of v) who = some (nosS v who (gds who v.2.2.2.1)) := by
  have hw := h.w
  have hgl := gds_len (who := who) h.g
  unfold ready_Guards
  rw [guards_A (A_of v) who hw]
  refine bind_t ?_
  show loop (ready_Guards_L1 (((gds who v.2.2.2.1).length : Nat) : Int) (gds who v.2.2.2.1) (A_of v) who) (0, []) = _
  generalize gds who v.2.2.2.1 = l at hgl
  refine (loop_up (fun (y : Int × List Int) => y.1) (l.length : Int) (fun y => 0 ≤ y.1 ∧ (y.2.length : Int) ≤ y.1) (fun y => some (y.2 ++ nosS v who (l.drop y.1.toNat))) ⟨Int.le_refl 0, by simp⟩ (by show (l.length : Int) - 0 < _; omega) ?_).trans (by simp)
  rintro k ⟨j, acc⟩ ⟨h0, h1⟩ hk
  dsimp only at h0 h1 hk ⊢
  unfold ready_Guards_L1
  dsimp only
  by_cases hj : j < (l.length : Int)
  · rw [bif_pos hj, chk_at h0 hj, w64 (by omega) (by omega), drop_at (d := (0, 0, 0, 0, 0, ())) h0 hj, nosS, of_A h]
    refine bind_t ?_
    by_cases he : (ofS v who (l.getD j.toNat (0, 0, 0, 0, 0, ()))).2.1 = true
    · rw [if_pos he, he]
      refine (cond_t _ _).trans ?_
      rw [letv_eq, chk_pos (by simp only [List.length_cons, List.length_nil]; omega), hk hj (j + 1, _) ⟨by dsimp only; omega, by simp; omega⟩ rfl]
      simp
    · rw [if_neg he, Bool.eq_false_iff.2 he]
      refine (cond_f _ _).trans ?_
      exact hk hj (j + 1, acc) ⟨by dsimp only; omega, by dsimp only; omega⟩ rfl
  · rw [bif_neg hj, drop_end hj]; simp [ready_Guards_J1, nosS]
end Rd
end Go.Proofs.YtbkccpddkpclaaaGreatDoorV
