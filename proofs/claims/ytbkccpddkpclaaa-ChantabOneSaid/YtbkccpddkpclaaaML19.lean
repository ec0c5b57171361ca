/- The math of one claim. -/
import Derived.Test.YtbkccpddkpclaaaVcG1
import Derived.OpenShut
import Derived.Test.YtbkccpddkpclaaaDslices
import Derived.Test.YtbkccpddkpclaaaDR02
import Derived.Test.YtbkccpddkpclaaaDclaims
import Derived.Test.YtbkccpddkpclaaaDR17
import Derived.Test.YtbkccpddkpclaaaDchannel
import Derived.Test.YtbkccpddkpclaaaDR18
import Derived.Test.YtbkccpddkpclaaaDchantab
import Derived.Test.YtbkccpddkpclaaaDR19
import Derived.Test.YtbkccpddkpclaaaDL18
import Derived.Test.YtbkccpddkpclaaaDL19
/- Small lemmas on numbers, lists, and what the functions of data are built of. No program stands here. -/
namespace Go.Proofs.YtbkccpddkpclaaaV
open Go.RowKit

theorem w64 {x : Int} (h1 : -9223372036854775808 ≤ x) (h2 : x ≤ 9223372036854775807) : IntKind.i64.wrap x = x := by
  rw [IntKind.wrap_i64]; omega
theorem wfi {n : Int} (h : wfD (.int .i64) n) : -9223372036854775808 ≤ n ∧ n ≤ 9223372036854775807 := wf_i64 h
theorem wfu8 {n : Int} (h : wfD (.int .u8) n) : 0 ≤ n ∧ n ≤ 255 := by
  have h : (Lit.int .u8 n).wf = true := h
  simp [Lit.wf, IntKind.min, IntKind.max, IntKind.signed, IntKind.bits] at h
  omega
theorem wfl {e : Ty} {xs : List e.den} (h : wfD (.sl e) xs) : xs.length ≤ 140737488355328 ∧ ∀ x ∈ xs, wfD e x := h
theorem cond_some {b : Bool} : (cond b (some true) (some false) : Option Bool) = some b := by cases b <;> rfl
theorem cond_bind {α β : Type} (b : Bool) (x y : Option α) (f : α → Option β) : Option.bind (cond b x y) f = cond b (Option.bind x f) (Option.bind y f) := by cases b <;> rfl
theorem bif_pos {R : Type} {p : Prop} [Decidable p] {x y : R} (h : p) : cond (decide p) x y = x := by rw [decide_eq_true h]; rfl
theorem bif_neg {R : Type} {p : Prop} [Decidable p] {x y : R} (h : ¬ p) : cond (decide p) x y = y := by rw [decide_eq_false h]; rfl
theorem bnot_pos {R : Type} {p : Prop} [Decidable p] {x y : R} (h : p) : cond (!decide p) x y = y := by rw [decide_eq_true h]; rfl
theorem bnot_neg {R : Type} {p : Prop} [Decidable p] {x y : R} (h : ¬ p) : cond (!decide p) x y = x := by rw [decide_eq_false h]; rfl

/-- The element at a place that is there. -/
theorem getD_at {α : Type} {xs : List α} {i : Int} {d : α} (h : i.toNat < xs.length) : xs.getD i.toNat d = xs[i.toNat] := by
  rw [List.getD_eq_getElem?_getD, List.getElem?_eq_getElem h]; rfl
theorem getD_mem {α : Type} {xs : List α} {i : Int} {d : α} (h0 : 0 ≤ i) (h : i < (xs.length : Int)) : xs.getD i.toNat d ∈ xs := by
  rw [getD_at (by omega)]; exact List.getElem_mem _
theorem drop_at {α : Type} {xs : List α} {i : Int} {d : α} (h0 : 0 ≤ i) (h : i < (xs.length : Int)) : xs.drop i.toNat = xs.getD i.toNat d :: xs.drop (i + 1).toNat := by
  rw [getD_at (by omega), show (i + 1).toNat = i.toNat + 1 by omega]
  exact List.drop_eq_getElem_cons (by omega)
theorem drop_end {α : Type} {xs : List α} {i : Int} (h : ¬ i < (xs.length : Int)) : xs.drop i.toNat = [] := List.drop_of_length_le (by omega)
theorem take_at {α : Type} {xs : List α} {i : Int} {d : α} (h0 : 0 ≤ i) (h : i < (xs.length : Int)) : xs.take (i + 1).toNat = xs.take i.toNat ++ [xs.getD i.toNat d] := by
  rw [getD_at (by omega), show (i + 1).toNat = i.toNat + 1 by omega]
  exact List.take_succ_eq_append_getElem (by omega)
theorem take_end {α : Type} {xs : List α} {i : Int} (h : ¬ i < (xs.length : Int)) : xs.take i.toNat = xs := List.take_of_length_le (by omega)
theorem chk_at {α R : Type} {xs : List α} {i : Int} {x : Option R} (h0 : 0 ≤ i) (h : i < (xs.length : Int)) : chk (0 ≤ i ∧ i < (xs.length : Int)) x = x := chk_pos ⟨h0, h⟩

theorem u8_at {xs : List Int} {m : Nat} (h : wfD (.arr m (.int .u8)) xs) (i : Nat) : 0 ≤ xs.getD i 0 ∧ xs.getD i 0 ≤ 255 := by
  by_cases hi : i < xs.length
  · have := getD_mem (xs := xs) (i := (i : Int)) (d := 0) (by omega) (by omega)
    exact wfu8 (h.2 _ (by simpa using this))
  · rw [List.getD_eq_getElem?_getD, List.getElem?_eq_none (by omega)]; simp
theorem wfu16 {n : Int} (h : wfD (.int .u16) n) : 0 ≤ n ∧ n ≤ 65535 := by
  have h : (Lit.int .u16 n).wf = true := h
  simp [Lit.wf, IntKind.min, IntKind.max, IntKind.signed, IntKind.bits] at h
  omega
theorem u16_at {xs : List Int} {m : Nat} (h : wfD (.arr m (.int .u16)) xs) (i : Nat) : 0 ≤ xs.getD i 0 ∧ xs.getD i 0 ≤ 65535 := by
  by_cases hi : i < xs.length
  · have := getD_mem (xs := xs) (i := (i : Int)) (d := 0) (by omega) (by omega)
    exact wfu16 (h.2 _ (by simpa using this))
  · rw [List.getD_eq_getElem?_getD, List.getElem?_eq_none (by omega)]; simp
/-- A loop that counts up from i to n: what it answers, by what is known while it runs. -/
theorem loop_up {X R : Type} {F : (X → Option R) → X → Option R} (idx : X → Int) (n : Int) (inv : X → Prop) (spec : X → Option R) {x : X} (hx : inv x) (hn : n - idx x < 1152921504606846976)
    (h : ∀ k x, inv x → (idx x < n → ∀ y, inv y → idx y = idx x + 1 → k y = spec y) → F k x = spec x) : loop F x = spec x := by
  refine loop_by inv (fun x => (n - idx x).toNat) spec hx (by omega) fun k x hi hk => h k x hi fun hl y hy he => hk y hy (by omega)
end Go.Proofs.YtbkccpddkpclaaaV
/- What the small functions on lists of numbers answer. -/
namespace Go.Proofs.YtbkccpddkpclaaaV
set_option linter.unusedVariables false
set_option linter.unusedSimpArgs false
open Go.RowKit
namespace lists
/-- Where the first one stands, counted from i on; -1: nowhere. -/
def ixf : List Int → Int → Int → Int
  | [], _, _ => -1
  | x :: xs, v, i => if x = v then i else ixf xs v (i + 1)
theorem ixf_not : ∀ {xs : List Int} {v : Int} (h : v ∉ xs) (i : Int), ixf xs v i = -1
  | [], _, _, _ => rfl
  | x :: xs, v, h, i => by
    unfold ixf
    rw [if_neg (fun e => h (by rw [e]; exact List.mem_cons_self)), ixf_not (fun h2 => h (List.mem_cons_of_mem _ h2))]
theorem ixf_mem : ∀ {xs : List Int} {v : Int} (h : v ∈ xs) (i : Int), i ≤ ixf xs v i ∧ ixf xs v i < i + xs.length
  | x :: xs, v, h, i => by
    unfold ixf
    by_cases e : x = v
    · rw [if_pos e]; simp; omega
    · rw [if_neg e]
      have := ixf_mem (List.mem_of_ne_of_mem (Ne.symm e) h) (i + 1)
      simp; omega
theorem ixf_app : ∀ (a b : List Int) (v i : Int), ixf (a ++ b) v i = if v ∈ a then ixf a v i else ixf b v (i + a.length)
  | [], b, v, i => by simp
  | x :: a, b, v, i => by
    simp only [List.cons_append, ixf]
    by_cases e : x = v
    · rw [if_pos e, if_pos (by rw [e]; exact List.mem_cons_self), if_pos e]
    · rw [if_neg e, if_neg e, ixf_app a b v (i + 1)]
      have : v ∈ x :: a ↔ v ∈ a := by simp [Ne.symm e]
      simp only [this, List.length_cons]
      split
      · rfl
      · congr 1; omega
theorem ixf_ge {xs : List Int} {v : Int} : 0 ≤ ixf xs v 0 ↔ v ∈ xs := by
  constructor
  · intro h
    by_cases hv : v ∈ xs
    · exact hv
    · rw [ixf_not hv] at h; omega
  · intro h; exact (ixf_mem h 0).1
/-- The list around it. -/
theorem ixf_split : ∀ {xs : List Int} {v : Int} (h : v ∈ xs) (i : Int), ∃ a b, xs = a ++ v :: b ∧ v ∉ a ∧ ixf xs v i = i + a.length
  | x :: xs, v, h, i => by
    unfold ixf
    by_cases e : x = v
    · exact ⟨[], xs, by rw [e]; rfl, by simp, by rw [if_pos e]; simp⟩
    · obtain ⟨a, b, h1, h2, h3⟩ := ixf_split (List.mem_of_ne_of_mem (Ne.symm e) h) (i + 1)
      refine ⟨x :: a, b, by rw [h1]; rfl, by simp [Ne.symm e, h2], ?_⟩
      rw [if_neg e, h3]; simp; omega
theorem index_eq (xs : List Int) (v : Int) (hl : xs.length ≤ 140737488355328) : slices_Index_int_int xs v = some (ixf xs v 0) := by
  unfold slices_Index_int_int
  refine (loop_up (fun j => j) xs.length (fun j => 0 ≤ j) (fun j => some (ixf (xs.drop j.toNat) v j)) (by simp) (by simp; omega) ?_).trans (by simp)
  intro k j (h0 : 0 ≤ j) hk
  unfold slices_Index_int_int_L1
  by_cases hj : j < (xs.length : Int)
  · have hk := hk hj (j + 1) (by omega) rfl
    rw [bif_pos hj, chk_at h0 hj, drop_at (d := 0) h0 hj, w64 (by omega) (by omega), hk, ixf]
    by_cases e : v = xs.getD j.toNat 0
    · rw [bif_pos e, if_pos e.symm]
    · rw [bif_neg e, if_neg (Ne.symm e)]
  · rw [bif_neg hj, drop_end hj]; rfl
theorem contains_eq (xs : List Int) (v : Int) (hl : xs.length ≤ 140737488355328) : slices_Contains_int_int xs v = some (decide (v ∈ xs)) := by
  unfold slices_Contains_int_int
  rw [index_eq _ _ hl]
  simp only [Option.bind_some]
  rw [show decide (ixf xs v 0 ≥ 0) = decide (v ∈ xs) from decide_eq_decide.2 ixf_ge]
theorem same_eq (xs ys : List Int) (hl : xs.length ≤ 140737488355328) : R02_Same xs ys = some (decide (xs = ys)) := by
  unfold R02_Same
  by_cases hn : (xs.length : Int) = (ys.length : Int)
  · rw [bnot_pos hn]
    refine (loop_up (fun j => j) xs.length (fun j => 0 ≤ j) (fun j => some (decide (xs.drop j.toNat = ys.drop j.toNat))) (by simp) (by simp; omega) ?_).trans (by simp)
    intro k j (h0 : 0 ≤ j) hk
    unfold R02_Same_L1
    by_cases hj : j < (xs.length : Int)
    · have hk := hk hj (j + 1) (by omega) rfl
      rw [bif_pos hj, chk_at h0 hj, chk_at h0 (by omega), drop_at (d := 0) h0 hj, drop_at (xs := ys) (d := 0) h0 (by omega), w64 (by omega) (by omega), hk]
      by_cases e : xs.getD j.toNat 0 = ys.getD j.toNat 0
      · rw [bnot_pos e, e]
        congr 1
        rw [decide_eq_decide]
        simp
      · rw [bnot_neg e, decide_eq_false (fun h => e (List.cons.inj h).1)]
    · rw [bif_neg hj, drop_end hj, List.drop_of_length_le (by omega)]; rfl
  · rw [bnot_neg hn, decide_eq_false (fun h => hn (by rw [h]))]
end lists
end Go.Proofs.YtbkccpddkpclaaaV
/- What the functions of claims and of becketref17 answer. -/
namespace Go.Proofs.YtbkccpddkpclaaaV
set_option linter.unusedVariables false
set_option linter.unusedSimpArgs false
open Go.RowKit lists
namespace claims
abbrev Line := Bool × List Int × Unit
/-- Each is a process, and none stands there twice. -/
def okW : List Int → List Int → Bool
  | _, [] => true
  | pre, x :: r => decide (0 ≤ x ∧ x ≤ 15 ∧ x ∉ pre) && okW (pre ++ [x]) r
def fine (c : Line) : Bool := okW [] c.2.1 && (c.1 || decide (c.2.1.length ≤ 1))
def join (c : Line) (p : Int) : Line × Int × Unit :=
  if fine c = false then (c, 1, ())
  else if ¬ (0 ≤ p ∧ p ≤ 15) then (c, 8, ())
  else if p ∈ c.2.1 then (c, 7, ())
  else if c.1 = false ∧ c.2.1 ≠ [] then (c, 15, ())
  else ((c.1, c.2.1 ++ [p], ()), 0, ())
def leave (c : Line) (p : Int) : Line × Bool × Unit :=
  if fine c = true ∧ p ∈ c.2.1 then ((c.1, c.2.1.take (ixf c.2.1 p 0).toNat ++ c.2.1.drop ((ixf c.2.1 p 0).toNat + 1), ()), true, ()) else (c, false, ())
def head (c : Line) : Int × Bool × Unit :=
  if fine c = true ∧ c.2.1 ≠ [] then (c.2.1.getD 0 0, true, ()) else (0, false, ())
def ahead (c : Line) (p : Int) : Int × Bool × Unit :=
  if fine c = true ∧ p ∈ c.2.1 then (ixf c.2.1 p 0, true, ()) else (0, false, ())

theorem process_eq (p : Int) : claims_process p = some (decide (0 ≤ p ∧ p ≤ 15)) := by
  unfold claims_process
  by_cases h : p ≥ 0
  · rw [bif_pos h]; congr 1; rw [decide_eq_decide]; omega
  · rw [bif_neg h, decide_eq_false (by omega)]
theorem at_eq (xs : List Int) (v : Int) (hl : xs.length ≤ 140737488355328) : R17_At xs v = some (ixf xs v 0) := by
  unfold R17_At
  refine (loop_up (fun j => j) xs.length (fun j => 0 ≤ j) (fun j => some (ixf (xs.drop j.toNat) v j)) (by simp) (by simp; omega) ?_).trans (by simp)
  intro k j (h0 : 0 ≤ j) hk
  unfold R17_At_L1
  by_cases hj : j < (xs.length : Int)
  · have hk := hk hj (j + 1) (by omega) rfl
    rw [bif_pos hj, chk_at h0 hj, drop_at (d := 0) h0 hj, w64 (by omega) (by omega), hk, ixf]
    by_cases e : xs.getD j.toNat 0 = v
    · rw [bif_pos e, if_pos e]
    · rw [bif_neg e, if_neg e]
  · rw [bif_neg hj, drop_end hj]; rfl
theorem at_self {xs : List Int} {j : Int} (h0 : 0 ≤ j) (hj : j < (xs.length : Int)) : ixf xs (xs.getD j.toNat 0) 0 = j ↔ xs.getD j.toNat 0 ∉ xs.take j.toNat := by
  have hs : xs = xs.take j.toNat ++ (xs.getD j.toNat 0 :: xs.drop (j + 1).toNat) := by rw [← drop_at h0 hj, List.take_append_drop]
  have hl : (xs.take j.toNat).length = j.toNat := by rw [List.length_take]; omega
  generalize xs.getD j.toNat 0 = x at hs ⊢
  have e : ixf xs x 0 = if x ∈ xs.take j.toNat then ixf (xs.take j.toNat) x 0 else j := by
    conv => lhs; rw [hs]
    rw [ixf_app, ixf, if_pos rfl, hl]
    congr 1
    omega
  rw [e]
  by_cases hm : x ∈ xs.take j.toNat
  · rw [if_pos hm]
    have := ixf_mem hm 0
    rw [hl] at this
    constructor
    · intro h; omega
    · intro h; exact absurd hm h
  · rw [if_neg hm]
    exact ⟨fun _ => hm, fun _ => rfl⟩
theorem fine_eq (c : Line) (hl : c.2.1.length ≤ 140737488355328) : claims_Fine c = some (fine c) := by
  obtain ⟨sh, xs, u⟩ := c
  have hl : xs.length ≤ 140737488355328 := hl
  unfold claims_Fine
  refine (loop_up (fun j => j) xs.length (fun j => 0 ≤ j) (fun j => some (okW (xs.take j.toNat) (xs.drop j.toNat) && (sh || decide (xs.length ≤ 1)))) (by simp) (by simp; omega) ?_).trans (by simp [fine])
  intro k j (h0 : 0 ≤ j) hk
  unfold claims_Fine_L1
  simp only
  by_cases hj : j < (xs.length : Int)
  · have hk := hk hj (j + 1) (by omega) rfl
    rw [bif_pos hj, chk_at h0 hj, drop_at (d := 0) h0 hj, w64 (by omega) (by omega), hk, process_eq, take_at (d := 0) h0 hj, okW]
    simp only [Option.bind_some]
    rw [chk_pos ⟨by omega, h0, by omega⟩, Int.toNat_zero, List.drop_zero, contains_eq _ _ (by rw [List.length_take]; omega)]
    generalize xs.getD j.toNat 0 = x
    by_cases h1 : 0 ≤ x ∧ x ≤ 15
    · by_cases h2 : x ∈ xs.take j.toNat
      · rw [decide_eq_true h1, decide_eq_false (p := 0 ≤ x ∧ x ≤ 15 ∧ x ∉ xs.take j.toNat) (fun h => h.2.2 h2)]
        simp [h2]
      · rw [decide_eq_true h1, decide_eq_true (p := 0 ≤ x ∧ x ≤ 15 ∧ x ∉ xs.take j.toNat) ⟨h1.1, h1.2, h2⟩]
        simp [h2]
    · rw [decide_eq_false h1, decide_eq_false (p := 0 ≤ x ∧ x ≤ 15 ∧ x ∉ xs.take j.toNat) (fun h => h1 ⟨h.1, h.2.1⟩)]
      simp
  · rw [bif_neg hj, drop_end hj]
    unfold claims_Fine_J1
    simp only [okW, Bool.true_and]
    cases sh with
    | true => rfl
    | false => simp; omega
theorem rfine_eq (c : Line) (hl : c.2.1.length ≤ 140737488355328) : R17_Fine c = some (fine c) := by
  obtain ⟨sh, xs, u⟩ := c
  have hl : xs.length ≤ 140737488355328 := hl
  unfold R17_Fine
  refine (loop_up (fun j => j) xs.length (fun j => 0 ≤ j) (fun j => some (okW (xs.take j.toNat) (xs.drop j.toNat) && (sh || decide (xs.length ≤ 1)))) (by simp) (by simp; omega) ?_).trans (by simp [fine])
  intro k j (h0 : 0 ≤ j) hk
  unfold R17_Fine_L1
  simp only
  by_cases hj : j < (xs.length : Int)
  · have hk := hk hj (j + 1) (by omega) rfl
    rw [bif_pos hj, chk_at h0 hj, chk_at h0 hj, chk_at h0 hj, drop_at (d := 0) h0 hj, w64 (by omega) (by omega), hk, at_eq _ _ hl, take_at (d := 0) h0 hj, okW]
    simp only [Option.bind_some]
    have hs := at_self h0 hj
    generalize xs.getD j.toNat 0 = x at hs
    by_cases h1 : x < 0
    · rw [bif_pos h1, decide_eq_false (p := 0 ≤ x ∧ x ≤ 15 ∧ x ∉ xs.take j.toNat) (fun h => by omega)]; rfl
    · by_cases h2 : x > 15
      · rw [bif_neg h1, bif_pos h2, decide_eq_false (p := 0 ≤ x ∧ x ≤ 15 ∧ x ∉ xs.take j.toNat) (fun h => by omega)]; rfl
      · rw [bif_neg h1, bif_neg h2]
        by_cases h3 : ixf xs x 0 = j
        · rw [bnot_pos h3, decide_eq_true (p := 0 ≤ x ∧ x ≤ 15 ∧ x ∉ xs.take j.toNat) ⟨by omega, by omega, hs.1 h3⟩]; rfl
        · rw [bnot_neg h3, decide_eq_false (p := 0 ≤ x ∧ x ≤ 15 ∧ x ∉ xs.take j.toNat) (fun h => h3 (hs.2 h.2.2))]; rfl
  · rw [bif_neg hj, drop_end hj]
    unfold R17_Fine_J1
    simp only [okW, Bool.true_and]
    cases sh with
    | true => rfl
    | false => simp; omega
theorem okW_len : ∀ (xs pre : List Int), okW pre xs = true → ∀ x ∈ xs, 0 ≤ x ∧ x ≤ 15
  | [], _, _, x, hx => by cases hx
  | y :: xs, pre, h, x, hx => by
    simp only [okW, Bool.and_eq_true, decide_eq_true_eq] at h
    rcases List.mem_cons.1 hx with rfl | hx
    · exact ⟨h.1.1, h.1.2.1⟩
    · exact okW_len xs _ h.2 x hx
theorem join_eq (c : Line) (p : Int) (hl : c.2.1.length ≤ 1000000) : claims_Join c p = some (join c p) := by
  obtain ⟨sh, xs, u⟩ := c
  have hl : xs.length ≤ 1000000 := hl
  unfold claims_Join join
  rw [fine_eq _ (show xs.length ≤ 140737488355328 by omega), process_eq, contains_eq _ _ (show xs.length ≤ 140737488355328 by omega)]
  simp only [Option.bind_some]
  cases hf : fine (sh, xs, u) with
  | false => rfl
  | true =>
    rw [if_neg (by simp)]
    by_cases h1 : 0 ≤ p ∧ p ≤ 15
    · rw [if_neg (not_not_intro h1), decide_eq_true h1]
      by_cases h2 : p ∈ xs
      · rw [if_pos h2, decide_eq_true h2]; rfl
      · rw [if_neg h2, decide_eq_false h2]
        have key : (chk (True ∧ 0 ≤ (IntKind.i64.wrap ((xs.length : Int) + 1)) ∧ (IntKind.i64.wrap ((xs.length : Int) + 1)) ≤ 4294967296) <|
          letv (List.replicate (IntKind.i64.wrap ((xs.length : Int) + 1)).toNat (0 : Int)) fun l3 =>
          letv (xs.take l3.length ++ l3.drop xs.length) fun l4 =>
          chk (0 ≤ (xs.length : Int) ∧ (xs.length : Int) < (l4.length : Int)) <|
          some ((sh, l4.set (xs.length : Int).toNat p, ()), (0 : Int), ())) = some ((sh, xs ++ [p], ()), 0, ()) := by
          rw [w64 (by omega) (by omega), chk_pos ⟨trivial, by omega, by omega⟩]
          simp only [letv_eq]
          have e1 : ((xs.length : Int) + 1).toNat = xs.length + 1 := by omega
          rw [e1]
          have e2 : xs.take (List.replicate (xs.length + 1) (0 : Int)).length ++ (List.replicate (xs.length + 1) (0 : Int)).drop xs.length = xs ++ [0] := by
            rw [List.length_replicate, List.take_of_length_le (by omega), List.drop_replicate, show xs.length + 1 - xs.length = 1 by omega]; rfl
          rw [e2, chk_pos ⟨by omega, by simp; omega⟩]
          simp
        simp only [key]
        cases sh with
        | true => simp
        | false =>
          cases xs with
          | nil => simp
          | cons x xs => simp <;> omega
    · rw [if_pos h1, decide_eq_false h1]; rfl
theorem place_eq (c : Line) (p : Int) (hl : c.2.1.length ≤ 1000000) : claims_place c p = some (ahead c p) := by
  obtain ⟨sh, xs, u⟩ := c
  have hl : xs.length ≤ 1000000 := hl
  unfold claims_place ahead
  rw [fine_eq _ (show xs.length ≤ 140737488355328 by omega), index_eq _ _ (show xs.length ≤ 140737488355328 by omega)]
  simp only [Option.bind_some]
  cases hf : fine (sh, xs, u) with
  | false => simp
  | true =>
    by_cases h2 : p ∈ xs
    · rw [if_pos ⟨rfl, h2⟩]
      have := (ixf_mem h2 0).1
      simp only [Bool.not_true, cond_false]
      rw [decide_eq_true this, Int.max_eq_left this]
    · rw [if_neg (fun h => h2 h.2), ixf_not h2]; rfl
theorem ahead_eq (c : Line) (p : Int) (hl : c.2.1.length ≤ 1000000) : claims_Ahead c p = some (ahead c p) := by
  unfold claims_Ahead
  rw [place_eq c p hl]; rfl
theorem head_eq (c : Line) (hl : c.2.1.length ≤ 1000000) : claims_Head c = some (head c) := by
  obtain ⟨sh, xs, u⟩ := c
  have hl : xs.length ≤ 1000000 := hl
  unfold claims_Head head
  rw [fine_eq _ (show xs.length ≤ 140737488355328 by omega)]
  simp only [Option.bind_some]
  cases hf : fine (sh, xs, u) with
  | false => simp
  | true =>
    cases xs with
    | nil => simp
    | cons x xs =>
      rw [if_pos ⟨rfl, by simp⟩, bif_neg (by simp <;> omega), chk_pos ⟨by omega, by simp <;> omega⟩]; rfl
theorem leave_eq (c : Line) (p : Int) (hl : c.2.1.length ≤ 1000000) : claims_Leave c p = some (leave c p) := by
  unfold claims_Leave
  rw [place_eq c p hl]
  obtain ⟨sh, xs, u⟩ := c
  have hl : xs.length ≤ 1000000 := hl
  unfold ahead leave
  simp only [Option.bind_some]
  by_cases h : fine (sh, xs, u) = true ∧ p ∈ xs
  · rw [if_pos h, if_pos h]
    have h1 := ixf_mem h.2 0
    rw [nilq_eq (fun h0 => by rw [h0] at h; cases h.2)]
    simp only [cond_true, cond_false, List.nil_append, List.length_nil]
    rw [w64 (by omega) (by omega), chk_pos (by omega), chk_pos ⟨h1.1, by omega, by omega⟩, show (ixf xs p 0 + 1).toNat = (ixf xs p 0).toNat + 1 by omega]
  · rw [if_neg h, if_neg h]; rfl
theorem rleave_eq (c : Line) (p : Int) (hl : c.2.1.length ≤ 1000000) : R17_Leave c p = some (leave c p) := by
  obtain ⟨sh, xs, u⟩ := c
  have hl : xs.length ≤ 1000000 := hl
  unfold R17_Leave leave
  rw [rfine_eq _ (show xs.length ≤ 140737488355328 by omega), at_eq _ _ (show xs.length ≤ 140737488355328 by omega)]
  simp only [Option.bind_some]
  cases hf : fine (sh, xs, u) with
  | false => simp
  | true =>
    by_cases h2 : p ∈ xs
    · rw [if_pos ⟨rfl, h2⟩]
      have h1 := ixf_mem h2 0
      simp only [Bool.not_true, cond_false, letv_eq]
      rw [bif_neg (by omega), chk_pos ⟨by omega, h1.1, by omega⟩, w64 (by omega) (by omega), chk_pos ⟨by omega, by omega, by omega⟩, chk_pos (by simp; omega), chk_pos (by simp; omega), show (ixf xs p 0 + 1).toNat = (ixf xs p 0).toNat + 1 by omega]
      simp
    · rw [if_neg (fun h => h2 h.2), ixf_not h2]; rfl
end claims
end Go.Proofs.YtbkccpddkpclaaaV
/- What the functions of channel and of becketref18 answer. -/
namespace Go.Proofs.YtbkccpddkpclaaaV
set_option linter.unusedVariables false
set_option linter.unusedSimpArgs false
open Go.RowKit lists
theorem and_some1 {b x : Bool} : cond (!b) (some false) (some x) = some (b && x) := by cases b <;> rfl
theorem and_some2 {b x : Bool} : cond b (some x) (some false) = some (b && x) := by cases b <;> rfl
theorem and_some3 {b x : Bool} : cond b (some false) (some x) = some (!b && x) := by cases b <;> rfl
theorem dec_ite {p : Prop} [Decidable p] {α : Type} {x y : α} : cond (decide p) x y = if p then x else y := by by_cases h : p <;> simp [h]
namespace channel
abbrev Conf := Int × Int × Int × Int × Unit
abbrev Ch := Conf × Int × List Int × claims.Line × List Int × claims.Line × Unit
def pf (n : Int) : Bool := decide (0 ≤ n ∧ n ≤ 255)
def word (n : Int) : Bool := decide (-2147483648 ≤ n ∧ n ≤ 2147483647)
def check (f : Conf) : Int :=
  if f.1 < 0 then 12 else if f.1 > 3 then 12 else if f.2.1 < 0 then 8 else if f.2.1 > 8 then 8 else if pf f.2.2.1 = false then 8 else if pf f.2.2.2.1 = false then 8 else 0
def so (k : Int) : Bool := decide (k = 1 ∨ k = 3)
def si (k : Int) : Bool := decide (2 ≤ k)
def fine (c : Ch) : Bool :=
  decide (check c.1 = 0) && (pf c.2.1 && (!decide ((c.2.2.1.length : Int) > c.1.2.1) && (c.2.2.1.all word && (c.2.2.2.2.1.all word && ((c.2.2.2.1.1 == so c.1.1) && ((c.2.2.2.2.2.1.1 == si c.1.1) && (claims.fine c.2.2.2.1 && (claims.fine c.2.2.2.2.2.1 && decide ((c.2.2.2.2.1.length : Int) = (c.2.2.2.1.2.1.length : Int))))))))))
def hit (l e : Int) : Bool := pf l && (pf e && decide (e < l))
def raise (n b : Int) : Int × Int × Unit := if pf n = false then (0, 8, ()) else if 1 ≤ b ∧ b ≤ 255 then (max n b, 0, ()) else (0, 8, ())

theorem pfine_eq (n : Int) : poison_Fine n = some (pf n) := by
  unfold poison_Fine pf
  by_cases h : n ≥ 0
  · rw [bif_pos h]; congr 1; rw [decide_eq_decide]; omega
  · rw [bif_neg h, decide_eq_false (by omega)]
theorem rpfine_eq (n : Int) : R16_Fine n = some (pf n) := by
  unfold R16_Fine pf
  by_cases h : n ≥ 0
  · rw [bif_pos h]; congr 1; rw [decide_eq_decide]; omega
  · rw [bif_neg h, decide_eq_false (by omega)]
theorem word_eq (n : Int) : word_Fine n = some (word n) := by
  unfold word_Fine word
  by_cases h : n ≥ -2147483648
  · rw [bif_pos h]; congr 1; rw [decide_eq_decide]; omega
  · rw [bif_neg h, decide_eq_false (by omega)]
theorem rword_eq (n : Int) : R08_Fine n = some (word n) := by
  unfold R08_Fine word
  by_cases h : n ≥ -2147483648
  · rw [bif_pos h]; congr 1; rw [decide_eq_decide]; omega
  · rw [bif_neg h, decide_eq_false (by omega)]
theorem hit_eq (l e : Int) : poison_Hit l e = some (hit l e) := by
  unfold poison_Hit hit
  simp only [pfine_eq, Option.bind_some, and_some2]
theorem rhit_eq (l e : Int) : R16_Hit l e = some (hit l e) := by
  unfold R16_Hit hit
  simp only [rpfine_eq, Option.bind_some, and_some2]
theorem raise_eq (n b : Int) : poison_Raise n b = some (raise n b) := by
  unfold poison_Raise raise
  simp only [pfine_eq, Option.bind_some]
  cases h : pf n with
  | false => rfl
  | true =>
    simp only [Bool.not_true, cond_false, Bool.true_eq_false, if_false]
    by_cases h1 : 0 ≤ b ∧ b ≤ 255
    · rw [show pf b = true from decide_eq_true h1]
      simp only [Bool.not_true, cond_false]
      by_cases h2 : b = 0
      · rw [bif_pos h2, if_neg (by omega)]
      · rw [bif_neg h2, if_pos (by omega)]
    · rw [show pf b = false from decide_eq_false h1, if_neg (by omega)]; rfl
theorem rraise_eq (n b : Int) : R16_Raise n b = some (raise n b) := by
  unfold R16_Raise raise
  simp only [rpfine_eq, Option.bind_some]
  cases h : pf n with
  | false => rfl
  | true =>
    simp only [Bool.not_true, cond_false, Bool.true_eq_false, if_false]
    by_cases h1 : b < 1
    · rw [bif_pos h1, if_neg (by omega)]
    · rw [bif_neg h1]
      by_cases h2 : b > 255
      · rw [bif_pos h2, if_neg (by omega)]
      · rw [bif_neg h2, if_pos (by omega)]
        by_cases h3 : b > n
        · rw [bif_pos h3, Int.max_eq_right (by omega)]
        · rw [bif_neg h3, Int.max_eq_left (by omega)]
theorem check_eq (f : Conf) : channel_Check f = some (check f) := by
  unfold channel_Check check
  simp only [pfine_eq, Option.bind_some, dec_ite]
  cases pf f.2.2.1 <;> cases pf f.2.2.2.1 <;> (repeat' split) <;> first | rfl | simp_all
theorem rcheck_eq (f : Conf) : R18_Check f = some (check f) := by
  unfold R18_Check check
  simp only [rpfine_eq, Option.bind_some, dec_ite]
  cases pf f.2.2.1 <;> cases pf f.2.2.2.1 <;> (repeat' split) <;> first | rfl | simp_all
theorem kind_of {f : Conf} (h : check f = 0) : 0 ≤ f.1 ∧ f.1 ≤ 3 ∧ 0 ≤ f.2.1 ∧ f.2.1 ≤ 8 := by
  unfold check at h
  repeat' split at h
  all_goals omega
theorem shares1 {f : Conf} (h : 0 ≤ f.1 ∧ f.1 ≤ 3) : channel_shares f 1 = some (so f.1) := by
  unfold channel_shares so
  generalize f.1 = k at h
  rcases (by omega : k = 0 ∨ k = 1 ∨ k = 2 ∨ k = 3) with rfl | rfl | rfl | rfl <;> decide
theorem shares2 {f : Conf} (h : 0 ≤ f.1 ∧ f.1 ≤ 3) : channel_shares f 2 = some (si f.1) := by
  unfold channel_shares si
  generalize f.1 = k at h
  rcases (by omega : k = 0 ∨ k = 1 ∨ k = 2 ∨ k = 3) with rfl | rfl | rfl | rfl <;> decide
theorem words_eq (xs : List Int) (hl : xs.length ≤ 140737488355328) : channel_words xs = some (xs.all word) := by
  unfold channel_words
  refine (loop_up (fun j => j) xs.length (fun j => 0 ≤ j) (fun j => some ((xs.drop j.toNat).all word)) (by simp) (by simp; omega) ?_).trans (by simp)
  intro k j (h0 : 0 ≤ j) hk
  unfold channel_words_L1 channel_words_1
  by_cases hj : j < (xs.length : Int)
  · have hk := hk hj (j + 1) (by omega) rfl
    rw [bif_pos hj, chk_at h0 hj, drop_at (d := 0) h0 hj, w64 (by omega) (by omega), hk, word_eq, List.all_cons, decide_eq_true h0]
    simp only [Option.bind_some]
    cases word (xs.getD j.toNat 0) <;> rfl
  · rw [bif_neg hj, drop_end hj]; rfl
theorem rwords_eq (xs : List Int) (hl : xs.length ≤ 140737488355328) : R18_words xs = some (xs.all word) := by
  unfold R18_words
  refine (loop_up (fun j => j) xs.length (fun j => 0 ≤ j) (fun j => some ((xs.drop j.toNat).all word)) (by simp) (by simp; omega) ?_).trans (by simp)
  intro k j (h0 : 0 ≤ j) hk
  unfold R18_words_L1
  by_cases hj : j < (xs.length : Int)
  · have hk := hk hj (j + 1) (by omega) rfl
    rw [bif_pos hj, chk_at h0 hj, drop_at (d := 0) h0 hj, w64 (by omega) (by omega), hk, rword_eq, List.all_cons]
    simp only [Option.bind_some]
    cases word (xs.getD j.toNat 0) <;> rfl
  · rw [bif_neg hj, drop_end hj]; rfl
def new (f : Conf) : Ch × Int × Unit :=
  if check f = 0 then ((f, 0, [], (so f.1, [], ()), [], (si f.1, [], ()), ()), 0, ()) else (((0, 0, 0, 0, ()), 0, [], (false, [], ()), [], (false, [], ()), ()), check f, ())
theorem new_eq (f : Conf) : channel_New f = some (new f) := by
  unfold channel_New new
  rw [check_eq]
  simp only [Option.bind_some]
  by_cases h : check f = 0
  · rw [bnot_pos h, if_pos h, shares1 ⟨(kind_of h).1, (kind_of h).2.1⟩, shares2 ⟨(kind_of h).1, (kind_of h).2.1⟩]; rfl
  · rw [bnot_neg h, if_neg h]
theorem rnew_eq (f : Conf) : R18_New f = some (new f) := by
  unfold R18_New new
  rw [rcheck_eq]
  simp only [Option.bind_some]
  by_cases h : check f = 0
  · rw [bnot_pos h, if_pos h]
    have hk := kind_of h
    have h2 : decide (f.1 ≥ 2) = si f.1 := rfl
    by_cases h1 : f.1 = 1
    · rw [bif_pos h1, show so f.1 = true from decide_eq_true (.inl h1)]; rfl
    · rw [bif_neg h1, show so f.1 = decide (f.1 = 3) from decide_eq_decide.2 ⟨fun h => h.resolve_left h1, .inr⟩]; rfl
  · rw [bnot_neg h, if_neg h]
structure Small (c : Ch) : Prop where
  a : c.2.2.1.length ≤ 1000
  b : c.2.2.2.1.2.1.length ≤ 1000
  d : c.2.2.2.2.1.length ≤ 1000
  e : c.2.2.2.2.2.1.2.1.length ≤ 1000
theorem fine_eq (c : Ch) (hs : Small c) : channel_Fine c = some (fine c) := by
  unfold channel_Fine fine
  rw [check_eq]
  simp only [Option.bind_some]
  by_cases h : check c.1 = 0
  · have hk := kind_of h
    have := hs.a; have := hs.b; have := hs.d; have := hs.e
    rw [bnot_pos h, decide_eq_true h, shares1 ⟨hk.1, hk.2.1⟩, shares2 ⟨hk.1, hk.2.1⟩, words_eq _ (by omega), words_eq _ (by omega), claims.fine_eq _ (by omega), claims.fine_eq _ (by omega), pfine_eq]
    simp only [Option.bind_some, letv_eq, and_some1, and_some2, and_some3, Bool.true_and, Bool.not_not]
  · rw [bnot_neg h, decide_eq_false h]; rfl
theorem rfine_eq (c : Ch) (hs : Small c) : R18_Fine c = some (fine c) := by
  unfold R18_Fine fine
  rw [rnew_eq]
  simp only [Option.bind_some]
  have := hs.a; have := hs.b; have := hs.d; have := hs.e
  by_cases h : check c.1 = 0
  · rw [decide_eq_true h, rwords_eq _ (by omega), rwords_eq _ (by omega), claims.rfine_eq _ (by omega), claims.rfine_eq _ (by omega), rpfine_eq]
    unfold new
    rw [if_pos h]
    simp only [Option.bind_some, letv_eq, and_some1, and_some2, and_some3, Bool.true_and, decide_true, Bool.not_not]
    congr 1
    ac_rfl
  · unfold new
    rw [if_neg h, bnot_neg h, decide_eq_false h]; rfl
def send (c : Ch) (p v : Int) : Ch × Int × Unit :=
  if fine c = false then (c, 1, ()) else if word v = false then (c, 8, ()) else
  if (claims.join c.2.2.2.1 p).2.1 = 0 then ((c.1, c.2.1, c.2.2.1, (claims.join c.2.2.2.1 p).1, c.2.2.2.2.1 ++ [v], c.2.2.2.2.2.1, ()), 0, ()) else (c, (claims.join c.2.2.2.1 p).2.1, ())
theorem behind_eq (xs : List Int) (v : Int) (hl : xs.length ≤ 1000000) : channel_behind xs v = some (xs ++ [v]) := by
  unfold channel_behind
  rw [w64 (by omega) (by omega), chk_pos ⟨rfl, by omega, by omega⟩]
  simp only [letv_eq]
  rw [show ((xs.length : Int) + 1).toNat = xs.length + 1 by omega]
  have e2 : xs.take (List.replicate (xs.length + 1) (0 : Int)).length ++ (List.replicate (xs.length + 1) (0 : Int)).drop xs.length = xs ++ [0] := by
    rw [List.length_replicate, List.take_of_length_le (by omega), List.drop_replicate, show xs.length + 1 - xs.length = 1 by omega]; rfl
  rw [e2, chk_pos ⟨by omega, by simp; omega⟩]
  simp
theorem send_eq (c : Ch) (p v : Int) (hs : Small c) : channel_Send c p v = some (send c p v) := by
  have := hs.b; have := hs.d
  unfold channel_Send send
  rw [fine_eq c hs, word_eq, claims.join_eq _ _ (by omega), behind_eq _ _ (by omega)]
  simp only [Option.bind_some]
  cases fine c with
  | false => rfl
  | true =>
    cases word v with
    | false => rfl
    | true =>
      simp only [Bool.not_true, cond_false, Bool.true_eq_false, if_false]
      by_cases h : (claims.join c.2.2.2.1 p).2.1 = 0
      · rw [bif_pos h, if_pos h, h]
      · rw [bif_neg h, if_neg h]
def recv (c : Ch) (p : Int) : Ch × Int × Unit :=
  if fine c = false then (c, 1, ()) else
  if (claims.join c.2.2.2.2.2.1 p).2.1 = 0 then ((c.1, c.2.1, c.2.2.1, c.2.2.2.1, c.2.2.2.2.1, (claims.join c.2.2.2.2.2.1 p).1, ()), 0, ()) else (c, (claims.join c.2.2.2.2.2.1 p).2.1, ())
theorem recv_eq (c : Ch) (p : Int) (hs : Small c) : channel_Recv c p = some (recv c p) := by
  have := hs.e
  unfold channel_Recv recv
  rw [fine_eq c hs, claims.join_eq _ _ (by omega)]
  simp only [Option.bind_some]
  cases fine c with
  | false => rfl
  | true =>
    simp only [Bool.not_true, cond_false, Bool.true_eq_false, if_false]
    by_cases h : (claims.join c.2.2.2.2.2.1 p).2.1 = 0
    · rw [bif_pos h, if_pos h, h]
    · rw [bif_neg h, if_neg h]
def poison (c : Ch) (v : Int) : Ch × Int × Unit :=
  if fine c = false then (c, 1, ()) else
  if (raise c.2.1 v).2.1 = 0 then ((c.1, (raise c.2.1 v).1, c.2.2.1, c.2.2.2.1, c.2.2.2.2.1, c.2.2.2.2.2.1, ()), 0, ()) else (c, (raise c.2.1 v).2.1, ())
theorem poison_eq (c : Ch) (v : Int) (hs : Small c) : channel_Poison c v = some (poison c v) := by
  unfold channel_Poison poison
  rw [fine_eq c hs, raise_eq]
  simp only [Option.bind_some]
  cases fine c with
  | false => rfl
  | true =>
    simp only [Bool.not_true, cond_false, Bool.true_eq_false, if_false]
    by_cases h : (raise c.2.1 v).2.1 = 0
    · rw [bif_pos h, if_pos h, h]
    · rw [bif_neg h, if_neg h]
theorem rpoison_eq (c : Ch) (v : Int) (hs : Small c) : R18_Poison c v = some (poison c v) := by
  unfold R18_Poison poison
  rw [rfine_eq c hs, rraise_eq]
  simp only [Option.bind_some]
  cases fine c with
  | false => rfl
  | true =>
    simp only [Bool.not_true, cond_false, Bool.true_eq_false, if_false]
    by_cases h : (raise c.2.1 v).2.1 = 0
    · rw [bnot_pos h, if_pos h]
    · rw [bnot_neg h, if_neg h]
/-- What holds of a channel that may be. -/
structure Ok (c : Ch) : Prop where
  conf : check c.1 = 0
  room : (c.2.2.1.length : Int) ≤ c.1.2.1
  out : claims.fine c.2.2.2.1 = true
  inn : claims.fine c.2.2.2.2.2.1 = true
  len : c.2.2.2.2.1.length = c.2.2.2.1.2.1.length
theorem Ok.of {c : Ch} (h : fine c = true) : Ok c := by
  unfold fine at h
  simp only [Bool.and_eq_true, decide_eq_true_eq, Bool.not_eq_true', decide_eq_false_iff_not] at h
  obtain ⟨h1, _, h3, _, _, _, _, h8, h9, h10⟩ := h
  exact ⟨h1, by omega, h8, h9, by omega⟩
def hitP (c : Ch) (p : Int) : Bool :=
  fine c && ((decide (p ∈ c.2.2.2.1.2.1) && hit c.2.1 c.1.2.2.2.1) || (decide (p ∈ c.2.2.2.2.2.1.2.1) && hit c.2.1 c.1.2.2.1))
theorem ahead_is {l : claims.Line} {p : Int} (h : claims.fine l = true) : (claims.ahead l p).2.1 = decide (p ∈ l.2.1) := by
  unfold claims.ahead
  by_cases hp : p ∈ l.2.1
  · rw [if_pos ⟨h, hp⟩, decide_eq_true hp]
  · rw [if_neg (fun h => hp h.2), decide_eq_false hp]
theorem hitP_eq (c : Ch) (p : Int) (hs : Small c) : channel_Hit c p = some (hitP c p) := by
  have := hs.b; have := hs.e
  unfold channel_Hit hitP
  rw [fine_eq c hs, claims.ahead_eq _ _ (by omega), claims.ahead_eq _ _ (by omega), hit_eq, hit_eq]
  simp only [Option.bind_some]
  cases hf : fine c with
  | false => rfl
  | true =>
    have ok := Ok.of hf
    rw [ahead_is ok.out, ahead_is ok.inn]
    cases decide (p ∈ c.2.2.2.1.2.1) <;> cases decide (p ∈ c.2.2.2.2.2.1.2.1) <;> cases hit c.2.1 c.1.2.2.2.1 <;> cases hit c.2.1 c.1.2.2.1 <;> rfl
theorem ge_dec (xs : List Int) (p : Int) : decide (ixf xs p 0 ≥ 0) = decide (p ∈ xs) := decide_eq_decide.2 ixf_ge
theorem rhitP_eq (c : Ch) (p : Int) (hs : Small c) : R18_Hit c p = some (hitP c p) := by
  have := hs.b; have := hs.e
  unfold R18_Hit hitP R18_OutHit R18_InHit
  rw [rfine_eq c hs, claims.at_eq _ _ (by omega), claims.at_eq _ _ (by omega), rhit_eq, rhit_eq]
  simp only [Option.bind_some, ge_dec]
  cases fine c <;> cases decide (p ∈ c.2.2.2.1.2.1) <;> cases decide (p ∈ c.2.2.2.2.2.1.2.1) <;> cases hit c.2.1 c.1.2.2.2.1 <;> cases hit c.2.1 c.1.2.2.1 <;> rfl
def leave (c : Ch) (p : Int) : Ch :=
  if fine c = false then c else
  (c.1, c.2.1, c.2.2.1, (claims.leave c.2.2.2.1 p).1, if p ∈ c.2.2.2.1.2.1 then c.2.2.2.2.1.take (ixf c.2.2.2.1.2.1 p 0).toNat ++ c.2.2.2.2.1.drop ((ixf c.2.2.2.1.2.1 p 0).toNat + 1) else c.2.2.2.2.1, (claims.leave c.2.2.2.2.2.1 p).1, ())
theorem without_eq (xs : List Int) (i : Int) (h0 : 0 ≤ i) (h1 : i < (xs.length : Int)) (hl : xs.length ≤ 1000000) : channel_without xs i = some (xs.take i.toNat ++ xs.drop (i.toNat + 1)) := by
  unfold channel_without
  rw [nilq_eq (fun h => by subst h; simp at h1; omega)]
  simp only [cond_false, List.nil_append, List.length_nil, letv_eq]
  rw [w64 (by omega) (by omega), chk_pos (by omega), chk_pos ⟨h0, by omega, by omega⟩, show (i + 1).toNat = i.toNat + 1 by omega]
theorem leave_eq (c : Ch) (p : Int) (hs : Small c) : channel_Leave c p = some (leave c p) := by
  have := hs.b; have := hs.d; have := hs.e
  unfold channel_Leave leave
  rw [fine_eq c hs, claims.ahead_eq _ _ (by omega), claims.leave_eq _ _ (by omega), claims.leave_eq _ _ (by omega)]
  simp only [Option.bind_some]
  cases hf : fine c with
  | false => rfl
  | true =>
    have ok := Ok.of hf
    simp only [Bool.not_true, cond_false, Bool.true_eq_false, if_false]
    rw [ahead_is ok.out]
    by_cases hp : p ∈ c.2.2.2.1.2.1
    · rw [bif_pos hp, if_pos hp]
      have h1 := ixf_mem hp 0
      have h2 : (claims.ahead c.2.2.2.1 p).1 = ixf c.2.2.2.1.2.1 p 0 := by unfold claims.ahead; rw [if_pos ⟨ok.out, hp⟩]
      rw [h2, without_eq _ _ h1.1 (by rw [ok.len]; omega) (by omega)]; rfl
    · rw [bif_neg hp, if_neg hp]
theorem rleave_eq (c : Ch) (p : Int) (hs : Small c) : R18_Leave c p = some (leave c p) := by
  have := hs.b; have := hs.d; have := hs.e
  unfold R18_Leave leave
  rw [rfine_eq c hs, claims.at_eq _ _ (by omega), claims.at_eq _ _ (by omega), claims.rleave_eq _ _ (by omega), claims.rleave_eq _ _ (by omega)]
  simp only [Option.bind_some, ge_dec]
  cases hf : fine c with
  | false => rfl
  | true =>
    have ok := Ok.of hf
    simp only [Bool.not_true, cond_false, Bool.true_eq_false, if_false]
    have hin : ∀ l : claims.Line, p ∉ l.2.1 → (claims.leave l p).1 = l := fun l h => by unfold claims.leave; rw [if_neg (fun h2 => h h2.2)]
    have hsame : ∀ x : claims.Line, cond (decide (p ∈ c.2.2.2.2.2.1.2.1)) (claims.leave c.2.2.2.2.2.1 p).1 c.2.2.2.2.2.1 = (claims.leave c.2.2.2.2.2.1 p).1 := fun _ => by
      by_cases h : p ∈ c.2.2.2.2.2.1.2.1
      · rw [bif_pos h]
      · rw [bif_neg h, hin _ h]
    by_cases hp : p ∈ c.2.2.2.1.2.1
    · rw [bif_pos hp, if_pos hp]
      have h1 := ixf_mem hp 0
      have hl := ok.len
      rw [w64 (by omega) (by omega), chk_pos ⟨by omega, h1.1, by omega⟩, chk_pos ⟨by omega, by omega, by omega⟩, chk_pos (by simp; omega)]
      simp only [letv_eq]
      rw [chk_pos (by simp; omega), show (ixf c.2.2.2.1.2.1 p 0 + 1).toNat = (ixf c.2.2.2.1.2.1 p 0).toNat + 1 by omega]
      by_cases h : p ∈ c.2.2.2.2.2.1.2.1
      · rw [bif_pos h]; simp
      · rw [bif_neg h, hin _ h]; simp
    · rw [bif_neg hp, if_neg hp, hin _ hp]
      by_cases h : p ∈ c.2.2.2.2.2.1.2.1
      · rw [bif_pos h]
      · rw [bif_neg h, hin _ h]
/-- Whether a move may happen, of a channel that may be. -/
def mayB (c : Ch) (m : Int) : Bool :=
  bif decide (m = 1) then decide (c.1.2.1 = 0) && ((decide ((c.2.2.2.1.2.1.length : Int) > 0) && !hit c.2.1 c.1.2.2.2.1) && (decide ((c.2.2.2.2.2.1.2.1.length : Int) > 0) && !hit c.2.1 c.1.2.2.1))
  else bif decide (m = 2) then decide ((c.2.2.1.length : Int) < c.1.2.1) && (decide ((c.2.2.2.1.2.1.length : Int) > 0) && !hit c.2.1 c.1.2.2.2.1)
  else bif decide (m = 3) then decide ((c.2.2.1.length : Int) > 0) && (decide ((c.2.2.2.2.2.1.2.1.length : Int) > 0) && !hit c.2.1 c.1.2.2.1)
  else false
theorem head_is {l : claims.Line} (h : claims.fine l = true) : (claims.head l).2.1 = decide ((l.2.1.length : Int) > 0) := by
  unfold claims.head
  by_cases hp : l.2.1 = []
  · rw [if_neg (fun h => h.2 hp), hp]; rfl
  · rw [if_pos ⟨h, hp⟩, decide_eq_true]
    have := List.length_pos_iff.2 hp
    omega
theorem may_eq (c : Ch) (m : Int) (hs : Small c) (ok : Ok c) : channel_may c m = some (mayB c m) := by
  have := hs.b; have := hs.e
  unfold channel_may mayB
  rw [claims.head_eq _ (by omega), claims.head_eq _ (by omega), hit_eq, hit_eq]
  simp only [Option.bind_some]
  rw [head_is ok.out, head_is ok.inn]
  generalize decide ((c.2.2.2.1.2.1.length : Int) > 0) = b1
  generalize decide ((c.2.2.2.2.2.1.2.1.length : Int) > 0) = b2
  generalize hit c.2.1 c.1.2.2.2.1 = b3
  generalize hit c.2.1 c.1.2.2.1 = b4
  generalize decide (c.1.2.1 = 0) = b5
  generalize decide ((c.2.2.1.length : Int) < c.1.2.1) = b6
  generalize decide ((c.2.2.1.length : Int) > 0) = b7
  generalize decide (m = 1) = m1
  generalize decide (m = 2) = m2
  generalize decide (m = 3) = m3
  cases b1 <;> cases b2 <;> cases m1 <;> cases m2 <;> cases m3 <;> cases b5 <;> cases b6 <;> cases b7 <;> cases b3 <;> cases b4 <;> rfl
def one_ (c : Ch) (m : Int) : List Int := bif mayB c m then [m] else []
def what (c : Ch) : List Int := if fine c = false then [] else one_ c 1 ++ (one_ c 2 ++ one_ c 3)
theorem one_len (c : Ch) (m : Int) : (one_ c m).length ≤ 1 := by
  unfold one_
  cases mayB c m <;> simp
theorem what_eq (c : Ch) (hs : Small c) : channel_What c = some (what c) := by
  unfold channel_What what
  rw [fine_eq c hs]
  simp only [Option.bind_some]
  cases hf : fine c with
  | false => rfl
  | true =>
    have ok := Ok.of hf
    simp only [Bool.not_true, cond_false, Bool.true_eq_false, if_false]
    refine (loop_up (fun x => x.1) 4 (fun x : Int × List Int => 1 ≤ x.1 ∧ x.1 ≤ 4 ∧ (x.2.length : Int) ≤ x.1) (fun x => some (x.2 ++ ((if x.1 ≤ 1 then one_ c 1 else []) ++ ((if x.1 ≤ 2 then one_ c 2 else []) ++ (if x.1 ≤ 3 then one_ c 3 else []))))) (by simp) (by simp) ?_).trans (by simp)
    rintro k ⟨i, out⟩ ⟨i1, i2, i3⟩ hk
    simp only at i1 i2 i3 hk
    unfold channel_What_L1
    simp only
    by_cases h4 : i = 4
    · subst h4
      rw [bif_neg (by omega)]
      simp [channel_What_J1]
    · rw [bif_pos (by omega), may_eq c i hs ok]
      simp only [Option.bind_some]
      rw [w64 (by omega) (by omega), chk_pos (by simp; omega), hk (by omega) (i + 1, out ++ [i]) ⟨by simp only; omega, by simp only; omega, by simp; omega⟩ rfl, hk (by omega) (i + 1, out) ⟨by simp only; omega, by simp only; omega, by simp only; omega⟩ rfl]
      rcases (by omega : i = 1 ∨ i = 2 ∨ i = 3) with rfl | rfl | rfl
      · cases hm : mayB c 1 <;> simp [one_, hm]
      · cases hm : mayB c 2 <;> simp [one_, hm]
      · cases hm : mayB c 3 <;> simp [one_, hm]
theorem rwhat_eq (c : Ch) (hs : Small c) : R18_What c = some (what c) := by
  unfold R18_What what R18_OutHit R18_InHit
  rw [rfine_eq c hs, rhit_eq, rhit_eq]
  simp only [Option.bind_some]
  cases hf : fine c with
  | false => rfl
  | true =>
    have ok := Ok.of hf
    have hk := kind_of ok.conf
    have hroom := ok.room
    simp only [Bool.not_true, cond_false, Bool.true_eq_false, if_false]
    unfold one_ mayB
    simp only [show decide ((1 : Int) = 1) = true from rfl, show decide ((2 : Int) = 1) = false from rfl, show decide ((2 : Int) = 2) = true from rfl, show decide ((3 : Int) = 1) = false from rfl, show decide ((3 : Int) = 2) = false from rfl, show decide ((3 : Int) = 3) = true from rfl, cond_true, cond_false]
    by_cases h0 : c.1.2.1 = 0
    · rw [decide_eq_true h0, decide_eq_false (show ¬ c.1.2.1 > 0 by omega), decide_eq_false (show ¬ (c.2.2.1.length : Int) < c.1.2.1 by omega), decide_eq_false (show ¬ (c.2.2.1.length : Int) > 0 by omega)]
      generalize decide ((c.2.2.2.1.2.1.length : Int) > 0) = b1
      generalize decide ((c.2.2.2.2.2.1.2.1.length : Int) > 0) = b2
      generalize hit c.2.1 c.1.2.2.2.1 = b3
      generalize hit c.2.1 c.1.2.2.1 = b4
      cases b1 <;> cases b2 <;> cases b3 <;> cases b4 <;> simp [chk]
    · rw [decide_eq_false h0, decide_eq_true (show c.1.2.1 > 0 by omega)]
      generalize decide ((c.2.2.2.1.2.1.length : Int) > 0) = b1
      generalize decide ((c.2.2.2.2.2.1.2.1.length : Int) > 0) = b2
      generalize hit c.2.1 c.1.2.2.2.1 = b3
      generalize hit c.2.1 c.1.2.2.1 = b4
      generalize decide ((c.2.2.1.length : Int) < c.1.2.1) = b6
      generalize decide ((c.2.2.1.length : Int) > 0) = b7
      cases b1 <;> cases b2 <;> cases b3 <;> cases b4 <;> cases b6 <;> cases b7 <;> simp [chk]
theorem mem_what {c : Ch} (hf : fine c = true) (m : Int) : m ∈ what c ↔ mayB c m = true := by
  unfold what
  rw [if_neg (by rw [hf]; simp)]
  have key : ∀ k : Int, m ∈ one_ c k ↔ m = k ∧ mayB c k = true := by
    intro k
    unfold one_
    cases mayB c k <;> simp
  simp only [List.mem_append, key]
  constructor
  · rintro (⟨rfl, h⟩ | ⟨rfl, h⟩ | ⟨rfl, h⟩) <;> exact h
  · intro h
    by_cases h1 : m = 1
    · subst h1; exact .inl ⟨rfl, h⟩
    · by_cases h2 : m = 2
      · subst h2; exact .inr (.inl ⟨rfl, h⟩)
      · by_cases h3 : m = 3
        · subst h3; exact .inr (.inr ⟨rfl, h⟩)
        · unfold mayB at h
          rw [decide_eq_false h1, decide_eq_false h2, decide_eq_false h3] at h
          cases h
def do_ (c : Ch) (m : Int) : Ch × (Int × Int × Int × Unit) × Int × Unit :=
  if fine c = false then (c, (0, 0, 0, ()), 1, ())
  else if mayB c m = false then (c, (0, 0, 0, ()), 13, ())
  else if m = 1 then ((c.1, c.2.1, c.2.2.1, (c.2.2.2.1.1, c.2.2.2.1.2.1.drop 1, ()), c.2.2.2.2.1.drop 1, (c.2.2.2.2.2.1.1, c.2.2.2.2.2.1.2.1.drop 1, ()), ()), (c.2.2.2.1.2.1.getD 0 0, c.2.2.2.2.2.1.2.1.getD 0 0, c.2.2.2.2.1.getD 0 0, ()), 0, ())
  else if m = 2 then ((c.1, c.2.1, c.2.2.1 ++ [c.2.2.2.2.1.getD 0 0], (c.2.2.2.1.1, c.2.2.2.1.2.1.drop 1, ()), c.2.2.2.2.1.drop 1, c.2.2.2.2.2.1, ()), (c.2.2.2.1.2.1.getD 0 0, -1, c.2.2.2.2.1.getD 0 0, ()), 0, ())
  else ((c.1, c.2.1, c.2.2.1.drop 1, c.2.2.2.1, c.2.2.2.2.1, (c.2.2.2.2.2.1.1, c.2.2.2.2.2.1.2.1.drop 1, ()), ()), (-1, c.2.2.2.2.2.1.2.1.getD 0 0, c.2.2.1.getD 0 0, ()), 0, ())
/-- The first of a line goes. -/
theorem first_goes {l : claims.Line} (h : claims.fine l = true) (hn : 0 < l.2.1.length) : (claims.head l).1 = l.2.1.getD 0 0 ∧ (claims.leave l (l.2.1.getD 0 0)).1 = (l.1, l.2.1.drop 1, ()) := by
  obtain ⟨sh, xs, u⟩ := l
  cases xs with
  | nil => simp at hn
  | cons x xs =>
    refine ⟨by unfold claims.head; rw [if_pos ⟨h, by simp⟩], ?_⟩
    unfold claims.leave
    rw [if_pos ⟨h, by simp⟩]
    simp [ixf]
theorem sent_eq (c : Ch) (hs : Small c) (ok : Ok c) (hn : 0 < c.2.2.2.1.2.1.length) : channel_sent c = some ((c.1, c.2.1, c.2.2.1, (c.2.2.2.1.1, c.2.2.2.1.2.1.drop 1, ()), c.2.2.2.2.1.drop 1, c.2.2.2.2.2.1, ()), c.2.2.2.1.2.1.getD 0 0, c.2.2.2.2.1.getD 0 0, ()) := by
  have := hs.b; have := hs.d; have hl := ok.len
  obtain ⟨h1, h2⟩ := first_goes ok.out hn
  unfold channel_sent
  rw [claims.head_eq _ (by omega)]
  simp only [Option.bind_some]
  rw [chk_pos ⟨by omega, by omega⟩, h1, claims.leave_eq _ _ (by omega), without_eq _ _ (by omega) (by omega) (by omega)]
  simp only [Option.bind_some]
  rw [h2]
  simp
theorem got_eq (c : Ch) (h : claims.fine c.2.2.2.2.2.1 = true) (hn : 0 < c.2.2.2.2.2.1.2.1.length) (hl : c.2.2.2.2.2.1.2.1.length ≤ 1000) : channel_got c = some ((c.1, c.2.1, c.2.2.1, c.2.2.2.1, c.2.2.2.2.1, (c.2.2.2.2.2.1.1, c.2.2.2.2.2.1.2.1.drop 1, ()), ()), c.2.2.2.2.2.1.2.1.getD 0 0, ()) := by
  obtain ⟨h1, h2⟩ := first_goes h hn
  unfold channel_got
  rw [claims.head_eq _ (by omega)]
  simp only [Option.bind_some]
  rw [h1, claims.leave_eq _ _ (by omega)]
  simp only [Option.bind_some]
  rw [h2]
theorem may1 {c : Ch} (h : mayB c 1 = true) : 0 < c.2.2.2.1.2.1.length ∧ 0 < c.2.2.2.2.2.1.2.1.length := by
  unfold mayB at h
  simp at h
  omega
theorem may2 {c : Ch} (h : mayB c 2 = true) : 0 < c.2.2.2.1.2.1.length := by
  unfold mayB at h
  simp at h
  omega
theorem may3 {c : Ch} (h : mayB c 3 = true) : 0 < c.2.2.1.length ∧ 0 < c.2.2.2.2.2.1.2.1.length := by
  unfold mayB at h
  simp at h
  omega
theorem may_m {c : Ch} {m : Int} (h : mayB c m = true) : m = 1 ∨ m = 2 ∨ m = 3 := by
  by_cases h1 : m = 1
  · exact .inl h1
  · by_cases h2 : m = 2
    · exact .inr (.inl h2)
    · by_cases h3 : m = 3
      · exact .inr (.inr h3)
      · unfold mayB at h
        rw [decide_eq_false h1, decide_eq_false h2, decide_eq_false h3] at h
        cases h
theorem do_eq (c : Ch) (m : Int) (hs : Small c) : channel_Do c m = some (do_ c m) := by
  have := hs.a; have := hs.b; have := hs.d; have := hs.e
  unfold channel_Do do_
  rw [fine_eq c hs]
  simp only [Option.bind_some]
  cases hf : fine c with
  | false => rfl
  | true =>
    have ok := Ok.of hf
    have hl := ok.len
    simp only [Bool.not_true, cond_false, Bool.true_eq_false, if_false]
    rw [may_eq c m hs ok]
    simp only [Option.bind_some]
    cases hm : mayB c m with
    | false => rfl
    | true =>
      simp only [Bool.not_true, cond_false, Bool.true_eq_false, if_false]
      rcases may_m hm with rfl | rfl | rfl
      · obtain ⟨m1, m2⟩ := may1 hm
        rw [bnot_neg (by omega), sent_eq c hs ok m1]
        simp only [Option.bind_some]
        rw [bif_neg (by omega), bif_neg (by omega), got_eq (c.1, c.2.1, c.2.2.1, (c.2.2.2.1.1, c.2.2.2.1.2.1.drop 1, ()), c.2.2.2.2.1.drop 1, c.2.2.2.2.2.1, ()) ok.inn m2 hs.e, if_pos (by trivial)]; rfl
      · have m1 := may2 hm
        rw [bnot_neg (by omega), sent_eq c hs ok m1]
        simp only [Option.bind_some]
        rw [bif_pos (by trivial), behind_eq _ _ (show c.2.2.1.length ≤ 1000000 by omega), if_neg (by omega), if_pos (by trivial)]; rfl
      · obtain ⟨m1, m2⟩ := may3 hm
        rw [bnot_pos (by trivial), bif_neg (by omega), bif_pos (by trivial), chk_pos ⟨by omega, by omega⟩, without_eq _ _ (by omega) (by omega) (by omega)]
        simp only [Option.bind_some]
        rw [got_eq (c.1, c.2.1, c.2.2.1.take (0 : Int).toNat ++ c.2.2.1.drop ((0 : Int).toNat + 1), c.2.2.2.1, c.2.2.2.2.1, c.2.2.2.2.2.1, ()) ok.inn m2 hs.e, if_neg (by omega), if_neg (by omega)]
        simp
theorem rdo_eq (c : Ch) (m : Int) (hs : Small c) : R18_Do c m = some (do_ c m) := by
  have := hs.a; have := hs.b; have := hs.d; have := hs.e
  unfold R18_Do do_
  rw [rfine_eq c hs]
  simp only [Option.bind_some]
  cases hf : fine c with
  | false => rfl
  | true =>
    have ok := Ok.of hf
    have hl := ok.len
    have hw : (what c).length ≤ 3 := by
      unfold what
      split
      · simp
      · have := one_len c 1; have := one_len c 2; have := one_len c 3
        simp only [List.length_append]; omega
    simp only [Bool.not_true, cond_false, Bool.true_eq_false, if_false]
    rw [rwhat_eq c hs]
    simp only [Option.bind_some]
    rw [claims.at_eq _ _ (by omega)]
    simp only [Option.bind_some]
    cases hm : mayB c m with
    | false => rw [bif_pos (by rw [ixf_not (fun h => by rw [(mem_what hf m).1 h] at hm; cases hm)]; omega)]; rfl
    | true =>
      have := ixf_ge.2 ((mem_what hf m).2 hm)
      rw [bif_neg (by omega)]
      simp only [Bool.true_eq_false, if_false]
      rcases may_m hm with rfl | rfl | rfl
      · obtain ⟨m1, m2⟩ := may1 hm
        rw [bif_pos (by trivial), chk_pos (by omega), chk_pos (by omega), chk_pos (by omega), chk_pos (by omega), bif_neg (by omega), bif_neg (by omega), bif_pos (by trivial), chk_pos (by omega), chk_pos (by omega), if_pos (by trivial)]
        simp
      · have m1 := may2 hm
        rw [bif_neg (by omega), bif_pos (by trivial), chk_pos (by omega), chk_pos (by omega), chk_pos (by omega), chk_pos (by omega), bif_pos (by trivial), chk_pos (by omega), chk_pos (by simp; omega)]
        simp only [letv_eq]
        rw [bif_neg (by omega), bif_neg (by omega), bif_neg (by omega), if_neg (by omega), if_pos (by trivial)]
        simp
      · obtain ⟨m1, m2⟩ := may3 hm
        rw [bif_neg (by omega), bif_neg (by omega), bif_neg (by omega), bif_pos (by trivial), chk_pos (by omega), chk_pos (by omega), bif_neg (by omega), bif_pos (by trivial), chk_pos (by omega), chk_pos (by omega), if_neg (by omega), if_neg (by omega)]
        simp
end channel
end Go.Proofs.YtbkccpddkpclaaaV
/- What the functions of chantab and of becketref19 answer. -/
namespace Go.Proofs.YtbkccpddkpclaaaV
set_option linter.unusedVariables false
set_option linter.unusedSimpArgs false
open Go.RowKit lists channel
namespace chantab
def newT : List Conf → Int → List Ch → List Ch × Int × Int × Unit
  | [], _, acc => (acc, 0, 0, ())
  | f :: fs, i, acc => if (new f).2.1 = 0 then newT fs (i + 1) (acc ++ [(new f).1]) else ([], i, (new f).2.1, ())
def newR (l : List Conf) : List Ch × Int × Int × Unit := if (l.length : Int) > 8 then ([], 8, 5, ()) else newT l 0 []
theorem new_eq (l : List Conf) : chantab_New l = some (newR l) := by
  unfold chantab_New newR
  by_cases h : (l.length : Int) > 8
  · rw [bif_pos h, if_pos h]
  · rw [bif_neg h, if_neg h]
    refine (loop_up (fun x => x.1) l.length (fun x : Int × List Ch => 0 ≤ x.1 ∧ (x.2.length : Int) ≤ x.1) (fun x => some (newT (l.drop x.1.toNat) x.1 x.2)) ⟨by simp, by simp⟩ (by simp; omega) ?_).trans (by simp)
    rintro k ⟨i, acc⟩ ⟨i0, i1⟩ hk
    simp only at i0 i1
    unfold chantab_New_L1
    simp only
    by_cases hi : i < (l.length : Int)
    · have hk := hk hi
      rw [bif_pos hi, chk_at i0 hi, drop_at (d := (0, 0, 0, 0, ())) i0 hi, channel.new_eq, newT]
      simp only [Option.bind_some]
      generalize l.getD i.toNat (0, 0, 0, 0, ()) = f
      by_cases hf : (new f).2.1 = 0
      · rw [bnot_pos hf, if_pos hf, chk_pos (by simp; omega), w64 (by omega) (by omega), hk (i + 1, acc ++ [(new f).1]) ⟨by simp only; omega, by simp; omega⟩ rfl]
      · rw [bnot_neg hf, if_neg hf]
    · rw [bif_neg hi, drop_end hi]; rfl
theorem rnew_eq (l : List Conf) : R19_New l = some (newR l) := by
  unfold R19_New newR
  by_cases h : (l.length : Int) > 8
  · rw [bif_pos h, if_pos h]
  · rw [bif_neg h, if_neg h]
    refine (loop_up (fun x => x.1) l.length (fun x : Int × List Ch => 0 ≤ x.1 ∧ (x.2.length : Int) ≤ x.1) (fun x => some (newT (l.drop x.1.toNat) x.1 x.2)) ⟨by simp, by simp⟩ (by simp; omega) ?_).trans (by simp)
    rintro k ⟨i, acc⟩ ⟨i0, i1⟩ hk
    simp only at i0 i1
    unfold R19_New_L1
    simp only
    by_cases hi : i < (l.length : Int)
    · have hk := hk hi
      rw [bif_pos hi, chk_at i0 hi, drop_at (d := (0, 0, 0, 0, ())) i0 hi, channel.rnew_eq, newT]
      simp only [Option.bind_some]
      generalize l.getD i.toNat (0, 0, 0, 0, ()) = f
      by_cases hf : (new f).2.1 = 0
      · rw [bnot_pos hf, if_pos hf, chk_pos (by simp; omega), w64 (by omega) (by omega), hk (i + 1, acc ++ [(new f).1]) ⟨by simp only; omega, by simp; omega⟩ rfl]
      · rw [bnot_neg hf, if_neg hf]
    · rw [bif_neg hi, drop_end hi]; rfl
theorem newT_all (P : Ch → Prop) (hP : ∀ f, P (new f).1) : ∀ (l : List Conf) (i : Int) (acc : List Ch), (∀ c ∈ acc, P c) → ∀ c ∈ (newT l i acc).1, P c
  | [], _, acc, h => h
  | f :: fs, i, acc, h => by
    unfold newT
    split
    · refine newT_all P hP fs _ _ fun c hc => ?_
      rcases List.mem_append.1 hc with hc | hc
      · exact h c hc
      · rw [List.mem_singleton.1 hc]; exact hP f
    · intro c hc; cases hc
theorem newT_len : ∀ (l : List Conf) (i : Int) (acc : List Ch), (newT l i acc).1.length ≤ acc.length + l.length
  | [], _, acc => by simp [newT]
  | f :: fs, i, acc => by
    unfold newT
    split
    · have := newT_len fs (i + 1) (acc ++ [(new f).1])
      simp at this ⊢; omega
    · simp
/-- A table that is small. -/
structure Tab (t : List Ch) : Prop where
  len : t.length ≤ 10
  all : ∀ c ∈ t, Small c
theorem Tab.at_ {t : List Ch} (h : Tab t) {i : Int} (h0 : 0 ≤ i) (hi : i < (t.length : Int)) : Small (t.getD i.toNat ((0, 0, 0, 0, ()), 0, [], (false, [], ()), [], (false, [], ()), ())) := h.all _ (getD_mem h0 hi)
theorem what_len (c : Ch) : (what c).length ≤ 3 := by
  unfold what
  split
  · simp
  · have := one_len c 1; have := one_len c 2; have := one_len c 3
    simp only [List.length_append]; omega
def movesF : List Ch → Int → List (Int × Int × Unit)
  | [], _ => []
  | c :: cs, i => (what c).map (fun m => (i, m, ())) ++ movesF cs (i + 1)
theorem inner (r1 : List Int) (hr : r1.length ≤ 3) (n i : Int) (acc : List (Int × Int × Unit)) (hi : i ≤ 10) (ha : (acc.length : Int) ≤ 3 * i) (hi0 : 0 ≤ i) (k1 : (Int × Int × List (Int × Int × Unit)) → Option (List (Int × Int × Unit))) :
    loop (chantab_Moves_L1 (r1.length : Int) r1 (n, i, acc) k1) (0, acc) = k1 (n, i + 1, acc ++ r1.map (fun m => (i, m, ()))) := by
  refine (loop_up (fun x => x.1) r1.length (fun x : Int × List (Int × Int × Unit) => 0 ≤ x.1 ∧ (x.2.length : Int) ≤ 3 * i + x.1) (fun x => k1 (n, i + 1, x.2 ++ (r1.drop x.1.toNat).map (fun m => (i, m, ())))) ⟨by simp, by simp; omega⟩ (by simp; omega) ?_).trans (by simp)
  rintro k ⟨j, b⟩ ⟨j0, j1⟩ hk
  simp only at j0 j1
  unfold chantab_Moves_L1
  simp only
  by_cases hj : j < (r1.length : Int)
  · have hk := hk hj
    rw [bif_pos hj, chk_at j0 hj, chk_pos (by simp; omega), letv_eq, w64 (by omega) (by omega), drop_at (d := 0) j0 hj, hk (j + 1, b ++ [(i, r1.getD j.toNat 0, ())]) ⟨by simp only; omega, by simp; omega⟩ rfl]
    simp
  · rw [bif_neg hj, drop_end hj]
    unfold chantab_Moves_J3 chantab_Moves_J2
    simp only
    rw [w64 (by omega) (by omega)]
    simp
theorem rinner (r1 : List Int) (hr : r1.length ≤ 3) (i : Int) (acc : List (Int × Int × Unit)) (hi : i ≤ 10) (ha : (acc.length : Int) ≤ 3 * i) (hi0 : 0 ≤ i) (k1 : (Int × List (Int × Int × Unit)) → Option (List (Int × Int × Unit))) :
    loop (R19_Moves_L1 r1 (i, acc) k1) (0, acc) = k1 (i + 1, acc ++ r1.map (fun m => (i, m, ()))) := by
  refine (loop_up (fun x => x.1) r1.length (fun x : Int × List (Int × Int × Unit) => 0 ≤ x.1 ∧ (x.2.length : Int) ≤ 3 * i + x.1) (fun x => k1 (i + 1, x.2 ++ (r1.drop x.1.toNat).map (fun m => (i, m, ())))) ⟨by simp, by simp; omega⟩ (by simp; omega) ?_).trans (by simp)
  rintro k ⟨j, b⟩ ⟨j0, j1⟩ hk
  simp only at j0 j1
  unfold R19_Moves_L1
  simp only
  by_cases hj : j < (r1.length : Int)
  · have hk := hk hj
    rw [bif_pos hj, chk_at j0 hj, chk_pos (by simp; omega), letv_eq, w64 (by omega) (by omega), drop_at (d := 0) j0 hj, hk (j + 1, b ++ [(i, r1.getD j.toNat 0, ())]) ⟨by simp only; omega, by simp; omega⟩ rfl]
    simp
  · rw [bif_neg hj, drop_end hj]
    unfold R19_Moves_J3 R19_Moves_J2
    simp only
    rw [w64 (by omega) (by omega)]
    simp
theorem moves_eq (t : List Ch) (h : Tab t) : chantab_Moves t = some (movesF t 0) := by
  have hl := h.len
  unfold chantab_Moves
  refine (loop_up (fun x => x.2.1) t.length (fun x : Int × Int × List (Int × Int × Unit) => 0 ≤ x.2.1 ∧ (x.2.2.length : Int) ≤ 3 * x.2.1 ∧ x.1 = t.length) (fun x => some (x.2.2 ++ movesF (t.drop x.2.1.toNat) x.2.1)) ⟨by simp, by simp, rfl⟩ (by simp; omega) ?_).trans (by simp)
  rintro k ⟨n, i, acc⟩ ⟨i0, i1, i2⟩ hk
  simp only at i0 i1 i2
  subst i2
  unfold chantab_Moves_L2
  simp only
  by_cases hi : i < (t.length : Int)
  · have hk := hk hi
    rw [bif_pos hi, chk_at i0 hi, what_eq _ (h.at_ i0 hi)]
    simp only [Option.bind_some]
    have hw := what_len (t.getD i.toNat ((0, 0, 0, 0, ()), 0, [], (false, [], ()), [], (false, [], ()), ()))
    rw [inner _ hw _ _ _ (by omega) i1 i0, drop_at (d := ((0, 0, 0, 0, ()), 0, [], (false, [], ()), [], (false, [], ()), ())) i0 hi, movesF, hk (_, i + 1, _) ⟨by simp only; omega, by simp only [List.length_append, List.length_map]; omega, rfl⟩ rfl]
    simp
  · rw [bif_neg hi, drop_end hi]
    simp [movesF, chantab_Moves_J1]
theorem rmoves_eq (t : List Ch) (h : Tab t) : R19_Moves t = some (movesF t 0) := by
  have hl := h.len
  unfold R19_Moves
  refine (loop_up (fun x => x.1) t.length (fun x : Int × List (Int × Int × Unit) => 0 ≤ x.1 ∧ (x.2.length : Int) ≤ 3 * x.1) (fun x => some (x.2 ++ movesF (t.drop x.1.toNat) x.1)) ⟨by simp, by simp⟩ (by simp; omega) ?_).trans (by simp)
  rintro k ⟨i, acc⟩ ⟨i0, i1⟩ hk
  simp only at i0 i1
  unfold R19_Moves_L2
  simp only
  by_cases hi : i < (t.length : Int)
  · have hk := hk hi
    rw [bif_pos hi, chk_at i0 hi, rwhat_eq _ (h.at_ i0 hi)]
    simp only [Option.bind_some]
    have hw := what_len (t.getD i.toNat ((0, 0, 0, 0, ()), 0, [], (false, [], ()), [], (false, [], ()), ()))
    rw [rinner _ hw _ _ (by omega) i1 i0, drop_at (d := ((0, 0, 0, 0, ()), 0, [], (false, [], ()), [], (false, [], ()), ())) i0 hi, movesF, hk (i + 1, _) ⟨by simp only; omega, by simp only [List.length_append, List.length_map]; omega⟩ rfl]
    simp
  · rw [bif_neg hi, drop_end hi]
    simp [movesF, R19_Moves_J1]
def hitsF (p : Int) : List Ch → Int → List Int
  | [], _ => []
  | c :: cs, i => if hitP c p = true then i :: hitsF p cs (i + 1) else hitsF p cs (i + 1)
theorem hits_len (p : Int) : ∀ (t : List Ch) (i : Int), (hitsF p t i).length ≤ t.length
  | [], _ => by simp [hitsF]
  | c :: cs, i => by
    have := hits_len p cs (i + 1)
    unfold hitsF
    split <;> simp <;> omega
theorem hits_eq (t : List Ch) (p : Int) (h : Tab t) : chantab_Hits t p = some (hitsF p t 0) := by
  have hl := h.len
  unfold chantab_Hits
  refine (loop_up (fun x => x.1) t.length (fun x : Int × List Int => 0 ≤ x.1 ∧ (x.2.length : Int) ≤ x.1) (fun x => some (x.2 ++ hitsF p (t.drop x.1.toNat) x.1)) ⟨by simp, by simp⟩ (by simp; omega) ?_).trans (by simp)
  rintro k ⟨i, acc⟩ ⟨i0, i1⟩ hk
  simp only at i0 i1
  unfold chantab_Hits_L1
  simp only
  by_cases hi : i < (t.length : Int)
  · have hk := hk hi
    rw [bif_pos hi, chk_at i0 hi, hitP_eq _ _ (h.at_ i0 hi), drop_at (d := ((0, 0, 0, 0, ()), 0, [], (false, [], ()), [], (false, [], ()), ())) i0 hi, hitsF, w64 (by omega) (by omega)]
    simp only [Option.bind_some]
    rw [chk_pos (by simp; omega), hk (i + 1, acc ++ [i]) ⟨by simp only; omega, by simp; omega⟩ rfl, hk (i + 1, acc) ⟨by simp only; omega, by simp only; omega⟩ rfl]
    cases hitP (t.getD i.toNat ((0, 0, 0, 0, ()), 0, [], (false, [], ()), [], (false, [], ()), ())) p <;> simp
  · rw [bif_neg hi, drop_end hi]
    simp [hitsF, chantab_Hits_J1]
theorem rhits_eq (t : List Ch) (p : Int) (h : Tab t) : R19_Hits t p = some (hitsF p t 0) := by
  have hl := h.len
  unfold R19_Hits
  refine (loop_up (fun x => x.1) t.length (fun x : Int × List Int => 0 ≤ x.1 ∧ (x.2.length : Int) ≤ x.1) (fun x => some (x.2 ++ hitsF p (t.drop x.1.toNat) x.1)) ⟨by simp, by simp⟩ (by simp; omega) ?_).trans (by simp)
  rintro k ⟨i, acc⟩ ⟨i0, i1⟩ hk
  simp only at i0 i1
  unfold R19_Hits_L1
  simp only
  by_cases hi : i < (t.length : Int)
  · have hk := hk hi
    rw [bif_pos hi, chk_at i0 hi, rhitP_eq _ _ (h.at_ i0 hi), drop_at (d := ((0, 0, 0, 0, ()), 0, [], (false, [], ()), [], (false, [], ()), ())) i0 hi, hitsF, w64 (by omega) (by omega)]
    simp only [Option.bind_some]
    rw [chk_pos (by simp; omega), hk (i + 1, acc ++ [i]) ⟨by simp only; omega, by simp; omega⟩ rfl, hk (i + 1, acc) ⟨by simp only; omega, by simp only; omega⟩ rfl]
    cases hitP (t.getD i.toNat ((0, 0, 0, 0, ()), 0, [], (false, [], ()), [], (false, [], ()), ())) p <;> simp
  · rw [bif_neg hi, drop_end hi]
    simp [hitsF, R19_Hits_J1]
theorem twin_eq (t : List Ch) : t.take (List.replicate (t.length : Int).toNat (((0, 0, 0, 0, ()), 0, [], (false, [], ()), [], (false, [], ()), ()) : Ch)).length ++ (List.replicate (t.length : Int).toNat (((0, 0, 0, 0, ()), 0, [], (false, [], ()), [], (false, [], ()), ()) : Ch)).drop t.length = t := by
  rw [List.length_replicate, Int.toNat_natCast, List.take_of_length_le (Nat.le_refl _), List.drop_of_length_le (by simp)]
  simp
theorem set_split {t : List Ch} {i : Int} {x : Ch} (h0 : 0 ≤ i) (hi : i < (t.length : Int)) : (t.set i.toNat x).take (i + 1).toNat = t.take i.toNat ++ [x] ∧ (t.set i.toNat x).drop (i + 1).toNat = t.drop (i + 1).toNat := by
  rw [show (i + 1).toNat = i.toNat + 1 by omega]
  refine ⟨?_, by rw [List.drop_set]; simp⟩
  rw [List.take_succ_eq_append_getElem (by simp; omega), List.getElem_set_self, List.take_set_of_le (Nat.le_refl _)]
theorem leave_all (t : List Ch) (p : Int) (h : Tab t) : chantab_Leave t p = some (t.map fun c => leave c p) := by
  have hl := h.len
  unfold chantab_Leave
  rw [chk_pos ⟨rfl, by omega, by omega⟩, letv_eq, twin_eq]
  refine (loop_up (fun x => x.1) t.length (fun x : Int × List Ch => 0 ≤ x.1 ∧ x.2.length = t.length ∧ ∀ c ∈ x.2.drop x.1.toNat, Small c) (fun x => some (x.2.take x.1.toNat ++ (x.2.drop x.1.toNat).map fun c => leave c p)) ⟨by simp, rfl, fun c hc => h.all c (by simpa using hc)⟩ (by simp; omega) ?_).trans (by simp)
  rintro k ⟨i, b⟩ ⟨i0, i1, i2⟩ hk
  simp only at i0 i1 i2
  unfold chantab_Leave_L1
  simp only
  by_cases hi : i < (t.length : Int)
  · have hk := hk hi
    have hib : i < (b.length : Int) := by omega
    rw [drop_at (d := ((0, 0, 0, 0, ()), 0, [], (false, [], ()), [], (false, [], ()), ())) i0 hib] at i2
    rw [bif_pos hi, chk_at i0 hib, leave_eq _ _ (i2 _ List.mem_cons_self), drop_at (d := ((0, 0, 0, 0, ()), 0, [], (false, [], ()), [], (false, [], ()), ())) i0 hib]
    simp only [Option.bind_some]
    obtain ⟨s1, s2⟩ := set_split (x := leave (b.getD i.toNat ((0, 0, 0, 0, ()), 0, [], (false, [], ()), [], (false, [], ()), ())) p) i0 hib
    rw [chk_at i0 hib, w64 (by omega) (by omega), hk (i + 1, b.set i.toNat (leave (b.getD i.toNat ((0, 0, 0, 0, ()), 0, [], (false, [], ()), [], (false, [], ()), ())) p)) ⟨by simp only; omega, by simp [i1], fun c hc => i2 c (List.mem_cons_of_mem _ (by simp only at hc; rw [s2] at hc; exact hc))⟩ rfl]
    simp only
    rw [s1, s2]
    simp
  · rw [bif_neg hi, drop_end (by omega), List.take_of_length_le (by omega)]
    simp [chantab_Leave_J1]
theorem put_eq (t : List Ch) (i : Int) (x : Ch) (h0 : 0 ≤ i) (hi : i < (t.length : Int)) (hl : t.length ≤ 1000000) : R19_put t i x = some (t.set i.toNat x) := by
  unfold R19_put
  rw [chk_pos (by omega), chk_pos ⟨h0, hi⟩]
theorem rleave_all (t : List Ch) (p : Int) (h : Tab t) : R19_Leave t p = some (t.map fun c => leave c p) := by
  have hl := h.len
  unfold R19_Leave
  refine (loop_up (fun x => x.2) t.length (fun x : List Ch × Int => 0 ≤ x.2 ∧ x.1.length = t.length ∧ ∀ c ∈ x.1.drop x.2.toNat, Small c) (fun x => some (x.1.take x.2.toNat ++ (x.1.drop x.2.toNat).map fun c => leave c p)) ⟨by simp, rfl, fun c hc => h.all c (by simpa using hc)⟩ (by simp; omega) ?_).trans (by simp)
  rintro k ⟨b, i⟩ ⟨i0, i1, i2⟩ hk
  simp only at i0 i1 i2
  unfold R19_Leave_L1
  simp only
  by_cases hi : i < (t.length : Int)
  · have hk := hk hi
    have hib : i < (b.length : Int) := by omega
    rw [drop_at (d := ((0, 0, 0, 0, ()), 0, [], (false, [], ()), [], (false, [], ()), ())) i0 hib] at i2
    rw [bif_pos hib, chk_at i0 hib, rleave_eq _ _ (i2 _ List.mem_cons_self), drop_at (d := ((0, 0, 0, 0, ()), 0, [], (false, [], ()), [], (false, [], ()), ())) i0 hib]
    simp only [Option.bind_some]
    obtain ⟨s1, s2⟩ := set_split (x := leave (b.getD i.toNat ((0, 0, 0, 0, ()), 0, [], (false, [], ()), [], (false, [], ()), ())) p) i0 hib
    rw [put_eq _ _ _ i0 hib (by omega), w64 (by omega) (by omega)]
    simp only [Option.bind_some]
    rw [hk (b.set i.toNat (leave (b.getD i.toNat ((0, 0, 0, 0, ()), 0, [], (false, [], ()), [], (false, [], ()), ())) p), i + 1) ⟨by simp only; omega, by simp [i1], fun c hc => i2 c (List.mem_cons_of_mem _ (by simp only at hc; rw [s2] at hc; exact hc))⟩ rfl]
    simp only
    rw [s1, s2]
    simp
  · rw [bif_neg (by omega), drop_end (by omega), List.take_of_length_le (by omega)]
    simp [R19_Leave_J1]
theorem is_eq (t : List Ch) (i : Int) : chantab_is t i = some (decide (0 ≤ i ∧ i < (t.length : Int))) := by
  unfold chantab_is
  by_cases h : i ≥ 0
  · rw [bif_pos h]; congr 1; rw [decide_eq_decide]; omega
  · rw [bif_neg h, decide_eq_false (by omega)]
theorem ris_eq (t : List Ch) (i : Int) : R19_Is t i = some (decide (0 ≤ i ∧ i < (t.length : Int))) := by
  unfold R19_Is
  by_cases h : i ≥ 0
  · rw [bif_pos h]; congr 1; rw [decide_eq_decide]; omega
  · rw [bif_neg h, decide_eq_false (by omega)]
def poisonT (t : List Ch) (i v : Int) : List Ch × Int × Unit :=
  if 0 ≤ i ∧ i < (t.length : Int) then
    if (poison (t.getD i.toNat ((0, 0, 0, 0, ()), 0, [], (false, [], ()), [], (false, [], ()), ())) v).2.1 = 0 then (t.set i.toNat (poison (t.getD i.toNat ((0, 0, 0, 0, ()), 0, [], (false, [], ()), [], (false, [], ()), ())) v).1, 0, ()) else (t, (poison (t.getD i.toNat ((0, 0, 0, 0, ()), 0, [], (false, [], ()), [], (false, [], ()), ())) v).2.1, ())
  else (t, 8, ())
theorem poisonT_eq (t : List Ch) (i v : Int) (h : Tab t) : chantab_Poison t i v = some (poisonT t i v) := by
  have hl := h.len
  unfold chantab_Poison poisonT
  rw [is_eq]
  simp only [Option.bind_some]
  by_cases hi : 0 ≤ i ∧ i < (t.length : Int)
  · rw [decide_eq_true hi, if_pos hi, chk_pos hi, poison_eq _ _ (h.at_ hi.1 hi.2)]
    simp only [Option.bind_some, Bool.not_true, cond_false]
    by_cases hp : (poison (t.getD i.toNat ((0, 0, 0, 0, ()), 0, [], (false, [], ()), [], (false, [], ()), ())) v).2.1 = 0
    · rw [bnot_pos hp, if_pos hp, chk_pos ⟨trivial, by omega, by omega⟩, letv_eq, twin_eq, chk_pos hi, letv_eq]
    · rw [bnot_neg hp, if_neg hp]
  · rw [decide_eq_false hi, if_neg hi]; rfl
theorem rpoisonT_eq (t : List Ch) (i v : Int) (h : Tab t) : R19_Poison t i v = some (poisonT t i v) := by
  have hl := h.len
  unfold R19_Poison poisonT
  rw [ris_eq]
  simp only [Option.bind_some]
  by_cases hi : 0 ≤ i ∧ i < (t.length : Int)
  · rw [decide_eq_true hi, if_pos hi, chk_pos hi, rpoison_eq _ _ (h.at_ hi.1 hi.2)]
    simp only [Option.bind_some, Bool.not_true, cond_false]
    by_cases hp : (poison (t.getD i.toNat ((0, 0, 0, 0, ()), 0, [], (false, [], ()), [], (false, [], ()), ())) v).2.1 = 0
    · rw [bnot_pos hp, if_pos hp, put_eq _ _ _ hi.1 hi.2 (by omega)]; rfl
    · rw [bnot_neg hp, if_neg hp]
  · rw [decide_eq_false hi, if_neg hi]; rfl
def doT (t : List Ch) (i m : Int) : List Ch × (Int × Int × Int × Unit) × Int × Unit :=
  if 0 ≤ i ∧ i < (t.length : Int) then
    if (do_ (t.getD i.toNat ((0, 0, 0, 0, ()), 0, [], (false, [], ()), [], (false, [], ()), ())) m).2.2.1 = 0 then (t.set i.toNat (do_ (t.getD i.toNat ((0, 0, 0, 0, ()), 0, [], (false, [], ()), [], (false, [], ()), ())) m).1, (do_ (t.getD i.toNat ((0, 0, 0, 0, ()), 0, [], (false, [], ()), [], (false, [], ()), ())) m).2.1, 0, ()) else (t, (do_ (t.getD i.toNat ((0, 0, 0, 0, ()), 0, [], (false, [], ()), [], (false, [], ()), ())) m).2.1, (do_ (t.getD i.toNat ((0, 0, 0, 0, ()), 0, [], (false, [], ()), [], (false, [], ()), ())) m).2.2.1, ())
  else (t, (0, 0, 0, ()), 8, ())
theorem doT_eq (t : List Ch) (i m : Int) (h : Tab t) : chantab_Do t (i, m, ()) = some (doT t i m) := by
  have hl := h.len
  unfold chantab_Do doT
  simp only
  rw [is_eq]
  simp only [Option.bind_some]
  by_cases hi : 0 ≤ i ∧ i < (t.length : Int)
  · rw [decide_eq_true hi, if_pos hi, chk_pos hi, do_eq _ _ (h.at_ hi.1 hi.2)]
    simp only [Option.bind_some, Bool.not_true, cond_false]
    by_cases hp : (do_ (t.getD i.toNat ((0, 0, 0, 0, ()), 0, [], (false, [], ()), [], (false, [], ()), ())) m).2.2.1 = 0
    · rw [bnot_pos hp, if_pos hp, chk_pos ⟨trivial, by omega, by omega⟩, letv_eq, twin_eq, chk_pos hi, letv_eq]
    · rw [bnot_neg hp, if_neg hp]
  · rw [decide_eq_false hi, if_neg hi]; rfl
theorem rdoT_eq (t : List Ch) (i m : Int) (h : Tab t) : R19_Do t (i, m, ()) = some (doT t i m) := by
  have hl := h.len
  unfold R19_Do doT
  simp only
  rw [ris_eq]
  simp only [Option.bind_some]
  by_cases hi : 0 ≤ i ∧ i < (t.length : Int)
  · rw [decide_eq_true hi, if_pos hi, chk_pos hi, rdo_eq _ _ (h.at_ hi.1 hi.2)]
    simp only [Option.bind_some, Bool.not_true, cond_false]
    by_cases hp : (do_ (t.getD i.toNat ((0, 0, 0, 0, ()), 0, [], (false, [], ()), [], (false, [], ()), ())) m).2.2.1 = 0
    · rw [bnot_pos hp, if_pos hp, put_eq _ _ _ hi.1 hi.2 (by omega)]; rfl
    · rw [bnot_neg hp, if_neg hp]
  · rw [decide_eq_false hi, if_neg hi]; rfl
end chantab
end Go.Proofs.YtbkccpddkpclaaaV
/- The laws of channel. -/
namespace Go.Proofs.YtbkccpddkpclaaaV
set_option linter.unusedVariables false
set_option linter.unusedSimpArgs false
open Go.RowKit lists channel
namespace L18
structure Big (c : Ch) : Prop where
  a : c.2.2.1.length ≤ 1000000
  b : c.2.2.2.1.2.1.length ≤ 1000000
  d : c.2.2.2.2.1.length ≤ 1000000
  e : c.2.2.2.2.2.1.2.1.length ≤ 1000000
theorem same_self (c : Ch) (h : Big c) : L18_Same c c = some true := by
  have := h.a; have := h.b; have := h.d; have := h.e
  unfold L18_Same
  rw [same_eq _ _ (by omega), same_eq _ _ (by omega), same_eq _ _ (by omega), same_eq _ _ (by omega)]
  simp
theorem join_len (c : claims.Line) (p : Int) : (claims.join c p).1.2.1.length ≤ c.2.1.length + 1 := by
  unfold claims.join
  repeat' split
  all_goals simp
theorem leave_len (c : claims.Line) (p : Int) : (claims.leave c p).1.2.1.length ≤ c.2.1.length := by
  unfold claims.leave
  split
  · simp; omega
  · simp
theorem big {c : Ch} (h : Small c) : Big c := ⟨by have := h.a; omega, by have := h.b; omega, by have := h.d; omega, by have := h.e; omega⟩
theorem big_send {c : Ch} (h : Small c) (p v : Int) : Big (send c p v).1 := by
  have := h.a; have := h.b; have := h.d; have := h.e; have := join_len c.2.2.2.1 p
  unfold send
  repeat' split
  all_goals first | exact big h | exact ⟨by simp only; omega, by simp only; omega, by simp; omega, by simp only; omega⟩
theorem big_recv {c : Ch} (h : Small c) (p : Int) : Big (recv c p).1 := by
  have := h.a; have := h.b; have := h.d; have := h.e; have := join_len c.2.2.2.2.2.1 p
  unfold recv
  repeat' split
  all_goals first | exact big h | exact ⟨by simp only; omega, by simp only; omega, by simp only; omega, by simp only; omega⟩
theorem big_poison {c : Ch} (h : Small c) (v : Int) : Big (poison c v).1 := by
  have := h.a; have := h.b; have := h.d; have := h.e
  unfold poison
  repeat' split
  all_goals first | exact big h | exact ⟨by simp only; omega, by simp only; omega, by simp only; omega, by simp only; omega⟩
theorem big_leave {c : Ch} (h : Small c) (p : Int) : Big (leave c p) := by
  have := h.a; have := h.b; have := h.d; have := h.e; have := leave_len c.2.2.2.1 p; have := leave_len c.2.2.2.2.2.1 p
  unfold leave
  repeat' split
  all_goals first | exact big h | exact ⟨by simp only; omega, by simp only; omega, by simp; omega, by simp only; omega⟩
theorem big_new (f : Conf) : Big (new f).1 := by
  unfold new
  split <;> exact ⟨by simp, by simp, by simp, by simp⟩
theorem big_do {c : Ch} (h : Small c) (m : Int) : Big (do_ c m).1 := by
  have := h.a; have := h.b; have := h.d; have := h.e
  unfold do_
  repeat' split
  all_goals first | exact big h | exact ⟨by simp; omega, by simp; omega, by simp; omega, by simp; omega⟩
end L18
end Go.Proofs.YtbkccpddkpclaaaV
/- The laws of chantab. -/
namespace Go.Proofs.YtbkccpddkpclaaaV
set_option linter.unusedVariables false
set_option linter.unusedSimpArgs false
open Go.RowKit lists channel chantab L18
theorem alive19 : L19_alive = some true := by decide +kernel
namespace L19
def smallB (c : Ch) : Bool := !decide ((c.2.2.1.length : Int) > 20) && (!decide ((c.2.2.2.1.2.1.length : Int) > 20) && (!decide ((c.2.2.2.2.1.length : Int) > 20) && !decide ((c.2.2.2.2.2.1.2.1.length : Int) > 20)))
theorem smallB_of {c : Ch} (h : smallB c = true) : Small c := by
  unfold smallB at h
  simp at h
  exact ⟨by omega, by omega, by omega, by omega⟩
theorem small_some (t : List Ch) (hl : t.length ≤ 140737488355328) : L19_Small t = some (!decide ((t.length : Int) > 10) && t.all smallB) := by
  unfold L19_Small
  by_cases h : (t.length : Int) > 10
  · rw [bif_pos h, decide_eq_true h]; rfl
  · rw [bif_neg h, decide_eq_false h]
    refine (loop_up (fun j => j) t.length (fun j => 0 ≤ j) (fun j => some ((t.drop j.toNat).all smallB)) (by simp) (by simp; omega) ?_).trans (by simp)
    intro k j (h0 : 0 ≤ j) hk
    unfold L19_Small_L1
    by_cases hj : j < (t.length : Int)
    · have hk := hk hj (j + 1) (by omega) rfl
      rw [bif_pos hj, chk_at h0 hj, drop_at (d := ((0, 0, 0, 0, ()), 0, [], (false, [], ()), [], (false, [], ()), ())) h0 hj, w64 (by omega) (by omega), hk, List.all_cons]
      unfold smallB
      generalize decide (((t.getD j.toNat ((0, 0, 0, 0, ()), 0, [], (false, [], ()), [], (false, [], ()), ())).2.2.1.length : Int) > 20) = b1
      generalize decide (((t.getD j.toNat ((0, 0, 0, 0, ()), 0, [], (false, [], ()), [], (false, [], ()), ())).2.2.2.1.2.1.length : Int) > 20) = b2
      generalize decide (((t.getD j.toNat ((0, 0, 0, 0, ()), 0, [], (false, [], ()), [], (false, [], ()), ())).2.2.2.2.1.length : Int) > 20) = b3
      generalize decide (((t.getD j.toNat ((0, 0, 0, 0, ()), 0, [], (false, [], ()), [], (false, [], ()), ())).2.2.2.2.2.1.2.1.length : Int) > 20) = b4
      cases b1 <;> cases b2 <;> cases b3 <;> cases b4 <;> rfl
    · rw [bif_neg hj, drop_end hj]; rfl
theorem tab_of {t : List Ch} (h : (!decide ((t.length : Int) > 10) && t.all smallB) = true) : Tab t := by
  rw [Bool.and_eq_true] at h
  obtain ⟨h1, h2⟩ := h
  simp at h1
  exact ⟨by omega, fun c hc => smallB_of (List.all_eq_true.1 h2 c hc)⟩
theorem to_eq (t : List Ch) (hl : t.length ≤ 1000000) : L19_To t = some t := by
  unfold L19_To
  refine (loop_up (fun x => x.1) t.length (fun x : Int × List Ch => 0 ≤ x.1 ∧ (x.2.length : Int) ≤ x.1) (fun x => some (x.2 ++ t.drop x.1.toNat)) ⟨by simp, by simp⟩ (by simp; omega) ?_).trans (by simp)
  rintro k ⟨i, acc⟩ ⟨i0, i1⟩ hk
  simp only at i0 i1
  unfold L19_To_L1
  simp only
  by_cases hi : i < (t.length : Int)
  · have hk := hk hi
    rw [bif_pos hi, chk_at i0 hi]
    simp only [L18_To, Option.bind_some]
    rw [chk_pos (by simp; omega), w64 (by omega) (by omega), drop_at (d := ((0, 0, 0, 0, ()), 0, [], (false, [], ()), [], (false, [], ()), ())) i0 hi, hk (i + 1, acc ++ [t.getD i.toNat ((0, 0, 0, 0, ()), 0, [], (false, [], ()), [], (false, [], ()), ())]) ⟨by simp only; omega, by simp; omega⟩ rfl]
    simp
  · rw [bif_neg hi, drop_end hi]
    simp [L19_To_J1]
theorem from_eq (t : List Ch) (hl : t.length ≤ 1000000) : L19_From t = some t := by
  unfold L19_From
  refine (loop_up (fun x => x.1) t.length (fun x : Int × List Ch => 0 ≤ x.1 ∧ (x.2.length : Int) ≤ x.1) (fun x => some (x.2 ++ t.drop x.1.toNat)) ⟨by simp, by simp⟩ (by simp; omega) ?_).trans (by simp)
  rintro k ⟨i, acc⟩ ⟨i0, i1⟩ hk
  simp only at i0 i1
  unfold L19_From_L1
  simp only
  by_cases hi : i < (t.length : Int)
  · have hk := hk hi
    rw [bif_pos hi, chk_at i0 hi]
    simp only [L18_From, Option.bind_some]
    rw [chk_pos (by simp; omega), w64 (by omega) (by omega), drop_at (d := ((0, 0, 0, 0, ()), 0, [], (false, [], ()), [], (false, [], ()), ())) i0 hi, hk (i + 1, acc ++ [t.getD i.toNat ((0, 0, 0, 0, ()), 0, [], (false, [], ()), [], (false, [], ()), ())]) ⟨by simp only; omega, by simp; omega⟩ rfl]
    simp
  · rw [bif_neg hi, drop_end hi]
    simp [L19_From_J1]
theorem same_tab (t : List Ch) (hl : t.length ≤ 1000000) (h : ∀ c ∈ t, Big c) : L19_Same t t = some true := by
  unfold L19_Same
  rw [bnot_pos rfl]
  refine loop_up (fun j => j) t.length (fun j => 0 ≤ j) (fun j => some true) (by simp) (by simp; omega) ?_
  intro k j (h0 : 0 ≤ j) hk
  unfold L19_Same_L1
  by_cases hj : j < (t.length : Int)
  · have hk := hk hj (j + 1) (by omega) rfl
    rw [bif_pos hj, chk_at h0 hj, chk_at h0 hj, w64 (by omega) (by omega), hk, L18.same_self _ (h _ (getD_mem h0 hj))]
    rfl
  · rw [bif_neg hj]; rfl
theorem big_tab {t : List Ch} (h : Tab t) : ∀ c ∈ t, Big c := fun c hc => big (h.all c hc)
theorem big_set {t : List Ch} {i : Nat} {x : Ch} (h : ∀ c ∈ t, Big c) (hx : Big x) : ∀ c ∈ t.set i x, Big c := by
  intro c hc
  rcases List.mem_or_eq_of_mem_set hc with hc | rfl
  · exact h c hc
  · exact hx
theorem big_poisonT {t : List Ch} (h : Tab t) (i v : Int) : (∀ c ∈ (poisonT t i v).1, Big c) ∧ (poisonT t i v).1.length = t.length := by
  unfold poisonT
  split
  · rename_i hi
    split
    · exact ⟨big_set (big_tab h) (big_poison (h.at_ hi.1 hi.2) v), by simp⟩
    · exact ⟨big_tab h, rfl⟩
  · exact ⟨big_tab h, rfl⟩
theorem big_doT {t : List Ch} (h : Tab t) (i m : Int) : (∀ c ∈ (doT t i m).1, Big c) ∧ (doT t i m).1.length = t.length := by
  unfold doT
  split
  · rename_i hi
    split
    · exact ⟨big_set (big_tab h) (big_do (h.at_ hi.1 hi.2) m), by simp⟩
    · exact ⟨big_tab h, rfl⟩
  · exact ⟨big_tab h, rfl⟩
theorem tells (l : List Conf) (t : List Ch) (p : Int) (hl : t.length ≤ 140737488355328) : L19_ChantabTells l t p = some true := by
  unfold L19_ChantabTells
  rw [small_some t hl]
  simp only [Option.bind_some]
  cases hb : (!decide ((t.length : Int) > 10) && t.all smallB) with
  | false => rw [alive19]; rfl
  | true =>
    have ht := tab_of hb
    have h10 := ht.len
    simp only [Bool.not_true, cond_false]
    by_cases h20 : (l.length : Int) > 20
    · rw [bif_pos h20, alive19]; rfl
    · rw [bif_neg h20, chantab.new_eq, chantab.rnew_eq, to_eq t (by omega)]
      simp only [Option.bind_some]
      have hnl : (newR l).1.length ≤ 20 := by
        unfold newR
        split
        · simp
        · have := newT_len l 0 []
          simp at this; omega
      have hnb : ∀ c ∈ (newR l).1, Big c := by
        unfold newR
        split
        · intro c hc; cases hc
        · exact newT_all Big big_new l 0 [] (fun c hc => by cases hc)
      have hh := hits_len p t 0
      rw [moves_eq t ht, rmoves_eq t ht, from_eq _ (by omega), hits_eq t p ht, rhits_eq t p ht]
      simp only [Option.bind_some]
      rw [same_tab _ (by omega) hnb, same_eq _ _ (by omega)]
      simp only [Option.bind_some, Bool.not_true, cond_false, decide_true]
      have hm : (movesF t 0).length ≤ 140737488355328 := by
        have key : ∀ (cs : List Ch) (i : Int), (movesF cs i).length ≤ 3 * cs.length := by
          intro cs
          induction cs with
          | nil => intro i; simp [movesF]
          | cons c cs ih =>
            intro i
            have := ih (i + 1)
            have := what_len c
            simp [movesF]; omega
        have := key t 0
        omega
      generalize movesF t 0 = ms at hm
      refine loop_up (fun j => j) ms.length (fun j => 0 ≤ j) (fun j => some true) (by simp) (by simp; omega) ?_
      intro k j (h0 : 0 ≤ j) hk
      unfold L19_ChantabTells_L1
      by_cases hj : j < (ms.length : Int)
      · have hk := hk hj (j + 1) (by omega) rfl
        rw [bif_pos hj, chk_at h0 hj, chk_at h0 hj, w64 (by omega) (by omega), hk]
        simp
      · rw [bif_neg hj]
        unfold L19_ChantabTells_J1
        rw [alive19]; rfl
theorem acts (t : List Ch) (n : List Int) (hl : t.length ≤ 140737488355328) : L19_ChantabActs t n = some true := by
  unfold L19_ChantabActs
  rw [small_some t hl]
  simp only [Option.bind_some]
  cases hb : (!decide ((t.length : Int) > 10) && t.all smallB) with
  | false => rw [alive19]; rfl
  | true =>
    have ht := tab_of hb
    have h10 := ht.len
    simp only [Bool.not_true, cond_false]
    rw [to_eq t (by omega)]
    simp only [Option.bind_some]
    generalize n.getD (0 : Int).toNat 0 = n0
    generalize n.getD (1 : Int).toNat 0 = n1
    generalize n.getD (2 : Int).toNat 0 = n2
    have hp := big_poisonT ht n0 n1
    have hd := big_doT ht n0 n2
    have hlv : ∀ c ∈ t.map (fun c => leave c n1), Big c := by
      intro c hc
      obtain ⟨b, hb, rfl⟩ := List.mem_map.1 hc
      exact big_leave (ht.all b hb) n1
    rw [chk_pos (by omega), chk_pos (by omega), poisonT_eq t _ _ ht]
    simp only [Option.bind_some]
    rw [chk_pos (by omega), chk_pos (by omega), rpoisonT_eq t _ _ ht]
    simp only [Option.bind_some]
    rw [chk_pos (by omega), chk_pos (by omega), doT_eq t _ _ ht]
    simp only [Option.bind_some]
    rw [chk_pos (by omega), chk_pos (by omega), rdoT_eq t _ _ ht]
    simp only [Option.bind_some]
    rw [chk_pos (by omega), chk_pos (by omega), leave_all t _ ht, rleave_all t _ ht]
    simp only [Option.bind_some]
    rw [from_eq _ (by simp; omega), from_eq _ (by omega), from_eq _ (by omega)]
    simp only [Option.bind_some]
    rw [same_tab _ (by simp; omega) hlv, same_tab _ (by omega) hp.1, same_tab _ (by omega) hd.1, alive19]
    simp
end L19
namespace L19
abbrev G := Int × Int × Int × Int × Int × Unit
abbrev dC : Ch := ((0, 0, 0, 0, ()), 0, [], (false, [], ()), [], (false, [], ()), ())
theorem okW_app : ∀ (a b pre : List Int), claims.okW pre (a ++ b) = true → claims.okW (pre ++ a) b = true
  | [], b, pre, h => by simpa using h
  | x :: a, b, pre, h => by
    simp only [List.cons_append, claims.okW, Bool.and_eq_true] at h
    have := okW_app a b _ h.2
    simpa using this
theorem okW_out : ∀ (xs pre : List Int), claims.okW pre xs = true → ∀ x ∈ xs, x ∉ pre
  | [], _, _, x, hx => by cases hx
  | y :: xs, pre, h, x, hx => by
    simp only [claims.okW, Bool.and_eq_true, decide_eq_true_eq] at h
    rcases List.mem_cons.1 hx with rfl | hx
    · exact h.1.2.2
    · intro hm; exact okW_out xs _ h.2 x hx (List.mem_append_left _ hm)
theorem line_out {l : claims.Line} (p : Int) (h : claims.fine l = true) : p ∉ (claims.leave l p).1.2.1 := by
  unfold claims.leave
  by_cases hp : p ∈ l.2.1
  · rw [if_pos ⟨h, hp⟩]
    obtain ⟨a, b, h1, h2, h3⟩ := ixf_split hp 0
    simp only [h3]
    rw [show (0 + (a.length : Int)).toNat = a.length by omega]
    unfold claims.fine at h
    rw [Bool.and_eq_true] at h
    have h4 : claims.okW [] (a ++ p :: b) = true := by rw [← h1]; exact h.1
    have h5 := okW_app a (p :: b) [] h4
    simp only [claims.okW, Bool.and_eq_true] at h5
    have h6 : p ∉ b := fun hm => okW_out b _ h5.2 p hm (by simp)
    rw [h1, List.take_left', List.drop_append]
    · simp [h2, h6, List.drop_of_length_le (show a.length ≤ a.length + 1 by omega)]
    · rfl
  · rw [if_neg (fun h => hp h.2)]; exact hp
theorem who_out (c : Ch) (p : Int) (h : fine (leave c p) = true) : p ∉ (leave c p).2.2.2.1.2.1 ++ (leave c p).2.2.2.2.2.1.2.1 := by
  unfold leave at h ⊢
  cases hf : fine c with
  | false => rw [hf] at h; simp [hf] at h
  | true =>
    have ok := Ok.of hf
    rw [if_neg (by simp)]
    rw [List.mem_append, not_or]
    exact ⟨line_out p ok.out, line_out p ok.inn⟩
def put1 (b : List Ch) (o : Int) (r : Ch × Int × Unit) : List Ch × Int := (b.set o.toNat r.1, r.2.1)
def oneF (b : List Ch) (p : Int) (g : G) : List Ch × Int :=
  if ¬ (0 ≤ g.2.1 ∧ g.2.1 < (b.length : Int)) then (b, 8)
  else if g.1 = 2 then (if (b.getD g.2.1.toNat dC).2.2.2.1.1 = true then (b, 12) else put1 b g.2.1 (send (b.getD g.2.1.toNat dC) p g.2.2.1))
  else (if (b.getD g.2.1.toNat dC).2.2.2.2.2.1.1 = true then (b, 12) else put1 b g.2.1 (recv (b.getD g.2.1.toNat dC) p))
def offerF (t : List Ch) (p : Int) : List G → Int → List Ch → List Ch × Int × Int × Unit
  | [], _, b => (b, 0, 0, ())
  | g :: gs, i, b => if g.1 ≠ 1 ∧ g.1 ≠ 2 then offerF t p gs (i + 1) b else if (oneF b p g).2 = 0 then offerF t p gs (i + 1) (oneF b p g).1 else (t, i, (oneF b p g).2, ())
structure Sz (n : Nat) (c : Ch) : Prop where
  a : c.2.2.1.length ≤ n
  b : c.2.2.2.1.2.1.length ≤ n
  d : c.2.2.2.2.1.length ≤ n
  e : c.2.2.2.2.2.1.2.1.length ≤ n
theorem Sz.small {n : Nat} {c : Ch} (h : Sz n c) (hn : n ≤ 1000) : Small c := ⟨by have := h.a; omega, by have := h.b; omega, by have := h.d; omega, by have := h.e; omega⟩
theorem Sz.up {n m : Nat} {c : Ch} (h : Sz n c) (hn : n ≤ m) : Sz m c := ⟨by have := h.a; omega, by have := h.b; omega, by have := h.d; omega, by have := h.e; omega⟩
theorem sz_send {n : Nat} {c : Ch} (h : Sz n c) (p v : Int) : Sz (n + 1) (send c p v).1 := by
  have := h.a; have := h.b; have := h.d; have := h.e; have := L18.join_len c.2.2.2.1 p
  unfold send
  repeat' split
  all_goals first | exact h.up (by omega) | exact ⟨by simp only; omega, by simp only; omega, by simp; omega, by simp only; omega⟩
theorem sz_recv {n : Nat} {c : Ch} (h : Sz n c) (p : Int) : Sz (n + 1) (recv c p).1 := by
  have := h.a; have := h.b; have := h.d; have := h.e; have := L18.join_len c.2.2.2.2.2.1 p
  unfold recv
  repeat' split
  all_goals first | exact h.up (by omega) | exact ⟨by simp only; omega, by simp only; omega, by simp only; omega, by simp only; omega⟩
theorem sz_set {n : Nat} {b : List Ch} {i : Nat} {x : Ch} (h : ∀ c ∈ b, Sz n c) (hx : Sz n x) : ∀ c ∈ b.set i x, Sz n c := by
  intro c hc
  rcases List.mem_or_eq_of_mem_set hc with hc | rfl
  · exact h c hc
  · exact hx
theorem one_sz {n : Nat} {b : List Ch} {p : Int} {g : G} (h : ∀ c ∈ b, Sz n c) : (∀ c ∈ (oneF b p g).1, Sz (n + 1) c) ∧ (oneF b p g).1.length = b.length := by
  have hup : ∀ c ∈ b, Sz (n + 1) c := fun c hc => (h c hc).up (by omega)
  unfold oneF put1
  by_cases hi : 0 ≤ g.2.1 ∧ g.2.1 < (b.length : Int)
  · rw [if_neg (not_not_intro hi)]
    have hc := h _ (getD_mem (d := dC) hi.1 hi.2)
    repeat' split
    all_goals first | exact ⟨hup, rfl⟩ | exact ⟨sz_set hup (sz_send hc _ _), by simp⟩ | exact ⟨sz_set hup (sz_recv hc _), by simp⟩
  · rw [if_pos hi]; exact ⟨hup, rfl⟩
theorem offer_is (t : List Ch) (p : Int) : ∀ (l : List G) (i : Int) (b : List Ch) (n : Nat), (∀ c ∈ b, Sz n c) → b.length = t.length → (∀ c ∈ t, Sz n c) →
    ((offerF t p l i b).2.2.1 ≠ 0 → (offerF t p l i b).1 = t) ∧ (∀ c ∈ (offerF t p l i b).1, Sz (n + l.length) c) ∧ (offerF t p l i b).1.length = t.length
  | [], i, b, n, hb, hl, ht => ⟨fun h => absurd rfl h, hb, hl⟩
  | g :: gs, i, b, n, hb, hl, ht => by
    unfold offerF
    split
    · obtain ⟨h1, h2, h3⟩ := offer_is t p gs (i + 1) b n hb hl ht
      exact ⟨h1, fun c hc => (h2 c hc).up (by simp), h3⟩
    · split
      · obtain ⟨k1, k2⟩ := one_sz (p := p) (g := g) hb
        obtain ⟨h1, h2, h3⟩ := offer_is t p gs (i + 1) (oneF b p g).1 (n + 1) k1 (by rw [k2, hl]) (fun c hc => (ht c hc).up (by omega))
        exact ⟨h1, fun c hc => (h2 c hc).up (by simp; omega), h3⟩
      · exact ⟨fun _ => rfl, fun c hc => (ht c hc).up (by simp), rfl⟩
theorem offer_eq (t : List Ch) (p : Int) (l : List G) (ht : ∀ c ∈ t, Sz 20 c) (h10 : t.length ≤ 10) (hl : l.length ≤ 8) : chantab_Offer t p l true = some (offerF t p l 0 t) := by
  unfold chantab_Offer
  rw [chk_pos ⟨rfl, by omega, by omega⟩, letv_eq, twin_eq]
  refine (loop_up (fun x => x.2.2.2.2.2.1) l.length (fun x : List Ch × Int × Bool × List G × Int × Int × List Ch => x.1 = t ∧ x.2.1 = p ∧ x.2.2.1 = true ∧ x.2.2.2.1 = l ∧ x.2.2.2.2.1 = l.length ∧ 0 ≤ x.2.2.2.2.2.1 ∧ x.2.2.2.2.2.2.length = t.length ∧ ∀ c ∈ x.2.2.2.2.2.2, Sz (20 + x.2.2.2.2.2.1.toNat) c) (fun x => some (offerF t p (l.drop x.2.2.2.2.2.1.toNat) x.2.2.2.2.2.1 x.2.2.2.2.2.2)) ⟨rfl, rfl, rfl, rfl, rfl, by simp, rfl, by simpa using ht⟩ (by simp; omega) ?_).trans (by simp)
  rintro k ⟨t', p', al, l', n', i, b⟩ ⟨e1, e2, e3, e4, e5, i0, hbl, hb⟩ hk
  simp only at e1 e2 e3 e4 e5 i0 hbl hb
  subst e1 e2 e3 e4 e5
  unfold chantab_Offer_L1
  simp only
  by_cases hi : i < (l'.length : Int)
  · rw [bif_pos hi, cutv_eq]
    unfold chantab_Offer_C3 chantab_Offer_R3
    simp only
    rw [chk_at i0 hi, cutv_eq, cutv_eq, drop_at (d := (0, 0, 0, 0, 0, ())) i0 hi]
    unfold chantab_Offer_C1 chantab_Offer_R1 chantab_Offer_C2 chantab_Offer_R2
    simp only
    generalize l'.getD i.toNat (0, 0, 0, 0, 0, ()) = g
    have hk : ∀ b2 : List Ch, b2.length = t'.length → (∀ c ∈ b2, Sz (20 + i.toNat + 1) c) → k (t', p', true, l', (l'.length : Int), IntKind.i64.wrap (i + 1), b2) = some (offerF t' p' (l'.drop (i + 1).toNat) (i + 1) b2) := fun b2 h1 h2 => by
      rw [w64 (by omega) (by omega)]
      exact hk hi _ ⟨rfl, rfl, rfl, rfl, rfl, by simp only; omega, h1, by simp only; rw [show 20 + (i + 1).toNat = 20 + i.toNat + 1 by omega]; exact h2⟩ rfl
    have hup : ∀ c ∈ b, Sz (20 + i.toNat + 1) c := fun c hc => (hb c hc).up (by omega)
    have hone := one_sz (p := p') (g := g) hb
    rw [is_eq, offerF]
    simp only [Option.bind_some]
    by_cases g1 : g.1 = 1
    · have g2 : ¬ g.1 = 2 := by omega
      rw [bnot_pos g1, if_neg (fun h => h.1 g1)]
      by_cases ho : 0 ≤ g.2.1 ∧ g.2.1 < (b.length : Int)
      · have hc := (hb _ (getD_mem (d := dC) ho.1 ho.2)).small (by omega)
        rw [decide_eq_true ho, chk_pos ho]
        simp only [Bool.not_true, cond_false, letv_eq, bif_neg g2, cond_true]
        rw [recv_eq _ p' hc]
        simp only [Option.bind_some, chk_pos ho]
        have e : oneF b p' g = if (b.getD g.2.1.toNat dC).2.2.2.2.2.1.1 = true then (b, 12) else put1 b g.2.1 (recv (b.getD g.2.1.toNat dC) p') := by unfold oneF; rw [if_neg (not_not_intro ho), if_neg g2]
        cases hs : (b.getD g.2.1.toNat dC).2.2.2.2.2.1.1 with
        | true => rw [hs, if_pos rfl] at e; rw [e]; simp
        | false =>
          rw [hs, if_neg (by simp)] at e
          have e3 : (oneF b p' g).2 = (recv (b.getD g.2.1.toNat dC) p').2.1 := by rw [e]; rfl
          have e4 : (oneF b p' g).1 = b.set g.2.1.toNat (recv (b.getD g.2.1.toNat dC) p').1 := by rw [e]; rfl
          rw [e4] at hone
          simp only [cond_false]
          by_cases hr : (recv (b.getD g.2.1.toNat dC) p').2.1 = 0
          · rw [bnot_pos hr, if_pos (e3.trans hr), e4]; exact hk _ (by simpa using hbl) hone.1
          · rw [bnot_neg hr, if_neg (fun h => hr (e3.symm.trans h)), e3]
      · have e : oneF b p' g = (b, 8) := by unfold oneF; rw [if_pos ho]
        rw [decide_eq_false ho, e]
        simp
    · rw [bnot_neg g1]
      by_cases g2 : g.1 = 2
      · rw [bnot_pos g2, if_neg (fun h => h.2 g2)]
        by_cases ho : 0 ≤ g.2.1 ∧ g.2.1 < (b.length : Int)
        · have hc := (hb _ (getD_mem (d := dC) ho.1 ho.2)).small (by omega)
          rw [decide_eq_true ho, chk_pos ho]
          simp only [Bool.not_true, cond_false, letv_eq, bif_pos g2, cond_true]
          rw [send_eq _ p' _ hc]
          simp only [Option.bind_some, chk_pos ho]
          have e : oneF b p' g = if (b.getD g.2.1.toNat dC).2.2.2.1.1 = true then (b, 12) else put1 b g.2.1 (send (b.getD g.2.1.toNat dC) p' g.2.2.1) := by unfold oneF; rw [if_neg (not_not_intro ho), if_pos g2]
          cases hs : (b.getD g.2.1.toNat dC).2.2.2.1.1 with
          | true => rw [hs, if_pos rfl] at e; rw [e]; simp
          | false =>
            rw [hs, if_neg (by simp)] at e
            have e3 : (oneF b p' g).2 = (send (b.getD g.2.1.toNat dC) p' g.2.2.1).2.1 := by rw [e]; rfl
            have e4 : (oneF b p' g).1 = b.set g.2.1.toNat (send (b.getD g.2.1.toNat dC) p' g.2.2.1).1 := by rw [e]; rfl
            rw [e4] at hone
            simp only [cond_false]
            by_cases hr : (send (b.getD g.2.1.toNat dC) p' g.2.2.1).2.1 = 0
            · rw [bnot_pos hr, if_pos (e3.trans hr), e4]; exact hk _ (by simpa using hbl) hone.1
            · rw [bnot_neg hr, if_neg (fun h => hr (e3.symm.trans h)), e3]
        · have e : oneF b p' g = (b, 8) := by unfold oneF; rw [if_pos ho]
          rw [decide_eq_false ho, e]
          simp
      · rw [bnot_neg g2, if_pos ⟨g1, g2⟩]
        exact hk b hbl hup
  · rw [bif_neg hi, drop_end hi]; rfl
end L19
namespace L19
def tw (a m : Int) (x : Int × Int × Unit) : Bool := decide (x.1 = a) && (decide (x.2.1 = m) && true)
theorem any_row (a m i : Int) : ∀ l : List Int, (l.map (fun x => (i, x, ()))).any (tw a m) = (decide (i = a) && decide (m ∈ l))
  | [] => by simp
  | x :: l => by
    rw [List.map_cons, List.any_cons, any_row a m i l]
    unfold tw
    simp only [Bool.and_true]
    rw [Bool.eq_iff_iff]
    simp only [Bool.or_eq_true, Bool.and_eq_true, decide_eq_true_eq, List.mem_cons]
    constructor
    · rintro (⟨h1, h2⟩ | ⟨h1, h2⟩)
      · exact ⟨h1, .inl h2.symm⟩
      · exact ⟨h1, .inr h2⟩
    · rintro ⟨h1, h2 | h2⟩
      · exact .inl ⟨h1, h2.symm⟩
      · exact .inr ⟨h1, h2⟩
theorem any_moves (a m : Int) : ∀ (cs : List Ch) (i : Int), (movesF cs i).any (tw a m) = true ↔ (i ≤ a ∧ a < i + cs.length ∧ m ∈ what (cs.getD (a - i).toNat dC))
  | [], i => by simp [movesF]; omega
  | c :: cs, i => by
    rw [movesF, List.any_append, any_row, Bool.or_eq_true, any_moves a m cs (i + 1)]
    simp only [Bool.and_eq_true, decide_eq_true_eq, List.length_cons]
    by_cases h : i = a
    · subst h
      rw [show (i - i).toNat = 0 by omega]
      constructor
      · rintro (⟨_, h⟩ | ⟨h, _⟩)
        · exact ⟨by omega, by omega, h⟩
        · omega
      · rintro ⟨_, _, h⟩
        exact .inl ⟨rfl, h⟩
    · constructor
      · rintro (⟨h2, _⟩ | ⟨h1, h2, h3⟩)
        · exact absurd h2 h
        · refine ⟨by omega, by omega, ?_⟩
          rw [show (a - i).toNat = (a - (i + 1)).toNat + 1 by omega]
          exact h3
      · rintro ⟨h1, h2, h3⟩
        refine .inr ⟨by omega, by omega, ?_⟩
        rw [show (a - i).toNat = (a - (i + 1)).toNat + 1 by omega] at h3
        exact h3
theorem mem_what (c : Ch) (m : Int) : m ∈ what c ↔ fine c = true ∧ mayB c m = true := by
  unfold what one_
  cases hf : fine c with
  | false => simp
  | true =>
    rw [if_neg (by simp)]
    simp only [List.mem_append]
    have key : ∀ j : Int, (m ∈ (bif mayB c j then [j] else [])) ↔ (m = j ∧ mayB c j = true) := by
      intro j
      cases mayB c j <;> simp
    rw [key, key, key]
    constructor
    · rintro (⟨h, h2⟩ | ⟨h, h2⟩ | ⟨h, h2⟩) <;> exact ⟨trivial, by rw [h]; exact h2⟩
    · rintro ⟨_, h⟩
      have : m = 1 ∨ m = 2 ∨ m = 3 := by
        by_cases h1 : m = 1
        · exact .inl h1
        by_cases h2 : m = 2
        · exact .inr (.inl h2)
        by_cases h3 : m = 3
        · exact .inr (.inr h3)
        unfold mayB at h
        rw [bif_neg h1, bif_neg h2, bif_neg h3] at h
        cases h
      rcases this with e | e | e
      · exact .inl ⟨e, by rw [← e]; exact h⟩
      · exact .inr (.inl ⟨e, by rw [← e]; exact h⟩)
      · exact .inr (.inr ⟨e, by rw [← e]; exact h⟩)
theorem do_ok (c : Ch) (m : Int) : (do_ c m).2.2.1 = 0 ↔ fine c = true ∧ mayB c m = true := by
  unfold do_
  cases hf : fine c with
  | false => simp
  | true =>
    rw [if_neg (by simp)]
    cases hm : mayB c m with
    | false => simp
    | true =>
      rw [if_neg (by simp)]
      repeat' split
      all_goals simp
theorem told (t : List Ch) (a m : Int) : (movesF t 0).any (tw a m) = decide ((doT t a m).2.2.1 = 0) := by
  rw [Bool.eq_iff_iff, any_moves, decide_eq_true_eq]
  unfold doT
  by_cases hi : 0 ≤ a ∧ a < (t.length : Int)
  · rw [if_pos hi, show (a - 0).toNat = a.toNat by omega]
    by_cases hd : (do_ (t.getD a.toNat dC) m).2.2.1 = 0
    · rw [if_pos hd]
      refine ⟨fun _ => rfl, fun _ => ⟨hi.1, by omega, ?_⟩⟩
      exact (mem_what _ _).2 ((do_ok _ _).1 hd)
    · rw [if_neg hd]
      refine ⟨fun h => absurd ((do_ok _ _).2 ((mem_what _ _).1 h.2.2)) hd, fun h => absurd h hd⟩
  · rw [if_neg hi]
    refine ⟨fun h => absurd ⟨h.1, by omega⟩ hi, fun h => absurd h (by simp)⟩
theorem end1 (t : List Ch) (a m : Int) (h : Tab t) : L19_ChantabOne_J1 t ((movesF t 0).any (tw a m)) a m = some true := by
  unfold L19_ChantabOne_J1
  rw [doT_eq t a m h, told]
  simp only [Option.bind_some, beq_self_eq_true, cond_true, alive19]
theorem end6 (t : List Ch) (a m : Int) (h : Tab t) : L19_ChantabOne_J6 t ((movesF t 0).any (tw a m)) a m = some true := by
  unfold L19_ChantabOne_J6
  rw [doT_eq t a m h, told]
  simp only [Option.bind_some, beq_self_eq_true, cond_true, alive19]
theorem moves_len (cs : List Ch) (i : Int) : (movesF cs i).length ≤ 3 * cs.length := by
  induction cs generalizing i with
  | nil => simp [movesF]
  | cons c cs ih =>
    have := ih (i + 1)
    have := what_len c
    simp [movesF]; omega
theorem tell1 (t : List Ch) (a : List Int) (h : Tab t) : L19_ChantabOne_J2 t a = some true := by
  have hl := h.len
  have hm := moves_len t 0
  unfold L19_ChantabOne_J2
  rw [chk_pos (by omega), chk_pos (by omega), moves_eq t h]
  simp only [Option.bind_some]
  generalize IntKind.i64.wrap (a.getD (0 : Int).toNat 0) = a0
  generalize IntKind.i64.wrap (a.getD (1 : Int).toNat 0) = a1
  refine (loop_up (fun x => x.2) (movesF t 0).length (fun x : Bool × Int => 0 ≤ x.2 ∧ (x.1 || ((movesF t 0).drop x.2.toNat).any (tw a0 a1)) = (movesF t 0).any (tw a0 a1)) (fun x => some true) ⟨by simp, by simp⟩ (by simp; omega) ?_)
  rintro k ⟨b, j⟩ ⟨j0, j1⟩ hk
  simp only at j0 j1
  unfold L19_ChantabOne_L1
  simp only
  by_cases hj : j < ((movesF t 0).length : Int)
  · have hk := hk hj
    rw [drop_at (d := (0, 0, ())) j0 hj, List.any_cons] at j1
    rw [bif_pos hj, chk_at j0 hj, w64 (by omega) (by omega), letv_eq]
    cases b with
    | true => exact hk (true, j + 1) ⟨by simp only; omega, by simpa using j1⟩ rfl
    | false => exact hk (_, j + 1) ⟨by simp only; omega, by simpa [tw] using j1⟩ rfl
  · rw [bif_neg hj]
    rw [drop_end hj, List.any_nil, Bool.or_false] at j1
    rw [j1]; exact end1 t _ _ h
theorem tell6 (t : List Ch) (a : List Int) (h : Tab t) : L19_ChantabOne_J7 t a = some true := by
  have hl := h.len
  have hm := moves_len t 0
  unfold L19_ChantabOne_J7
  rw [chk_pos (by omega), chk_pos (by omega), moves_eq t h]
  simp only [Option.bind_some]
  generalize IntKind.i64.wrap (a.getD (0 : Int).toNat 0) = a0
  generalize IntKind.i64.wrap (a.getD (1 : Int).toNat 0) = a1
  refine (loop_up (fun x => x.2) (movesF t 0).length (fun x : Bool × Int => 0 ≤ x.2 ∧ (x.1 || ((movesF t 0).drop x.2.toNat).any (tw a0 a1)) = (movesF t 0).any (tw a0 a1)) (fun x => some true) ⟨by simp, by simp⟩ (by simp; omega) ?_)
  rintro k ⟨b, j⟩ ⟨j0, j1⟩ hk
  simp only at j0 j1
  unfold L19_ChantabOne_L4
  simp only
  by_cases hj : j < ((movesF t 0).length : Int)
  · have hk := hk hj
    rw [drop_at (d := (0, 0, ())) j0 hj, List.any_cons] at j1
    rw [bif_pos hj, chk_at j0 hj, w64 (by omega) (by omega), letv_eq]
    cases b with
    | true => exact hk (true, j + 1) ⟨by simp only; omega, by simpa using j1⟩ rfl
    | false => exact hk (_, j + 1) ⟨by simp only; omega, by simpa [tw] using j1⟩ rfl
  · rw [bif_neg hj]
    rw [drop_end hj, List.any_nil, Bool.or_false] at j1
    rw [j1]; exact end6 t _ _ h
theorem leave_round1 (p : Int) (t ys : List Ch) (a : List Int) (ht : Tab t) (hy : ∀ c ∈ ys, Small c ∧ ∃ b, c = leave b p) (hl : ys.length ≤ 1000) : loop L19_ChantabOne_L3 (p, t, ys, (ys.length : Int), 0, a) = some true := by
  refine (loop_up (fun x => x.2.2.2.2.1) ys.length (fun x : Int × List Ch × List Ch × Int × Int × List Int => x.1 = p ∧ x.2.1 = t ∧ x.2.2.1 = ys ∧ x.2.2.2.1 = ys.length ∧ 0 ≤ x.2.2.2.2.1 ∧ x.2.2.2.2.2 = a) (fun x => some true) ⟨rfl, rfl, rfl, rfl, by simp, rfl⟩ (by simp; omega) ?_)
  rintro k ⟨p', t', ys', n', i, a'⟩ ⟨e1, e2, e3, e4, i0, e5⟩ hk
  simp only at e1 e2 e3 e4 i0 e5
  subst e1 e2 e3 e4 e5
  unfold L19_ChantabOne_L3
  simp only
  by_cases hi : i < (ys'.length : Int)
  · have hk : k (p', t', ys', (ys'.length : Int), IntKind.i64.wrap (i + 1), a') = some true := by
      rw [w64 (by omega) (by omega)]
      exact hk hi _ ⟨rfl, rfl, rfl, rfl, by simp only; omega, rfl⟩ rfl
    obtain ⟨hs, b, hb⟩ := hy _ (getD_mem (d := ((0, 0, 0, 0, ()), 0, [], (false, [], ()), [], (false, [], ()), ())) i0 hi)
    obtain ⟨c0, hc0⟩ : ∃ c0, c0 = ys'.getD i.toNat ((0, 0, 0, 0, ()), 0, [], (false, [], ()), [], (false, [], ()), ()) := ⟨_, rfl⟩
    rw [← hc0] at hs hb
    rw [bif_pos hi, chk_at i0 hi, ← hc0, fine_eq _ hs]
    simp only [Option.bind_some]
    cases hf : fine c0 with
    | false =>
      simp only [Bool.not_false, cond_true]
      unfold L19_ChantabOne_J3
      exact hk
    | true =>
      have hw := who_out b p' (by rw [← hb]; exact hf)
      rw [← hb] at hw
      have h1 := hs.b
      have h2 := hs.e
      simp only [Bool.not_true, cond_false]
      rw [cutv_eq]
      unfold L19_ChantabOne_C1
      simp only
      rw [← hc0, chk_pos (by simp only [List.length_nil]; omega), letv_eq, chk_pos (by simp only [List.nil_append]; omega), letv_eq]
      unfold L19_ChantabOne_R1
      simp only [List.nil_append]
      generalize hws : c0.2.2.2.1.2.1 ++ c0.2.2.2.2.2.1.2.1 = ws at hw
      have hwl : ws.length ≤ 2000 := by rw [← hws, List.length_append]; omega
      refine (loop_up (fun y => y) ws.length (fun y => 0 ≤ y) (fun y => some true) (by simp) (by simp; omega) ?_)
      intro k8 y y0 hk8
      unfold L19_ChantabOne_L2
      simp only
      by_cases hy2 : y < (ws.length : Int)
      · rw [bif_pos hy2, chk_at y0 hy2, bif_neg (show ¬ ws.getD y.toNat 0 = p' from fun h => hw (h ▸ getD_mem y0 hy2)), w64 (by omega) (by omega)]
        exact hk8 hy2 (y + 1) (by omega) rfl
      · rw [bif_neg hy2]
        unfold L19_ChantabOne_J5 L19_ChantabOne_J4
        exact hk
  · rw [bif_neg hi]; exact tell1 _ _ ht
theorem leave_round6 (p : Int) (t ys : List Ch) (a : List Int) (ht : Tab t) (hy : ∀ c ∈ ys, Small c ∧ ∃ b, c = leave b p) (hl : ys.length ≤ 1000) : loop L19_ChantabOne_L6 (p, t, ys, (ys.length : Int), 0, a) = some true := by
  refine (loop_up (fun x => x.2.2.2.2.1) ys.length (fun x : Int × List Ch × List Ch × Int × Int × List Int => x.1 = p ∧ x.2.1 = t ∧ x.2.2.1 = ys ∧ x.2.2.2.1 = ys.length ∧ 0 ≤ x.2.2.2.2.1 ∧ x.2.2.2.2.2 = a) (fun x => some true) ⟨rfl, rfl, rfl, rfl, by simp, rfl⟩ (by simp; omega) ?_)
  rintro k ⟨p', t', ys', n', i, a'⟩ ⟨e1, e2, e3, e4, i0, e5⟩ hk
  simp only at e1 e2 e3 e4 i0 e5
  subst e1 e2 e3 e4 e5
  unfold L19_ChantabOne_L6
  simp only
  by_cases hi : i < (ys'.length : Int)
  · have hk : k (p', t', ys', (ys'.length : Int), IntKind.i64.wrap (i + 1), a') = some true := by
      rw [w64 (by omega) (by omega)]
      exact hk hi _ ⟨rfl, rfl, rfl, rfl, by simp only; omega, rfl⟩ rfl
    obtain ⟨hs, b, hb⟩ := hy _ (getD_mem (d := ((0, 0, 0, 0, ()), 0, [], (false, [], ()), [], (false, [], ()), ())) i0 hi)
    obtain ⟨c0, hc0⟩ : ∃ c0, c0 = ys'.getD i.toNat ((0, 0, 0, 0, ()), 0, [], (false, [], ()), [], (false, [], ()), ()) := ⟨_, rfl⟩
    rw [← hc0] at hs hb
    rw [bif_pos hi, chk_at i0 hi, ← hc0, fine_eq _ hs]
    simp only [Option.bind_some]
    cases hf : fine c0 with
    | false =>
      simp only [Bool.not_false, cond_true]
      unfold L19_ChantabOne_J8
      exact hk
    | true =>
      have hw := who_out b p' (by rw [← hb]; exact hf)
      rw [← hb] at hw
      have h1 := hs.b
      have h2 := hs.e
      simp only [Bool.not_true, cond_false]
      rw [cutv_eq]
      unfold L19_ChantabOne_C2
      simp only
      rw [← hc0, chk_pos (by simp only [List.length_nil]; omega), letv_eq, chk_pos (by simp only [List.nil_append]; omega), letv_eq]
      unfold L19_ChantabOne_R2
      simp only [List.nil_append]
      generalize hws : c0.2.2.2.1.2.1 ++ c0.2.2.2.2.2.1.2.1 = ws at hw
      have hwl : ws.length ≤ 2000 := by rw [← hws, List.length_append]; omega
      refine (loop_up (fun y => y) ws.length (fun y => 0 ≤ y) (fun y => some true) (by simp) (by simp; omega) ?_)
      intro k8 y y0 hk8
      unfold L19_ChantabOne_L5
      simp only
      by_cases hy2 : y < (ws.length : Int)
      · rw [bif_pos hy2, chk_at y0 hy2, bif_neg (show ¬ ws.getD y.toNat 0 = p' from fun h => hw (h ▸ getD_mem y0 hy2)), w64 (by omega) (by omega)]
        exact hk8 hy2 (y + 1) (by omega) rfl
      · rw [bif_neg hy2]
        unfold L19_ChantabOne_J10 L19_ChantabOne_J9
        exact hk
  · rw [bif_neg hi]; exact tell6 _ _ ht
theorem big_sz {n : Nat} {c : Ch} (h : Sz n c) (hn : n ≤ 1000) : Big c := big (h.small hn)
theorem small_leave {c : Ch} (h : Sz 100 c) (p : Int) : Small (leave c p) := by
  have := h.a; have := h.b; have := h.d; have := h.e; have := L18.leave_len c.2.2.2.1 p; have := L18.leave_len c.2.2.2.2.2.1 p
  unfold leave
  repeat' split
  all_goals first | exact h.small (by omega) | exact ⟨by simp only; omega, by simp only; omega, by simp; omega, by simp only; omega⟩
theorem one (t : List Ch) (p : Int) (l : List G) (tail : Bool × Unit) (a : List Int) (hl : t.length ≤ 140737488355328) : L19_ChantabOne t (p, l, tail) a = some true := by
  unfold L19_ChantabOne
  rw [small_some t hl]
  simp only [Option.bind_some]
  cases hb : (!decide ((t.length : Int) > 10) && t.all smallB) with
  | false => rw [alive19]; rfl
  | true =>
    have ht := tab_of hb
    have h10 := ht.len
    have h20 : ∀ c ∈ t, Sz 20 c := by
      intro c hc
      rw [Bool.and_eq_true] at hb
      have := List.all_eq_true.1 hb.2 c hc
      unfold smallB at this
      simp at this
      exact ⟨by omega, by omega, by omega, by omega⟩
    simp only [Bool.not_true, cond_false]
    by_cases h8 : (l.length : Int) > 8
    · rw [bif_pos h8, alive19]; rfl
    · rw [bif_neg h8, to_eq t (by omega)]
      simp only [Option.bind_some]
      rw [offer_eq t p l h20 h10 (by omega)]
      simp only [Option.bind_some]
      obtain ⟨k1, k2, k3⟩ := offer_is t p l 0 t 20 h20 rfl h20
      generalize offerF t p l 0 t = y at k1 k2 k3
      have hty : Tab y.1 := ⟨by omega, fun c hc => (k2 c hc).small (by omega)⟩
      have hlv : ∀ c ∈ y.1.map (fun c => leave c p), Small c ∧ ∃ b, c = leave b p := by
        intro c hc
        obtain ⟨b, hb, rfl⟩ := List.mem_map.1 hc
        exact ⟨small_leave ((k2 b hb).up (by omega)) p, b, rfl⟩
      rw [leave_all y.1 p hty]
      simp only [Option.bind_some]
      by_cases he : y.2.2.1 = 0
      · rw [bnot_pos he]
        exact leave_round6 p t _ a ht hlv (by simp; omega)
      · have e := k1 he
        rw [bnot_neg he, e, from_eq t (by omega)]
        simp only [Option.bind_some]
        rw [same_tab t (by omega) (big_tab ht)]
        simp only [Option.bind_some, Bool.not_true, cond_false]
        rw [e] at hlv
        exact leave_round1 p t _ a ht hlv (by simp; omega)
end L19
theorem law_L19_ChantabTells : ∀ x : ((.pair (.sl (.pair (.int .i64) (.pair (.int .i64) (.pair (.int .i64) (.pair (.int .i64) .unit))))) (.pair (.sl (.pair (.pair (.int .i64) (.pair (.int .i64) (.pair (.int .i64) (.pair (.int .i64) .unit)))) (.pair (.int .i64) (.pair (.sl (.int .i64)) (.pair (.pair .bool (.pair (.sl (.int .i64)) .unit)) (.pair (.sl (.int .i64)) (.pair (.pair .bool (.pair (.sl (.int .i64)) .unit)) .unit))))))) (.pair (.int .i64) .unit))) : Ty).den, wfD (.pair (.sl (.pair (.int .i64) (.pair (.int .i64) (.pair (.int .i64) (.pair (.int .i64) .unit))))) (.pair (.sl (.pair (.pair (.int .i64) (.pair (.int .i64) (.pair (.int .i64) (.pair (.int .i64) .unit)))) (.pair (.int .i64) (.pair (.sl (.int .i64)) (.pair (.pair .bool (.pair (.sl (.int .i64)) .unit)) (.pair (.sl (.int .i64)) (.pair (.pair .bool (.pair (.sl (.int .i64)) .unit)) .unit))))))) (.pair (.int .i64) .unit))) x → L19_ChantabTells x.1 x.2.1 x.2.2.1 = some true :=
  fun x hx => L19.tells x.1 x.2.1 x.2.2.1 hx.2.1.1
theorem law_L19_ChantabActs : ∀ x : ((.pair (.sl (.pair (.pair (.int .i64) (.pair (.int .i64) (.pair (.int .i64) (.pair (.int .i64) .unit)))) (.pair (.int .i64) (.pair (.sl (.int .i64)) (.pair (.pair .bool (.pair (.sl (.int .i64)) .unit)) (.pair (.sl (.int .i64)) (.pair (.pair .bool (.pair (.sl (.int .i64)) .unit)) .unit))))))) (.pair (.arr 3 (.int .i64)) .unit)) : Ty).den, wfD (.pair (.sl (.pair (.pair (.int .i64) (.pair (.int .i64) (.pair (.int .i64) (.pair (.int .i64) .unit)))) (.pair (.int .i64) (.pair (.sl (.int .i64)) (.pair (.pair .bool (.pair (.sl (.int .i64)) .unit)) (.pair (.sl (.int .i64)) (.pair (.pair .bool (.pair (.sl (.int .i64)) .unit)) .unit))))))) (.pair (.arr 3 (.int .i64)) .unit)) x → L19_ChantabActs x.1 x.2.1 = some true :=
  fun x hx => L19.acts x.1 x.2.1 hx.1.1
theorem law_L19_ChantabOne : ∀ x : ((.pair (.sl (.pair (.pair (.int .i64) (.pair (.int .i64) (.pair (.int .i64) (.pair (.int .i64) .unit)))) (.pair (.int .i64) (.pair (.sl (.int .i64)) (.pair (.pair .bool (.pair (.sl (.int .i64)) .unit)) (.pair (.sl (.int .i64)) (.pair (.pair .bool (.pair (.sl (.int .i64)) .unit)) .unit))))))) (.pair (.pair (.int .i64) (.pair (.sl (.pair (.int .i64) (.pair (.int .i64) (.pair (.int .i64) (.pair (.int .i64) (.pair (.int .i64) .unit)))))) (.pair .bool .unit))) (.pair (.arr 2 (.int .i8)) .unit))) : Ty).den, wfD (.pair (.sl (.pair (.pair (.int .i64) (.pair (.int .i64) (.pair (.int .i64) (.pair (.int .i64) .unit)))) (.pair (.int .i64) (.pair (.sl (.int .i64)) (.pair (.pair .bool (.pair (.sl (.int .i64)) .unit)) (.pair (.sl (.int .i64)) (.pair (.pair .bool (.pair (.sl (.int .i64)) .unit)) .unit))))))) (.pair (.pair (.int .i64) (.pair (.sl (.pair (.int .i64) (.pair (.int .i64) (.pair (.int .i64) (.pair (.int .i64) (.pair (.int .i64) .unit)))))) (.pair .bool .unit))) (.pair (.arr 2 (.int .i8)) .unit))) x → L19_ChantabOne x.1 x.2.1 x.2.2.1 = some true :=
  fun x hx => L19.one x.1 x.2.1.1 x.2.1.2.1 x.2.1.2.2 x.2.2.1 hx.1.1
end Go.Proofs.YtbkccpddkpclaaaV
