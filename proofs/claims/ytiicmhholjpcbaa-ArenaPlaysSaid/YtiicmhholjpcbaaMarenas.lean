/- What the arena's methods and its reference's come to; they go alike. -/
import Derived.Test.YtiicmhholjpcbaaMKit
import Derived.Test.YtiicmhholjpcbaaMlists0
import Derived.Test.YtiicmhholjpcbaaDL02
namespace Go.Proofs.YtiicmhholjpcbaaV
set_option linter.unusedVariables false
set_option linter.unusedSimpArgs false
open Go.RowKit
namespace Ar
abbrev Sl := Int × Bool × Int × Unit
abbrev He := Int × Int × Unit
abbrev A := Int × Int × List Sl × Unit
abbrev R := Int × List Int × List He × Unit
def sd : Sl := (0, false, 0, ())
/-! ### Handles -/
def hs (h : Int) : Int := if 4096 ≤ h ∧ h ≤ 268435455 then h % 4096 else -1
def hg (h : Int) : Int := if 4096 ≤ h ∧ h ≤ 268435455 then h / 4096 else 0
theorem within_eq (a b c : Int) : handle_within a b c = some (decide (b ≤ a ∧ a ≤ c)) := by
  unfold handle_within
  by_cases h : a ≥ b
  · rw [bif_pos h]; congr 1; rw [decide_eq_decide]; omega
  · rw [bif_neg h, decide_eq_false (by omega)]
theorem slot_eq (h : Int) : handle_Slot h = some (hs h) := by
  unfold handle_Slot handle_Fine hs
  rw [within_eq]
  simp only [Option.bind_some]
  by_cases h1 : 4096 ≤ h ∧ h ≤ 268435455
  · rw [bnot_pos h1, if_pos h1, chk_pos (by omega), Int.tmod_eq_emod_of_nonneg (by omega)]
  · rw [bnot_neg h1, if_neg h1]
theorem gen_eq (h : Int) : handle_Gen h = some (hg h) := by
  unfold handle_Gen handle_Fine hg
  rw [within_eq]
  simp only [Option.bind_some]
  by_cases h1 : 4096 ≤ h ∧ h ≤ 268435455
  · rw [bnot_pos h1, if_pos h1, chk_pos (by omega), Int.tdiv_eq_ediv_of_nonneg (by omega), w64 (by omega) (by omega)]
  · rw [bnot_neg h1, if_neg h1]
theorem make_eq {k e : Int} (h0 : 0 ≤ k) (h1 : k ≤ 4095) (h2 : 1 ≤ e) (h3 : e ≤ 65535) : handle_Make k e = some (4096 * e + k, 0, ()) := by
  unfold handle_Make
  rw [within_eq, within_eq, decide_eq_true (by omega), decide_eq_true (by omega)]
  simp only [Option.bind_some, Bool.not_true, cond_false]
  rw [w64 (x := e * 4096) (by omega) (by omega), w64 (by omega) (by omega), letv_eq, show e * 4096 + k = 4096 * e + k by omega]
theorem fine1 (h : Int) : R01_Fine h = some (decide (4096 ≤ h ∧ h ≤ 268435455)) := by
  unfold R01_Fine
  by_cases h1 : h ≥ 4096
  · rw [bif_pos h1]; congr 1; rw [decide_eq_decide]; omega
  · rw [bif_neg h1, decide_eq_false (by omega)]
theorem slot1 (h : Int) : R01_Slot h = some (hs h) := by
  unfold R01_Slot hs
  rw [fine1]
  simp only [Option.bind_some]
  by_cases h1 : 4096 ≤ h ∧ h ≤ 268435455
  · rw [bnot_pos h1, if_pos h1, chk_pos (by omega), Int.tdiv_eq_ediv_of_nonneg (by omega), w64 (x := h / 4096) (by omega) (by omega), w64 (x := 4096 * (h / 4096)) (by omega) (by omega), w64 (by omega) (by omega), letv_eq]
    congr 1; omega
  · rw [bnot_neg h1, if_neg h1]
theorem gen1 (h : Int) : R01_Gen h = some (hg h) := by
  unfold R01_Gen hg
  rw [fine1]
  simp only [Option.bind_some]
  by_cases h1 : 4096 ≤ h ∧ h ≤ 268435455
  · rw [bnot_pos h1, if_pos h1, chk_pos (by omega), Int.tdiv_eq_ediv_of_nonneg (by omega), w64 (by omega) (by omega)]
  · rw [bnot_neg h1, if_neg h1]
theorem make1 {k e : Int} (h0 : 0 ≤ k) (h1 : k ≤ 4095) (h2 : 1 ≤ e) (h3 : e ≤ 65535) : R01_Make k e = some (4096 * e + k, 0, ()) := by
  unfold R01_Make
  rw [bif_neg (by omega), bif_neg (by omega), bif_neg (by omega), bif_neg (by omega), w64 (x := 4096 * e) (by omega) (by omega), w64 (by omega) (by omega), letv_eq]
/-! ### Who is in -/
def hl : Int → List Sl → List He
  | _, [] => []
  | k, x :: s => if x.2.1 = true then (k, x.2.2.1, ()) :: hl (k + 1) s else hl (k + 1) s
theorem hl_app : ∀ (a b : List Sl) (k : Int), hl k (a ++ b) = hl k a ++ hl (k + a.length) b
  | [], b, k => by simp [hl]
  | x :: a, b, k => by
    simp only [List.cons_append, hl, hl_app a b (k + 1), List.length_cons]
    rw [show k + 1 + (a.length : Int) = k + ((a.length + 1 : Nat) : Int) by omega]
    split <;> rfl
theorem hl_in : ∀ (s : List Sl) (k : Int) (x : He), x ∈ hl k s → k ≤ x.1 ∧ x.1 < k + s.length
  | [], k, x, h => by cases h
  | y :: s, k, x, h => by
    simp only [hl] at h
    simp only [List.length_cons]
    split at h
    · rcases List.mem_cons.1 h with rfl | h
      · simp only; omega
      · have := hl_in s (k + 1) x h; omega
    · have := hl_in s (k + 1) x h; omega
theorem hl_len : ∀ (s : List Sl) (k : Int), (hl k s).length ≤ s.length
  | [], k => by simp [hl]
  | y :: s, k => by
    have := hl_len s (k + 1)
    simp only [hl, List.length_cons]
    split <;> simp <;> omega
theorem hl_mid (a b : List Sl) (z : Sl) {i : Int} (h : (a.length : Int) = i) : hl 0 (a ++ z :: b) = hl 0 a ++ ((if z.2.1 = true then [(i, z.2.2.1, ())] else []) ++ hl (i + 1) b) := by
  rw [hl_app, show 0 + (a.length : Int) = i by omega]
  simp only [hl]
  split <;> rfl
/-- The index of slot r among those who are in. -/
def fnd (r : Int) : List He → Int → Int
  | [], _ => -1
  | x :: l, i => if x.1 = r then i else fnd r l (i + 1)
theorem fnd_none {r : Int} : ∀ {l : List He} {i : Int}, (∀ x ∈ l, x.1 ≠ r) → fnd r l i = -1
  | [], i, _ => rfl
  | x :: l, i, h => by
    rw [fnd, if_neg (h x List.mem_cons_self)]
    exact fnd_none fun y hy => h y (List.mem_cons_of_mem _ hy)
theorem fnd_mid {r : Int} : ∀ {a b : List He} {y : He} {i : Int}, (∀ x ∈ a, x.1 ≠ r) → y.1 = r → fnd r (a ++ y :: b) i = i + a.length
  | [], b, y, i, _, h => by rw [List.nil_append, fnd, if_pos h]; simp
  | x :: a, b, y, i, h, hy => by
    rw [List.cons_append, fnd, if_neg (h x List.mem_cons_self), fnd_mid (fun z hz => h z (List.mem_cons_of_mem _ hz)) hy]
    simp only [List.length_cons]; omega
theorem find_eq (a : R) (r : Int) (h : a.2.2.1.length ≤ 4096) : R02_find a r = some (fnd r a.2.2.1 0) := by
  unfold R02_find
  refine loop_up (fun x => x) a.2.2.1.length (fun x => 0 ≤ x) (fun x => some (fnd r (a.2.2.1.drop x.toNat) x)) (by omega) (by omega) ?_
  intro k j j0 hk
  unfold R02_find_L1
  by_cases hj : j < (a.2.2.1.length : Int)
  · have hk := hk hj (j + 1) (by omega) rfl
    rw [bif_pos hj, chk_at j0 hj, w64 (by omega) (by omega), hk, drop_at (d := (0, 0, ())) j0 hj, fnd]
    by_cases he : (a.2.2.1.getD j.toNat (0, 0, ())).1 = r
    · rw [bif_pos he, if_pos he]
    · rw [bif_neg he, if_neg he]
  · rw [bif_neg hj, drop_end hj]; rfl
/-! ### The two go alike -/
/-- The arena's data, and the reference's that says the same. -/
def R_of (last : Int) (s : List Sl) : R := (last, s.map (·.1), hl 0 s, ())
def A_of (last : Int) (s : List Sl) : A := (last, (hl 0 s).length, s, ())
structure Fit (last : Int) (s : List Sl) : Prop where
  l1 : 1 ≤ last
  l2 : last ≤ 65535
  n1 : 1 ≤ s.length
  n2 : s.length ≤ 4096
  gen : ∀ z ∈ s, 0 ≤ z.1 ∧ z.1 ≤ last ∧ (z.2.1 = true → 1 ≤ z.1)
/-- What looking up a handle answers. -/
def look (s : List Sl) (h : Int) : Int :=
  if 0 ≤ hs h ∧ hs h < (s.length : Int) then (if (s.getD (hs h).toNat sd).2.1 = true ∧ (s.getD (hs h).toNat sd).1 = hg h then 0 else 9) else 8
def idx (s : List Sl) (h : Int) : Int := (hl 0 (s.take (hs h).toNat)).length
theorem ok_eq {x : A} (h : 1 ≤ x.2.2.1.length) : arena_Table_int_ok x = some (x, (true, ())) := by
  unfold arena_Table_int_ok
  rw [decide_eq_true (by omega)]
theorem gens_at {s : List Sl} {i : Int} (h0 : 0 ≤ i) (h1 : i < (s.length : Int)) : (s.map (·.1)).getD i.toNat 0 = (s.getD i.toNat sd).1 := by
  rw [getD_at (by simp; omega), getD_at (by omega), List.getElem_map]
theorem hl_ne {a : List Sl} {r : Int} (h : (a.length : Int) = r) : ∀ x ∈ hl 0 a, x.1 ≠ r := fun x hx => by have := hl_in a 0 x hx; omega
theorem hl_ne2 {b : List Sl} {r : Int} : ∀ x ∈ hl (r + 1) b, x.1 ≠ r := fun x hx => by have := hl_in b (r + 1) x hx; omega
theorem hl_find {last : Int} {s : List Sl} (h : Fit last s) {r : Int} (h0 : 0 ≤ r) (h1 : r < (s.length : Int)) : R02_find (R_of last s) r = some (if (s.getD r.toNat sd).2.1 = true then ((hl 0 (s.take r.toNat)).length : Int) else -1) := by
  have := hl_len s 0
  have := h.n2
  rw [find_eq _ _ (show (hl 0 s).length ≤ 4096 by omega)]
  obtain ⟨a, z, b, rfl, ha, hz⟩ := split_at (d := sd) h0 h1
  show some (fnd r (hl 0 (a ++ z :: b)) 0) = _
  rw [hz, hl_mid a b z ha, show r.toNat = a.length by omega, List.take_left]
  split
  · rw [List.singleton_append, fnd_mid (hl_ne ha) rfl]; simp
  · rw [List.nil_append, fnd_none]
    intro x hx
    rcases List.mem_append.1 hx with hx | hx
    · exact hl_ne ha x hx
    · exact hl_ne2 x hx
theorem Rg_len (last : Int) (s : List Sl) : (R_of last s).2.1.length = s.length := by unfold R_of; simp
theorem at_eq {last : Int} {s : List Sl} (h : Fit last s) (H : Int) : R02_at (R_of last s) H = some (if look s H = 0 then idx s H else 0, look s H, ()) := by
  have n1 := h.n1
  unfold R02_at look idx
  rw [slot1, Rg_len]
  simp only [Option.bind_some]
  by_cases h0 : 0 ≤ hs H ∧ hs H < (s.length : Int)
  · rw [if_pos h0, bif_neg (by omega), bif_neg (show ¬ hs H ≥ (s.length : Int) by omega), hl_find h h0.1 h0.2]
    simp only [Option.bind_some]
    by_cases hl1 : (s.getD (hs H).toNat sd).2.1 = true
    · rw [if_pos hl1, bif_neg (by omega), chk_pos h0, gen1]
      simp only [Option.bind_some]
      rw [show (R_of last s).2.1 = s.map (·.1) from rfl, gens_at h0.1 h0.2]
      by_cases hg1 : (s.getD (hs H).toNat sd).1 = hg H
      · have q : (if (s.getD (hs H).toNat sd).2.1 = true ∧ (s.getD (hs H).toNat sd).1 = hg H then 0 else 9 : Int) = 0 := if_pos ⟨hl1, hg1⟩
        rw [bnot_pos hg1, q, if_pos rfl]
      · have q : (if (s.getD (hs H).toNat sd).2.1 = true ∧ (s.getD (hs H).toNat sd).1 = hg H then 0 else 9 : Int) = 9 := if_neg fun h => hg1 h.2
        rw [bnot_neg hg1, q, if_neg (by omega)]
    · have q : (if (s.getD (hs H).toNat sd).2.1 = true ∧ (s.getD (hs H).toNat sd).1 = hg H then 0 else 9 : Int) = 9 := if_neg fun h => hl1 h.1
      rw [if_neg hl1, bif_pos (by omega), q, if_neg (by omega)]
  · rw [if_neg h0, if_neg (by omega)]
    by_cases h1 : hs H < 0
    · rw [bif_pos h1]
    · rw [bif_neg h1, bif_pos (show hs H ≥ (s.length : Int) by omega)]
theorem look_cases (s : List Sl) (H : Int) :
    (hs H < 0 ∧ look s H = 8) ∨ (0 ≤ hs H ∧ hs H ≥ (s.length : Int) ∧ look s H = 8) ∨
    (0 ≤ hs H ∧ hs H < (s.length : Int) ∧ (s.getD (hs H).toNat sd).2.1 = false ∧ look s H = 9) ∨
    (0 ≤ hs H ∧ hs H < (s.length : Int) ∧ (s.getD (hs H).toNat sd).2.1 = true ∧ (s.getD (hs H).toNat sd).1 ≠ hg H ∧ look s H = 9) ∨
    (0 ≤ hs H ∧ hs H < (s.length : Int) ∧ (s.getD (hs H).toNat sd).2.1 = true ∧ (s.getD (hs H).toNat sd).1 = hg H ∧ look s H = 0) := by
  unfold look
  by_cases h0 : hs H < 0
  · exact .inl ⟨h0, if_neg (by omega)⟩
  · by_cases h1 : hs H ≥ (s.length : Int)
    · exact .inr (.inl ⟨by omega, h1, if_neg (by omega)⟩)
    · have h2 : 0 ≤ hs H ∧ hs H < (s.length : Int) := by omega
      rw [if_pos h2]
      cases hu : (s.getD (hs H).toNat sd).2.1 with
      | false => exact .inr (.inr (.inl ⟨h2.1, h2.2, rfl, if_neg (fun h => by cases h.1)⟩))
      | true =>
        by_cases hgn : (s.getD (hs H).toNat sd).1 = hg H
        · exact .inr (.inr (.inr (.inr ⟨h2.1, h2.2, rfl, hgn, if_pos ⟨rfl, hgn⟩⟩)))
        · exact .inr (.inr (.inr (.inl ⟨h2.1, h2.2, rfl, hgn, if_neg (fun h => hgn h.2)⟩)))
/-- The thing of a slot. -/
def thg (s : List Sl) (H : Int) : Int := (s.getD (hs H).toNat sd).2.2.1
theorem get_A {last : Int} {s : List Sl} (h : Fit last s) (H : Int) : arena_Table_int_Get (A_of last s) H = some (A_of last s, (if look s H = 0 then thg s H else 0, look s H, ())) := by
  unfold arena_Table_int_Get
  rw [ok_eq (x := A_of last s) h.n1]
  simp only [Option.bind_some, Bool.not_true, cond_false]
  rw [slot_eq]
  simp only [Option.bind_some]
  rcases look_cases s H with ⟨h0, hl⟩ | ⟨h0, h1, hl⟩ | ⟨h0, h1, h2, hl⟩ | ⟨h0, h1, h2, h3, hl⟩ | ⟨h0, h1, h2, h3, hl⟩
  · rw [bif_pos h0, hl, if_neg (by decide)]
  · rw [bif_neg (by omega), bif_pos (show hs H ≥ ((A_of last s).2.2.1.length : Int) from h1), hl, if_neg (by decide)]
  · rw [bif_neg (by omega), bif_neg (show ¬ hs H ≥ ((A_of last s).2.2.1.length : Int) by show ¬ hs H ≥ (s.length : Int); omega), chk_pos (show 0 ≤ hs H ∧ hs H < ((A_of last s).2.2.1.length : Int) from ⟨h0, h1⟩)]
    rw [show ((A_of last s).2.2.1.getD (hs H).toNat (0, false, 0, ())).2.1 = false from h2, hl]; rfl
  · rw [bif_neg (by omega), bif_neg (show ¬ hs H ≥ ((A_of last s).2.2.1.length : Int) by show ¬ hs H ≥ (s.length : Int); omega), chk_pos (show 0 ≤ hs H ∧ hs H < ((A_of last s).2.2.1.length : Int) from ⟨h0, h1⟩)]
    rw [show ((A_of last s).2.2.1.getD (hs H).toNat (0, false, 0, ())).2.1 = true from h2, gen_eq, hl]
    simp only [Option.bind_some, Bool.not_true, cond_false]
    rw [bnot_neg (show ¬ ((A_of last s).2.2.1.getD (hs H).toNat (0, false, 0, ())).1 = hg H from h3), if_neg (by decide)]
  · rw [bif_neg (by omega), bif_neg (show ¬ hs H ≥ ((A_of last s).2.2.1.length : Int) by show ¬ hs H ≥ (s.length : Int); omega), chk_pos (show 0 ≤ hs H ∧ hs H < ((A_of last s).2.2.1.length : Int) from ⟨h0, h1⟩)]
    rw [show ((A_of last s).2.2.1.getD (hs H).toNat (0, false, 0, ())).2.1 = true from h2, gen_eq, hl]
    simp only [Option.bind_some, Bool.not_true, cond_false]
    rw [bnot_pos (show ((A_of last s).2.2.1.getD (hs H).toNat (0, false, 0, ())).1 = hg H from h3), letv_eq, if_pos trivial]; rfl
/-- The place in the middle, in both. -/
theorem idx_mid {s : List Sl} {H : Int} (hq : look s H = 0) : ∃ a z b, s = a ++ z :: b ∧ (a.length : Int) = hs H ∧ z.2.1 = true ∧ s.getD (hs H).toNat sd = z ∧ idx s H = ((hl 0 a).length : Int) ∧ hl 0 s = hl 0 a ++ (hs H, z.2.2.1, ()) :: hl (hs H + 1) b := by
  rcases look_cases s H with ⟨_, hl⟩ | ⟨_, _, hl⟩ | ⟨_, _, _, hl⟩ | ⟨_, _, _, _, hl⟩ | ⟨h0, h1, h2, h3, _⟩
  all_goals first | (rw [hl] at hq; exact absurd hq (by decide)) | skip
  obtain ⟨a, z, b, rfl, ha, hz⟩ := split_at (d := sd) h0 h1
  rw [hz] at h2
  refine ⟨a, z, b, rfl, ha, h2, hz, ?_, ?_⟩
  · unfold idx; rw [show (hs H).toNat = a.length by omega, List.take_left]
  · rw [hl_mid a b z ha, if_pos h2]; rfl
theorem get_R {last : Int} {s : List Sl} (h : Fit last s) (H : Int) : R02_Get (R_of last s) H = some (if look s H = 0 then thg s H else 0, look s H, ()) := by
  unfold R02_Get
  rw [at_eq h]
  simp only [Option.bind_some]
  by_cases hq : look s H = 0
  · rw [if_pos hq, if_pos hq, bnot_pos hq]
    obtain ⟨a, z, b, hs', ha, hu, hz, hi, hh⟩ := idx_mid hq
    have e : (R_of last s).2.2.1 = hl 0 a ++ (hs H, z.2.2.1, ()) :: hl (hs H + 1) b := hh
    rw [hi, e, chk_pos (by simp; omega), get_mid rfl, letv_eq, hq]
    unfold thg; rw [hz]
  · rw [if_neg hq, if_neg hq, bnot_neg hq]
/-- The same slots, one of them another one. -/
theorem set_hl {a b : List Sl} {z w : Sl} {i : Int} (ha : (a.length : Int) = i) : hl 0 (a ++ w :: b) = hl 0 a ++ ((if w.2.1 = true then [(i, w.2.2.1, ())] else []) ++ hl (i + 1) b) := hl_mid a b w ha
theorem Fit.set {last : Int} {a b : List Sl} {z w : Sl} (h : Fit last (a ++ z :: b)) (hw : 0 ≤ w.1 ∧ w.1 ≤ last ∧ (w.2.1 = true → 1 ≤ w.1)) : Fit last (a ++ w :: b) := by
  refine ⟨h.l1, h.l2, by simp; omega, by have := h.n2; simp at this ⊢; omega, fun y hy => ?_⟩
  rcases List.mem_append.1 hy with hy | hy
  · exact h.gen y (List.mem_append_left _ hy)
  · rcases List.mem_cons.1 hy with rfl | hy
    · exact hw
    · exact h.gen y (List.mem_append_right _ (List.mem_cons_of_mem _ hy))
/-- The slots behind a call of Set. -/
def setS (s : List Sl) (H X : Int) : List Sl := if look s H = 0 then s.set (hs H).toNat ((s.getD (hs H).toNat sd).1, true, X, ()) else s
theorem Fit.gd {last : Int} {a b : List Sl} {z : Sl} (h : Fit last (a ++ z :: b)) : 0 ≤ z.1 ∧ z.1 ≤ last ∧ (z.2.1 = true → 1 ≤ z.1) := h.gen z (List.mem_append_right _ List.mem_cons_self)
theorem setS_fit {last : Int} {s : List Sl} (h : Fit last s) (H X : Int) : Fit last (setS s H X) := by
  unfold setS
  by_cases hq : look s H = 0
  · rw [if_pos hq]
    obtain ⟨a, z, b, hs', ha, hu, hz, hi, hh⟩ := idx_mid hq
    rw [hz]
    subst hs'
    rw [set_mid ha]
    have := h.gd
    exact h.set ⟨this.1, this.2.1, fun _ => this.2.2 hu⟩
  · rw [if_neg hq]; exact h
theorem set_A {last : Int} {s : List Sl} (h : Fit last s) (H X : Int) : arena_Table_int_Set (A_of last s) H X = some (A_of last (setS s H X), (look s H, ())) := by
  unfold arena_Table_int_Set setS
  rw [ok_eq (x := A_of last s) h.n1]
  simp only [Option.bind_some, Bool.not_true, cond_false]
  rw [slot_eq]
  simp only [Option.bind_some]
  rcases look_cases s H with ⟨h0, hq⟩ | ⟨h0, h1, hq⟩ | ⟨h0, h1, h2, hq⟩ | ⟨h0, h1, h2, h3, hq⟩ | ⟨h0, h1, h2, h3, hq⟩
  · rw [bif_pos h0, hq, if_neg (by decide)]
  · rw [bif_neg (by omega), bif_pos (show hs H ≥ ((A_of last s).2.2.1.length : Int) from h1), hq, if_neg (by decide)]
  · rw [bif_neg (by omega), bif_neg (show ¬ hs H ≥ ((A_of last s).2.2.1.length : Int) by show ¬ hs H ≥ (s.length : Int); omega), chk_pos (show 0 ≤ hs H ∧ hs H < ((A_of last s).2.2.1.length : Int) from ⟨h0, h1⟩)]
    rw [show ((A_of last s).2.2.1.getD (hs H).toNat (0, false, 0, ())).2.1 = false from h2, hq]; rfl
  · rw [bif_neg (by omega), bif_neg (show ¬ hs H ≥ ((A_of last s).2.2.1.length : Int) by show ¬ hs H ≥ (s.length : Int); omega), chk_pos (show 0 ≤ hs H ∧ hs H < ((A_of last s).2.2.1.length : Int) from ⟨h0, h1⟩)]
    rw [show ((A_of last s).2.2.1.getD (hs H).toNat (0, false, 0, ())).2.1 = true from h2, gen_eq, hq]
    simp only [Option.bind_some, Bool.not_true, cond_false]
    rw [bnot_neg (show ¬ ((A_of last s).2.2.1.getD (hs H).toNat (0, false, 0, ())).1 = hg H from h3), if_neg (by decide)]
  · rw [bif_neg (by omega), bif_neg (show ¬ hs H ≥ ((A_of last s).2.2.1.length : Int) by show ¬ hs H ≥ (s.length : Int); omega), chk_pos (show 0 ≤ hs H ∧ hs H < ((A_of last s).2.2.1.length : Int) from ⟨h0, h1⟩)]
    rw [show ((A_of last s).2.2.1.getD (hs H).toNat (0, false, 0, ())).2.1 = true from h2, gen_eq]
    simp only [Option.bind_some, Bool.not_true, cond_false]
    rw [bnot_pos (show ((A_of last s).2.2.1.getD (hs H).toNat (0, false, 0, ())).1 = hg H from h3), letv_eq, hq, if_pos rfl]
    obtain ⟨a, z, b, hs', ha, hu, hz, hi, hh⟩ := idx_mid hq
    have e : A_of last s = (last, ((hl 0 s).length : Int), s, ()) := rfl
    rw [e]
    show some ((last, ((hl 0 s).length : Int), s.set (hs H).toNat ((s.getD (hs H).toNat sd).1, true, X, ()), ()), ((0 : Int), ())) = _
    rw [hz, hh]
    subst hs'
    rw [set_mid ha]
    unfold A_of
    rw [hl_mid a b (z.1, true, X, ()) ha, if_pos rfl]
    simp
theorem set_R {last : Int} {s : List Sl} (h : Fit last s) (H X : Int) : R02_Set (R_of last s) H X = some (R_of last (setS s H X), look s H, ()) := by
  unfold R02_Set setS
  rw [at_eq h]
  simp only [Option.bind_some]
  by_cases hq : look s H = 0
  · have hn := hl_len s 0
    have := h.n2
    rw [if_pos hq, bif_pos hq, if_pos hq]
    obtain ⟨a, z, b, hs', ha, hu, hz, hi, hh⟩ := idx_mid hq
    have e : (R_of last s).2.2.1 = hl 0 a ++ (hs H, z.2.2.1, ()) :: hl (hs H + 1) b := hh
    rw [chk_pos (show (R_of last s).2.2.1.length ≤ 4294967296 by show (hl 0 s).length ≤ _; omega), hi, e, chk_pos (by simp; omega), get_mid rfl, set_mid rfl, letv_eq, hq, hz]
    subst hs'
    rw [set_mid ha]
    unfold R_of
    rw [hl_mid a b (z.1, true, X, ()) ha, if_pos rfl]
    simp
  · rw [if_neg hq, bif_neg hq, if_neg hq]
/-! ### Drop -/
def dropS (s : List Sl) (H : Int) : List Sl := if look s H = 0 then s.set (hs H).toNat ((s.getD (hs H).toNat sd).1, false, 0, ()) else s
theorem dropS_fit {last : Int} {s : List Sl} (h : Fit last s) (H : Int) : Fit last (dropS s H) := by
  unfold dropS
  by_cases hq : look s H = 0
  · rw [if_pos hq]
    obtain ⟨a, z, b, hs', ha, hu, hz, hi, hh⟩ := idx_mid hq
    rw [hz]
    subst hs'
    rw [set_mid ha]
    have := h.gd
    exact h.set ⟨this.1, this.2.1, fun h => by cases h⟩
  · rw [if_neg hq]; exact h
theorem drop_A {last : Int} {s : List Sl} (h : Fit last s) (H : Int) : arena_Table_int_Drop (A_of last s) H = some (A_of last (dropS s H), (look s H, ())) := by
  unfold arena_Table_int_Drop dropS
  rw [ok_eq (x := A_of last s) h.n1]
  simp only [Option.bind_some, Bool.not_true, cond_false]
  rw [slot_eq]
  simp only [Option.bind_some]
  rcases look_cases s H with ⟨h0, hq⟩ | ⟨h0, h1, hq⟩ | ⟨h0, h1, h2, hq⟩ | ⟨h0, h1, h2, h3, hq⟩ | ⟨h0, h1, h2, h3, hq⟩
  · rw [bif_pos h0, hq, if_neg (by decide)]
  · rw [bif_neg (by omega), bif_pos (show hs H ≥ ((A_of last s).2.2.1.length : Int) from h1), hq, if_neg (by decide)]
  · rw [bif_neg (by omega), bif_neg (show ¬ hs H ≥ ((A_of last s).2.2.1.length : Int) by show ¬ hs H ≥ (s.length : Int); omega), chk_pos (show 0 ≤ hs H ∧ hs H < ((A_of last s).2.2.1.length : Int) from ⟨h0, h1⟩)]
    rw [show ((A_of last s).2.2.1.getD (hs H).toNat (0, false, 0, ())).2.1 = false from h2, hq]; rfl
  · rw [bif_neg (by omega), bif_neg (show ¬ hs H ≥ ((A_of last s).2.2.1.length : Int) by show ¬ hs H ≥ (s.length : Int); omega), chk_pos (show 0 ≤ hs H ∧ hs H < ((A_of last s).2.2.1.length : Int) from ⟨h0, h1⟩)]
    rw [show ((A_of last s).2.2.1.getD (hs H).toNat (0, false, 0, ())).2.1 = true from h2, gen_eq, hq]
    simp only [Option.bind_some, Bool.not_true, cond_false]
    rw [bnot_neg (show ¬ ((A_of last s).2.2.1.getD (hs H).toNat (0, false, 0, ())).1 = hg H from h3), if_neg (by decide)]
  · rw [bif_neg (by omega), bif_neg (show ¬ hs H ≥ ((A_of last s).2.2.1.length : Int) by show ¬ hs H ≥ (s.length : Int); omega), chk_pos (show 0 ≤ hs H ∧ hs H < ((A_of last s).2.2.1.length : Int) from ⟨h0, h1⟩)]
    rw [show ((A_of last s).2.2.1.getD (hs H).toNat (0, false, 0, ())).2.1 = true from h2, gen_eq]
    simp only [Option.bind_some, Bool.not_true, cond_false]
    rw [bnot_pos (show ((A_of last s).2.2.1.getD (hs H).toNat (0, false, 0, ())).1 = hg H from h3), letv_eq, letv_eq, hq, if_pos rfl]
    obtain ⟨a, z, b, hs', ha, hu, hz, hi, hh⟩ := idx_mid hq
    have hn := hl_len s 0
    have := h.n2
    have e : A_of last s = (last, ((hl 0 s).length : Int), s, ()) := rfl
    rw [e]
    show some ((last, IntKind.i64.wrap (((hl 0 s).length : Int) - 1), (s.set (hs H).toNat ((s.getD (hs H).toNat sd).1, false, (s.getD (hs H).toNat sd).2.2.1, ())).set (hs H).toNat (((s.set (hs H).toNat ((s.getD (hs H).toNat sd).1, false, (s.getD (hs H).toNat sd).2.2.1, ())).getD (hs H).toNat sd).1, ((s.set (hs H).toNat ((s.getD (hs H).toNat sd).1, false, (s.getD (hs H).toNat sd).2.2.1, ())).getD (hs H).toNat sd).2.1, 0, ()), ()), ((0 : Int), ())) = _
    rw [w64 (by omega) (by omega), hz, hh]
    subst hs'
    rw [set_mid ha, get_mid ha, set_mid ha, set_mid ha]
    unfold A_of
    rw [hl_mid a b (z.1, false, 0, ()) ha]
    simp
    omega
theorem drop_R {last : Int} {s : List Sl} (h : Fit last s) (H : Int) : R02_Drop (R_of last s) H = some (R_of last (dropS s H), look s H, ()) := by
  unfold R02_Drop dropS
  rw [at_eq h]
  simp only [Option.bind_some]
  by_cases hq : look s H = 0
  · have hn := hl_len s 0
    have := h.n2
    rw [if_pos hq, bif_pos hq, if_pos hq]
    obtain ⟨a, z, b, hs', ha, hu, hz, hi, hh⟩ := idx_mid hq
    have e : (R_of last s).2.2.1 = hl 0 a ++ (hs H, z.2.2.1, ()) :: hl (hs H + 1) b := hh
    have el : (hl 0 s).length = (hl 0 a).length + 1 + (hl (hs H + 1) b).length := by rw [hh]; simp; omega
    have e1 : (R_of last s).2.2.1.length = (hl 0 s).length := rfl
    rw [hi, e1, chk_pos (by omega), w64 (by omega) (by omega)]
    have t1 : ((R_of last s).2.2.1.take ((hl 0 a).length : Int).toNat).drop (0 : Int).toNat = hl 0 a := by
      rw [e]; simp
    have t2 : ((R_of last s).2.2.1.take ((hl 0 s).length : Int).toNat).drop (((hl 0 a).length : Int) + 1).toNat = hl (hs H + 1) b := by
      rw [show ((hl 0 s).length : Int).toNat = (R_of last s).2.2.1.length by rw [e1]; omega, List.take_length, e, show (((hl 0 a).length : Int) + 1).toNat = (hl 0 a ++ [(hs H, z.2.2.1, ())]).length by simp only [List.length_append, List.length_cons, List.length_nil]; omega, show hl 0 a ++ (hs H, z.2.2.1, ()) :: hl (hs H + 1) b = (hl 0 a ++ [(hs H, z.2.2.1, ())]) ++ hl (hs H + 1) b by simp]; exact List.drop_left
    rw [t1, chk_pos (by omega), letv_eq, chk_pos (by omega), t2, chk_pos (by omega), letv_eq, hq, hz]
    subst hs'
    rw [set_mid ha]
    unfold R_of
    rw [hl_mid a b (z.1, false, 0, ()) ha]
    simp
  · rw [if_neg hq, bif_neg hq, if_neg hq]
/-! ### Who is open -/
def opn (last : Int) (z : Sl) : Prop := z.2.1 = false ∧ z.1 < last
instance (last : Int) (z : Sl) : Decidable (opn last z) := inferInstanceAs (Decidable (_ ∧ _))
theorem open_cases (last : Int) : ∀ s : List Sl, (∀ z ∈ s, ¬ opn last z) ∨ ∃ a z b, s = a ++ z :: b ∧ (∀ y ∈ a, ¬ opn last y) ∧ opn last z
  | [] => .inl fun z h => by cases h
  | z :: s => by
    by_cases h : opn last z
    · exact .inr ⟨[], z, s, rfl, (fun y h => by cases h), h⟩
    · rcases open_cases last s with h2 | ⟨a, y, b, rfl, h2, h3⟩
      · exact .inl fun y hy => by rcases List.mem_cons.1 hy with rfl | hy; exact h; exact h2 y hy
      · exact .inr ⟨z :: a, y, b, rfl, fun y hy => by rcases List.mem_cons.1 hy with rfl | hy; exact h; exact h2 y hy, h3⟩
theorem open_A {last m : Int} {s : List Sl} {i : Int} (h0 : 0 ≤ i) (h1 : i < (s.length : Int)) : arena_Table_int_open (last, m, s, ()) i = some ((last, m, s, ()), (decide (opn last (s.getD i.toNat sd)), ())) := by
  unfold arena_Table_int_open opn
  dsimp only
  rw [chk_pos ⟨h0, h1⟩, chk_pos ⟨h0, h1⟩, letv_eq, show (0, false, 0, ()) = sd from rfl]
  obtain ⟨z, hz⟩ : ∃ z, s.getD i.toNat sd = z := ⟨_, rfl⟩
  rw [hz]
  obtain ⟨g, u, x, _⟩ := z
  cases u <;> simp
theorem open_R {last : Int} {s : List Sl} (h : Fit last s) {i : Int} (h0 : 0 ≤ i) (h1 : i < (s.length : Int)) : R02_open (R_of last s) i = some (decide (opn last (s.getD i.toNat sd))) := by
  unfold R02_open opn
  rw [hl_find h h0 h1]
  simp only [Option.bind_some]
  rw [chk_pos (by rw [Rg_len]; exact ⟨h0, h1⟩), show (R_of last s).2.1 = s.map (·.1) from rfl, gens_at h0 h1, show (R_of last s).1 = last from rfl]
  obtain ⟨z, hz⟩ : ∃ z, s.getD i.toNat sd = z := ⟨_, rfl⟩
  rw [hz]
  obtain ⟨g, u, x, _⟩ := z
  cases u with
  | false => rw [if_neg (by simp), bif_pos (by decide)]; simp
  | true => rw [if_pos rfl, bif_neg (by omega)]; simp
theorem Add_loop {last : Int} {s : List Sl} (h : Fit last s) {X : Int} : arena_Table_int_Add (A_of last s) X = loop (arena_Table_int_Add_L1 (s.length : Int) X) (0, last, ((hl 0 s).length : Int), s) := by
  unfold arena_Table_int_Add
  rw [ok_eq (x := A_of last s) h.n1]
  exact bind_t ((cond_tt _ _).trans rfl)
theorem Free_loop {last : Int} {s : List Sl} (h : Fit last s) : arena_Table_int_Free (A_of last s) = loop (arena_Table_int_Free_L1 (s.length : Int)) (0, 0, last, ((hl 0 s).length : Int), s) := by
  unfold arena_Table_int_Free
  rw [ok_eq (x := A_of last s) h.n1]
  exact bind_t ((cond_tt _ _).trans rfl)
theorem Handles_loop {last : Int} {s : List Sl} (h : Fit last s) : arena_Table_int_Handles (A_of last s) = loop (arena_Table_int_Handles_L1 (s.length : Int) (A_of last s, (true, ()))) (0, []) := by
  unfold arena_Table_int_Handles
  rw [ok_eq (x := A_of last s) h.n1]
  exact bind_t ((cond_tt _ _).trans rfl)
/-- The slots behind a call of Add, if one was open. -/
theorem add_A {last : Int} {a b : List Sl} {z : Sl} (h : Fit last (a ++ z :: b)) (ha : ∀ y ∈ a, ¬ opn last y) (hz : opn last z) (X : Int) :
    arena_Table_int_Add (A_of last (a ++ z :: b)) X = some (A_of last (a ++ (z.1 + 1, true, X, ()) :: b), (4096 * (z.1 + 1) + a.length, 0, ())) := by
  have hg := h.gd
  have hz1 := hz.2
  have n2 := h.n2
  have l2 := h.l2
  have hhl := hl_len (a ++ z :: b) 0
  simp only [List.length_append, List.length_cons] at n2 hhl
  rw [Add_loop h]
  refine loop_up (fun y => y.1) ((a.length : Int) + 1) (fun y => 0 ≤ y.1 ∧ y.1 ≤ (a.length : Int) ∧ y.2 = (last, ((hl 0 (a ++ z :: b)).length : Int), a ++ z :: b)) (fun _ => some (A_of last (a ++ (z.1 + 1, true, X, ()) :: b), (4096 * (z.1 + 1) + a.length, 0, ()))) ⟨by omega, by omega, rfl⟩ (by show _ - 0 < _; omega) ?_
  rintro k ⟨i, _⟩ ⟨h0, h1, rfl⟩ hk
  simp only at h0 h1 hk ⊢
  unfold arena_Table_int_Add_L1
  simp only
  have hlen : i < (((a ++ z :: b).length : Nat) : Int) := by simp; omega
  rw [bif_pos hlen, open_A h0 hlen]
  simp only [Option.bind_some]
  by_cases hi : i = a.length
  · subst hi
    have e1 : (a ++ z :: b).getD ((a.length : Int)).toNat sd = z := get_mid rfl
    have e1' : (a ++ z :: b).getD ((a.length : Int)).toNat (0, false, 0, ()) = z := get_mid rfl
    rw [e1, decide_eq_true hz, cond_true, chk_pos (by simp; omega), letv_eq, letv_eq, letv_eq, e1', w64 (by omega) (by omega), set_mid rfl, get_mid rfl, set_mid rfl, get_mid rfl, set_mid rfl, get_mid rfl, make_eq (by omega) (by omega) (by omega) (by omega)]
    simp only [Option.bind_some]
    unfold A_of
    rw [w64 (by omega) (by omega), hl_mid a b z rfl, hl_mid a b (z.1 + 1, true, X, ()) rfl, hz.1]
    simp
    omega
  · have e2 : (a ++ z :: b).getD i.toNat sd ∈ a := by
      rw [getD_at (by simp; omega), List.getElem_append_left (by omega)]
      exact List.getElem_mem _
    rw [decide_eq_false (ha _ e2), cond_false, w64 (by omega) (by omega)]
    exact hk (by omega) _ ⟨by omega, by omega, rfl⟩ rfl
theorem full_A {last : Int} {s : List Sl} (h : Fit last s) (ha : ∀ y ∈ s, ¬ opn last y) (X : Int) : arena_Table_int_Add (A_of last s) X = some (A_of last s, (0, 10, ())) := by
  have n2 := h.n2
  rw [Add_loop h]
  refine loop_up (fun y => y.1) s.length (fun y => 0 ≤ y.1 ∧ y.1 ≤ (s.length : Int) ∧ y.2 = (last, ((hl 0 s).length : Int), s)) (fun _ => some (A_of last s, (0, 10, ()))) ⟨by omega, by omega, rfl⟩ (by show _ - 0 < _; omega) ?_
  rintro k ⟨i, _⟩ ⟨h0, h1, rfl⟩ hk
  simp only at h0 h1 hk ⊢
  unfold arena_Table_int_Add_L1
  simp only
  by_cases hi : i < (s.length : Int)
  · rw [bif_pos hi, open_A h0 hi]
    simp only [Option.bind_some]
    rw [decide_eq_false (ha _ (getD_mem h0 hi)), cond_false, w64 (by omega) (by omega)]
    exact hk hi _ ⟨by omega, by omega, rfl⟩ rfl
  · rw [bif_neg hi]; rfl
theorem filt_lt {a b : List Sl} {i : Int} (ha : (a.length : Int) = i) : (hl 0 a ++ hl (i + 1) b).filter (fun y => decide (y.1 < i)) = hl 0 a := by
  rw [List.filter_append, List.filter_eq_self.2 (fun y hy => by have := hl_in a 0 y hy; simp; omega), List.filter_eq_nil_iff.2 (fun y hy => by have := hl_in b (i + 1) y hy; simp; omega), List.append_nil]
theorem filt_gt {a b : List Sl} {i : Int} (ha : (a.length : Int) = i) : (hl 0 a ++ hl (i + 1) b).filter (fun y => decide (y.1 > i)) = hl (i + 1) b := by
  rw [List.filter_append, List.filter_eq_nil_iff.2 (fun y hy => by have := hl_in a 0 y hy; simp; omega), List.filter_eq_self.2 (fun y hy => by have := hl_in b (i + 1) y hy; simp; omega), List.nil_append]
theorem addR_lo (a0 : R) (x1 X : Int) (l1 : List Int) (hn : a0.2.2.1.length ≤ 4096) : loop (R02_Add_L2 a0 x1 X l1) (0, []) = R02_Add_J4 x1 X a0 l1 (a0.2.2.1.filter (fun y => decide (y.1 < x1))) := by
  refine (loop_up (fun y => y.1) a0.2.2.1.length (fun y => 0 ≤ y.1 ∧ (y.2.length : Int) ≤ y.1) (fun y => R02_Add_J4 x1 X a0 l1 (y.2 ++ (a0.2.2.1.drop y.1.toNat).filter (fun y => decide (y.1 < x1)))) ⟨by omega, by simp⟩ (by show _ - 0 < _; omega) ?_).trans (by simp)
  rintro k ⟨j, acc⟩ ⟨h0, h1⟩ hk
  simp only at h0 h1 hk ⊢
  unfold R02_Add_L2
  simp only
  by_cases hj : j < (a0.2.2.1.length : Int)
  · rw [bif_pos hj, chk_at h0 hj, drop_at (d := (0, 0, ())) h0 hj, w64 (by omega) (by omega)]
    by_cases hx : (a0.2.2.1.getD j.toNat (0, 0, ())).1 < x1
    · rw [bif_pos hx, chk_at h0 hj, chk_pos (by simp; omega), letv_eq, hk hj (j + 1, acc ++ [a0.2.2.1.getD j.toNat (0, 0, ())]) ⟨by simp only; omega, by simp; omega⟩ rfl]
      simp only [List.filter_cons, decide_eq_true hx, if_true]
      rw [List.append_assoc]; rfl
    · rw [bif_neg hx, hk hj (j + 1, acc) ⟨by simp only; omega, by simp only; omega⟩ rfl]
      simp only [List.filter_cons, decide_eq_false hx]
      rfl
  · rw [bif_neg hj, drop_end hj]; simp
theorem addR_hi (a0 : R) (x1 : Int) (l1 : List Int) (acc0 : List He) (hn : a0.2.2.1.length + acc0.length ≤ 10000) : loop (R02_Add_L1 a0 x1 l1) (0, acc0) = R02_Add_J3 x1 l1 a0 (acc0 ++ a0.2.2.1.filter (fun y => decide (y.1 > x1))) := by
  refine (loop_up (fun y => y.1) a0.2.2.1.length (fun y => 0 ≤ y.1 ∧ (y.2.length : Int) ≤ (acc0.length : Int) + y.1) (fun y => R02_Add_J3 x1 l1 a0 (y.2 ++ (a0.2.2.1.drop y.1.toNat).filter (fun y => decide (y.1 > x1)))) ⟨by omega, by simp⟩ (by show _ - 0 < _; omega) ?_).trans (by simp)
  rintro k ⟨j, acc⟩ ⟨h0, h1⟩ hk
  simp only at h0 h1 hk ⊢
  unfold R02_Add_L1
  simp only
  by_cases hj : j < (a0.2.2.1.length : Int)
  · rw [bif_pos hj, chk_at h0 hj, drop_at (d := (0, 0, ())) h0 hj, w64 (by omega) (by omega)]
    by_cases hx : (a0.2.2.1.getD j.toNat (0, 0, ())).1 > x1
    · rw [bif_pos hx, chk_at h0 hj, chk_pos (by simp; omega), letv_eq, hk hj (j + 1, acc ++ [a0.2.2.1.getD j.toNat (0, 0, ())]) ⟨by simp only; omega, by simp; omega⟩ rfl]
      simp only [List.filter_cons, decide_eq_true hx, if_true]
      rw [List.append_assoc]; rfl
    · rw [bif_neg hx, hk hj (j + 1, acc) ⟨by simp only; omega, by simp only; omega⟩ rfl]
      simp only [List.filter_cons, decide_eq_false hx]
      rfl
  · rw [bif_neg hj, drop_end hj]; simp
theorem add_R {last : Int} {a b : List Sl} {z : Sl} (h : Fit last (a ++ z :: b)) (ha : ∀ y ∈ a, ¬ opn last y) (hz : opn last z) (X : Int) :
    R02_Add (R_of last (a ++ z :: b)) X = some (R_of last (a ++ (z.1 + 1, true, X, ()) :: b), 4096 * (z.1 + 1) + a.length, 0, ()) := by
  have hg := h.gd
  have hz1 := hz.2
  have n2 := h.n2
  have l2 := h.l2
  have hhl := hl_len (a ++ z :: b) 0
  simp only [List.length_append, List.length_cons] at n2 hhl
  unfold R02_Add
  refine loop_up (fun y => y) ((a.length : Int) + 1) (fun y => 0 ≤ y ∧ y ≤ (a.length : Int)) (fun _ => some (R_of last (a ++ (z.1 + 1, true, X, ()) :: b), 4096 * (z.1 + 1) + a.length, 0, ())) ⟨by omega, by omega⟩ (by show _ - 0 < _; omega) ?_
  intro k i ⟨h0, h1⟩ hk
  unfold R02_Add_L3
  have hlen : i < (((a ++ z :: b).length : Nat) : Int) := by simp; omega
  rw [Rg_len, bif_pos hlen, open_R h h0 hlen]
  simp only [Option.bind_some]
  by_cases hi : i = a.length
  · subst hi
    have e1 : (a ++ z :: b).getD ((a.length : Int)).toNat sd = z := get_mid rfl
    have eg : (R_of last (a ++ z :: b)).2.1 = a.map (·.1) ++ z.1 :: b.map (·.1) := by unfold R_of; simp
    have et : (R_of last (a ++ z :: b)).2.2.1 = hl 0 a ++ hl (a.length + 1) b := by
      show hl 0 (a ++ z :: b) = _
      rw [hl_mid a b z rfl, hz.1]; rfl
    have eL : (R_of last (a ++ z :: b)).2.2.1.length ≤ 4096 := by show (hl 0 (a ++ z :: b)).length ≤ _; omega
    have ea : hl 0 (a ++ (z.1 + 1, true, X, ()) :: b) = hl 0 a ++ ([((a.length : Int), X, ())] ++ hl (a.length + 1) b) := by rw [hl_mid a b _ rfl]; rfl
    have q1 := hl_len a 0
    rw [e1, bnot_pos hz, chk_pos (by simp; omega), chk_pos ⟨h0, hlen⟩, chk_pos ⟨h0, hlen⟩, letv_eq, addR_lo _ _ _ _ eL, et, filt_lt rfl]
    unfold R02_Add_J4
    rw [chk_pos (by simp; omega), addR_hi _ _ _ _ (by simp; omega), et, filt_gt rfl, eg, get_mid (by simp), w64 (by omega) (by omega), set_mid (by simp)]
    unfold R02_Add_J3
    rw [chk_pos (by simp; omega), get_mid (by simp), make1 (by omega) (by omega) (by omega) (by omega)]
    simp only [Option.bind_some]
    unfold R_of
    rw [ea]
    simp
  · have e2 : (a ++ z :: b).getD i.toNat sd ∈ a := by
      rw [getD_at (by simp; omega), List.getElem_append_left (by omega)]
      exact List.getElem_mem _
    rw [bnot_neg (ha _ e2)]
    unfold R02_Add_J2
    rw [w64 (by omega) (by omega)]
    exact hk (by omega) _ ⟨by omega, by omega⟩ rfl
theorem full_R {last : Int} {s : List Sl} (h : Fit last s) (ha : ∀ y ∈ s, ¬ opn last y) (X : Int) : R02_Add (R_of last s) X = some (R_of last s, 0, 10, ()) := by
  have n2 := h.n2
  unfold R02_Add
  refine loop_up (fun y => y) s.length (fun y => 0 ≤ y) (fun _ => some (R_of last s, 0, 10, ())) (by omega) (by show _ - 0 < _; omega) ?_
  intro k i h0 hk
  unfold R02_Add_L3
  rw [Rg_len]
  by_cases hi : i < (s.length : Int)
  · rw [bif_pos hi, open_R h h0 hi]
    simp only [Option.bind_some]
    rw [bnot_neg (ha _ (getD_mem h0 hi))]
    unfold R02_Add_J2
    rw [w64 (by omega) (by omega)]
    exact hk hi _ (by omega) rfl
  · rw [bif_neg hi]; rfl
/-! ### How many are free; all handles -/
def cnt (last : Int) : List Sl → Int
  | [] => 0
  | z :: s => (if opn last z then 1 else 0) + cnt last s
theorem cnt_le (last : Int) : ∀ s : List Sl, 0 ≤ cnt last s ∧ cnt last s ≤ s.length
  | [] => by simp [cnt]
  | z :: s => by
    have := cnt_le last s
    simp only [cnt, List.length_cons]
    split <;> omega
theorem free_A {last : Int} {s : List Sl} (h : Fit last s) : arena_Table_int_Free (A_of last s) = some (A_of last s, (cnt last s, ())) := by
  have n2 := h.n2
  have hc := cnt_le last s
  rw [Free_loop h]
  refine (loop_up (fun y => y.2.1) s.length (fun y => 0 ≤ y.2.1 ∧ 0 ≤ y.1 ∧ y.1 ≤ y.2.1 ∧ y.2.2 = (last, ((hl 0 s).length : Int), s)) (fun y => some (A_of last s, (y.1 + cnt last (s.drop y.2.1.toNat), ()))) ⟨by simp, by simp, by simp, rfl⟩ (by show _ - 0 < _; omega) ?_).trans (by simp)
  rintro k ⟨c, i, _⟩ ⟨h0, h1, h2, rfl⟩ hk
  simp only at h0 h1 h2 hk ⊢
  unfold arena_Table_int_Free_L1
  simp only
  by_cases hi : i < (s.length : Int)
  · rw [bif_pos hi, open_A h0 hi, drop_at (d := sd) h0 hi]
    simp only [Option.bind_some, cnt]
    rw [w64 (x := i + 1) (by omega) (by omega), w64 (x := c + 1) (by omega) (by omega)]
    by_cases ho : opn last (s.getD i.toNat sd)
    · rw [bif_pos ho, if_pos ho, hk hi (c + 1, i + 1, last, _, s) ⟨by simp only; omega, by simp only; omega, by simp only; omega, rfl⟩ rfl]
      simp only
      congr 3
      omega
    · rw [bif_neg ho, if_neg ho, hk hi (c, i + 1, last, _, s) ⟨by simp only; omega, by simp only; omega, by simp only; omega, rfl⟩ rfl]
      simp only
      congr 3
      omega
  · rw [bif_neg hi, drop_end hi]
    simp [arena_Table_int_Free_J1, cnt, A_of]
theorem free_R {last : Int} {s : List Sl} (h : Fit last s) : R02_Free (R_of last s) = some (cnt last s) := by
  have n2 := h.n2
  have hc := cnt_le last s
  unfold R02_Free
  refine (loop_up (fun y => y.2) s.length (fun y => 0 ≤ y.2 ∧ 0 ≤ y.1 ∧ y.1 ≤ y.2) (fun y => some (y.1 + cnt last (s.drop y.2.toNat))) ⟨by simp, by simp, by simp⟩ (by show _ - 0 < _; omega) ?_).trans (by simp)
  rintro k ⟨c, i⟩ ⟨h0, h1, h2⟩ hk
  simp only at h0 h1 h2 hk ⊢
  unfold R02_Free_L1
  simp only
  rw [Rg_len]
  by_cases hi : i < (s.length : Int)
  · rw [bif_pos hi, open_R h h0 hi, drop_at (d := sd) h0 hi]
    simp only [Option.bind_some, cnt]
    rw [w64 (x := i + 1) (by omega) (by omega), w64 (x := c + 1) (by omega) (by omega)]
    by_cases ho : opn last (s.getD i.toNat sd)
    · rw [bif_pos ho, if_pos ho, hk hi (c + 1, i + 1) ⟨by simp only; omega, by simp only; omega, by simp only; omega⟩ rfl]
      simp only
      congr 1
      omega
    · rw [bif_neg ho, if_neg ho, hk hi (c, i + 1) ⟨by simp only; omega, by simp only; omega, by simp only; omega⟩ rfl]
      simp only
      congr 1
      omega
  · rw [bif_neg hi, drop_end hi]
    simp [R02_Free_J1, cnt]
def hnd : Int → List Sl → List Int
  | _, [] => []
  | k, x :: s => if x.2.1 = true then (4096 * x.1 + k) :: hnd (k + 1) s else hnd (k + 1) s
theorem hnd_len : ∀ (s : List Sl) (k : Int), (hnd k s).length ≤ s.length
  | [], k => by simp [hnd]
  | y :: s, k => by
    have := hnd_len s (k + 1)
    simp only [hnd, List.length_cons]
    split <;> simp <;> omega
theorem handles_A {last : Int} {s : List Sl} (h : Fit last s) : arena_Table_int_Handles (A_of last s) = some (A_of last s, (hnd 0 s, ())) := by
  have n2 := h.n2
  have l2 := h.l2
  rw [Handles_loop h]
  refine (loop_up (fun y => y.1) s.length (fun y => 0 ≤ y.1 ∧ (y.2.length : Int) ≤ y.1) (fun y => some (A_of last s, (y.2 ++ hnd y.1 (s.drop y.1.toNat), ()))) ⟨by simp, by simp⟩ (by show _ - 0 < _; omega) ?_).trans (by simp)
  rintro k ⟨i, acc⟩ ⟨h0, h1⟩ hk
  simp only at h0 h1 hk ⊢
  unfold arena_Table_int_Handles_L1
  simp only
  by_cases hi : i < (s.length : Int)
  · rw [bif_pos hi, chk_pos (show 0 ≤ i ∧ i < (((A_of last s).2.2.1.length : Nat) : Int) from ⟨h0, hi⟩), drop_at (d := sd) h0 hi]
    simp only [hnd]
    rw [show ((A_of last s).2.2.1.getD i.toNat (0, false, 0, ())) = s.getD i.toNat sd from rfl, w64 (by omega) (by omega)]
    have hg := h.gen _ (getD_mem (d := sd) h0 hi)
    cases hu : (s.getD i.toNat sd).2.1 with
    | true =>
      have := hg.2.2 hu
      rw [cond_true, if_pos rfl, make_eq (by omega) (by omega) (by omega) (by omega)]
      simp only [Option.bind_some]
      rw [chk_pos (by simp; omega), hk hi (i + 1, _) ⟨by simp only; omega, by simp; omega⟩ rfl]
      simp
    | false =>
      rw [cond_false, if_neg (by decide), hk hi (i + 1, _) ⟨by simp only; omega, by simp only; omega⟩ rfl]
  · rw [bif_neg hi, drop_end hi]
    simp [arena_Table_int_Handles_J1, hnd]
theorem hnd_map : ∀ (s a : List Sl), (hl a.length s).map (fun y => 4096 * ((a ++ s).map (·.1)).getD y.1.toNat 0 + y.1) = hnd a.length s
  | [], a => by simp [hl, hnd]
  | x :: s, a => by
    have ih := hnd_map s (a ++ [x])
    simp only [List.length_append, List.length_cons, List.length_nil, List.append_assoc, List.singleton_append] at ih
    have e : ((a.length : Int) + 1) = (((a.length + (0 + 1) : Nat)) : Int) := by omega
    simp only [hl, hnd, e]
    split
    · rw [List.map_cons, ih]
      have : ((a ++ x :: s).map (·.1)).getD ((a.length : Int)).toNat 0 = x.1 := by rw [List.map_append, List.map_cons]; exact get_mid (by simp)
      simp only [this]
    · exact ih
theorem handles_R {last : Int} {s : List Sl} (h : Fit last s) : R02_Handles (R_of last s) = some (hnd 0 s) := by
  have n2 := h.n2
  have l2 := h.l2
  have hn := hl_len s 0
  unfold R02_Handles
  refine (loop_up (fun y => y.1) (hl 0 s).length (fun y => 0 ≤ y.1 ∧ (y.2.length : Int) ≤ y.1) (fun y => some (y.2 ++ ((hl 0 s).drop y.1.toNat).map (fun y => 4096 * (s.map (·.1)).getD y.1.toNat 0 + y.1))) ⟨by simp, by simp⟩ (by show _ - 0 < _; omega) ?_).trans (by
    have := hnd_map s []
    simp only [List.length_nil, List.nil_append] at this
    simp only [List.nil_append, show (0 : Int).toNat = 0 from rfl, List.drop_zero]
    exact congrArg some this)
  rintro k ⟨i, acc⟩ ⟨h0, h1⟩ hk
  simp only at h0 h1 hk ⊢
  unfold R02_Handles_L1
  simp only
  by_cases hi : i < ((hl 0 s).length : Int)
  · rw [bif_pos (show i < (((R_of last s).2.2.1.length : Nat) : Int) from hi), chk_pos (show 0 ≤ i ∧ i < (((R_of last s).2.2.1.length : Nat) : Int) from ⟨h0, hi⟩), drop_at (d := (0, 0, ())) h0 hi, Rg_len]
    rw [show ((R_of last s).2.2.1.getD i.toNat (0, 0, ())) = (hl 0 s).getD i.toNat (0, 0, ()) from rfl, show (R_of last s).2.1 = s.map (·.1) from rfl]
    have hm := getD_mem (d := (0, 0, ())) h0 hi
    obtain ⟨y, hy⟩ : ∃ y, y = (hl 0 s).getD i.toNat (0, 0, ()) := ⟨_, rfl⟩
    rw [← hy] at hm ⊢
    obtain ⟨m1, m2⟩ := hl_in s 0 y hm
    have m3 : 0 ≤ y.1 ∧ y.1 < (s.length : Int) := by omega
    have hg := h.gen _ (getD_mem (d := sd) m3.1 m3.2)
    have hu : (s.getD y.1.toNat sd).2.1 = true := by
      obtain ⟨a, z, b, rfl, ha, hz⟩ := split_at (d := sd) m3.1 m3.2
      rw [hz]
      rw [hl_mid a b z ha] at hm
      rcases List.mem_append.1 hm with hm | hm
      · exact absurd rfl (hl_ne ha y hm)
      · rcases List.mem_append.1 hm with hm | hm
        · split at hm
          · assumption
          · cases hm
        · exact absurd rfl (hl_ne2 y hm)
    have := hg.2.2 hu
    rw [chk_pos m3, gens_at m3.1 m3.2, make1 (by omega) (by omega) (by omega) (by omega)]
    simp only [Option.bind_some]
    rw [chk_pos (by simp; omega), w64 (by omega) (by omega), hk hi (i + 1, _) ⟨by simp only; omega, by simp; omega⟩ rfl, List.map_cons, gens_at m3.1 m3.2]
    simp
  · rw [bif_neg (show ¬ i < (((R_of last s).2.2.1.length : Nat) : Int) from hi), drop_end hi]
    simp [R02_Handles_J1]
theorem len_A {last : Int} {s : List Sl} (h : Fit last s) : arena_Table_int_Len (A_of last s) = some (A_of last s, (((hl 0 s).length : Int), ())) := by
  unfold arena_Table_int_Len
  rw [ok_eq (x := A_of last s) h.n1]
  rfl
theorem as_eq {last : Int} {s : List Sl} (h : Fit last s) (H : Int) : L02_as (A_of last s) (R_of last s) H = some (A_of last s, (true, ())) := by
  have n2 := h.n2
  have hn := hnd_len s 0
  unfold L02_as
  rw [get_A h, get_R h]
  simp only [Option.bind_some]
  rw [cutv_eq]
  unfold L02_as_C1
  dsimp only
  rw [bif_pos rfl, bif_pos rfl, handles_A h, handles_R h]
  simp only [Option.bind_some]
  rw [lists0.same_eq _ _ (by omega), decide_eq_true rfl]
  simp only [Option.bind_some, cond_true]
  rw [len_A h]
  simp only [Option.bind_some]
  rw [bif_pos (show ((hl 0 s).length : Int) = ((R_of last s).2.2.1.length : Int) from rfl), free_A h, free_R h]
  simp [L02_as_R1, A_of]
end Ar
end Go.Proofs.YtiicmhholjpcbaaV
