/- Tables of processes: what the functions of frames and of tables answer. -/
import Derived.Test.YtejedlpnejjnbaaSMlists0
import Derived.Test.YtejedlpnejjnbaaSDL31
namespace Go.Proofs.YtejedlpnejjnbaaSV
set_option linter.unusedVariables false
set_option linter.unusedSimpArgs false
open Go.RowKit
namespace PR
abbrev FR : Type := Int × Bool × (List Int) × (List Int) × Int × (List Int) × Unit
abbrev GD : Type := Int × Int × Int × Int × Int × Unit
abbrev P : Type := Int × Bool × Int × FR × Int × Int × Int × (List GD) × Unit
def f0 : FR := (0, false, (List.replicate 8 0), (List.replicate 16 0), 0, (List.replicate 8 0), ())
def p0 : P := (0, false, 0, (0, false, (List.replicate 8 0), (List.replicate 16 0), 0, (List.replicate 8 0), ()), 0, 0, 0, [], ())
theorem bs1 {b x : Bool} : (cond b (some x) (some false) : Option Bool) = some (b && x) := by cases b <;> rfl
theorem bs4 {b x : Bool} : (cond b (some false) (some x) : Option Bool) = some (!b && x) := by cases b <;> rfl
def wordOk (n : Int) : Bool := decide (n ≥ -2147483648) && decide (n ≤ 2147483647)
def placeOk (n : Int) : Bool := decide (n ≥ 0) && decide (n ≤ 64)
theorem word_eq (n : Int) : word_Fine n = some (wordOk n) := by unfold word_Fine; rw [bs1]; rfl
theorem rword_eq (n : Int) : R08_Fine n = some (wordOk n) := by unfold R08_Fine; rw [bs1]; rfl
theorem place_eq (n : Int) : frame_place n = some (placeOk n) := by unfold frame_place; rw [bs1]; rfl
theorem rplace_eq (n : Int) : R13_Place n = some (placeOk n) := by unfold R13_Place; rw [bs1]; rfl
theorem all_at {xs : List Int} {p : Int → Bool} {j : Int} (h0 : 0 ≤ j) (hj : j < (xs.length : Int)) : (xs.drop j.toNat).all p = (p (xs.getD j.toNat 0) && (xs.drop (j + 1).toNat).all p) := by
  rw [drop_at (d := 0) h0 hj]; rfl
theorem all_end {xs : List Int} {p : Int → Bool} {j : Int} (hj : ¬ j < (xs.length : Int)) : (xs.drop j.toNat).all p = true := by
  rw [drop_end hj]; rfl

/-! ### Frames -/
theorem L1_eq (xs : List Int) (k1 : (Bool × Int × Bool × List Int × List Int × Int × List Int) → Option Bool) (a : FR) (hl : xs.length ≤ 64) :
    loop (frame_Fine_L1 (xs.length : Int) xs k1 a) 0 = k1 (xs.all wordOk, a.1, a.2.1, a.2.2.1, a.2.2.2.1, a.2.2.2.2.1, a.2.2.2.2.2.1) := by
  refine (loop_up (fun j => j) xs.length (fun j => 0 ≤ j) (fun j => k1 ((xs.drop j.toNat).all wordOk, a.1, a.2.1, a.2.2.1, a.2.2.2.1, a.2.2.2.2.1, a.2.2.2.2.2.1)) (by simp) (by simp; omega) ?_).trans (by simp)
  intro k j (h0 : 0 ≤ j) hk
  unfold frame_Fine_L1 frame_Fine_J1
  by_cases hj : j < (xs.length : Int)
  · have hk := hk hj (j + 1) (by omega) rfl
    rw [bif_pos hj, chk_at h0 hj, word_eq, Option.bind_some, w64 (by omega) (by omega), hk, all_at h0 hj, decide_eq_true (by omega : j ≥ 0)]
    cases wordOk (xs.getD j.toNat 0) <;> rfl
  · rw [bif_neg hj, all_end hj]
theorem L2_eq (xs : List Int) (k3 : (Bool × Int × Bool × List Int × List Int × Int × List Int) → Option Bool) (x : Bool × Int × Bool × List Int × List Int × Int × List Int) (hl : xs.length ≤ 64) :
    loop (frame_Fine_L2 (xs.length : Int) xs k3 x) 0 = k3 (xs.all wordOk, x.2.1, x.2.2.1, x.2.2.2.1, x.2.2.2.2.1, x.2.2.2.2.2.1, x.2.2.2.2.2.2) := by
  refine (loop_up (fun j => j) xs.length (fun j => 0 ≤ j) (fun j => k3 ((xs.drop j.toNat).all wordOk, x.2.1, x.2.2.1, x.2.2.2.1, x.2.2.2.2.1, x.2.2.2.2.2.1, x.2.2.2.2.2.2)) (by simp) (by simp; omega) ?_).trans (by simp)
  intro k j (h0 : 0 ≤ j) hk
  unfold frame_Fine_L2 frame_Fine_J2
  by_cases hj : j < (xs.length : Int)
  · have hk := hk hj (j + 1) (by omega) rfl
    rw [bif_pos hj, chk_at h0 hj, word_eq, Option.bind_some, w64 (by omega) (by omega), hk, all_at h0 hj, decide_eq_true (by omega : j ≥ 0)]
    cases wordOk (xs.getD j.toNat 0) <;> rfl
  · rw [bif_neg hj, all_end hj]
theorem L3_eq (xs : List Int) (k5 : (Bool × Int × Bool × List Int × List Int × Int × List Int) → Option Bool) (x : Bool × Int × Bool × List Int × List Int × Int × List Int) (hl : xs.length ≤ 64) :
    loop (frame_Fine_L3 (xs.length : Int) xs k5 x) 0 = k5 (xs.all placeOk, x.2.1, x.2.2.1, x.2.2.2.1, x.2.2.2.2.1, x.2.2.2.2.2.1, x.2.2.2.2.2.2) := by
  refine (loop_up (fun j => j) xs.length (fun j => 0 ≤ j) (fun j => k5 ((xs.drop j.toNat).all placeOk, x.2.1, x.2.2.1, x.2.2.2.1, x.2.2.2.2.1, x.2.2.2.2.2.1, x.2.2.2.2.2.2)) (by simp) (by simp; omega) ?_).trans (by simp)
  intro k j (h0 : 0 ≤ j) hk
  unfold frame_Fine_L3 frame_Fine_J3
  by_cases hj : j < (xs.length : Int)
  · have hk := hk hj (j + 1) (by omega) rfl
    rw [bif_pos hj, chk_at h0 hj, place_eq, Option.bind_some, w64 (by omega) (by omega), hk, all_at h0 hj, decide_eq_true (by omega : j ≥ 0)]
    cases placeOk (xs.getD j.toNat 0) <;> rfl
  · rw [bif_neg hj, all_end hj]
def zeroOk (n : Int) : Bool := decide (n = 0)
theorem L4_eq (xs : List Int) (k7 : Bool → Option Bool) (hl : xs.length ≤ 64) :
    loop (frame_Fine_L4 (xs.length : Int) xs k7) 0 = k7 (xs.all zeroOk) := by
  refine (loop_up (fun j => j) xs.length (fun j => 0 ≤ j) (fun j => k7 ((xs.drop j.toNat).all zeroOk)) (by simp) (by simp; omega) ?_).trans (by simp)
  intro k j (h0 : 0 ≤ j) hk
  unfold frame_Fine_L4 frame_Fine_J4 frame_Fine_1
  by_cases hj : j < (xs.length : Int)
  · have hk := hk hj (j + 1) (by omega) rfl
    rw [bif_pos hj, chk_at h0 hj, Option.bind_some, w64 (by omega) (by omega), hk, all_at h0 hj, decide_eq_true (by omega : j ≥ 0), show decide (xs.getD j.toNat 0 = 0) = zeroOk (xs.getD j.toNat 0) from rfl]
    cases zeroOk (xs.getD j.toNat 0) <;> rfl
  · rw [bif_neg hj, all_end hj]
/-- A frame's lists are as long as they are to be. -/
def WfF (f : FR) : Prop := f.2.2.1.length = 8 ∧ f.2.2.2.1.length = 16 ∧ f.2.2.2.2.2.1.length = 8
def ffOk (f : FR) : Bool := placeOk f.1 && (decide (0 ≤ f.2.2.2.2.1) && (decide (f.2.2.2.2.1 ≤ 8) && (f.2.2.1.all wordOk && (f.2.2.2.1.all wordOk && ((f.2.2.2.2.2.1.take f.2.2.2.2.1.toNat).all placeOk && (f.2.2.2.2.2.1.drop f.2.2.2.2.1.toNat).all zeroOk)))))
theorem C1_eq (a : FR) (k1 : (Bool × Int × Bool × List Int × List Int × Int × List Int) → Option Bool) (h : a.2.2.1.length = 8) : frame_Fine_C1 a k1 = k1 (a.2.2.1.all wordOk, a.1, a.2.1, a.2.2.1, a.2.2.2.1, a.2.2.2.2.1, a.2.2.2.2.2.1) := by
  unfold frame_Fine_C1
  have t1 : (List.drop (0 : Int).toNat (List.take (8 : Int).toNat a.2.2.1)) = a.2.2.1 := by
    show List.take 8 a.2.2.1 = a.2.2.1; rw [List.take_of_length_le (by omega)]
  rw [t1]; exact L1_eq _ _ _ (by omega)
theorem C2_eq (x : Bool × Int × Bool × List Int × List Int × Int × List Int) (k : (Bool × Int × Bool × List Int × List Int × Int × List Int) → Option Bool) (h : x.2.2.2.2.1.length = 16) : frame_Fine_C2 x k = k (x.2.2.2.2.1.all wordOk, x.2.1, x.2.2.1, x.2.2.2.1, x.2.2.2.2.1, x.2.2.2.2.2.1, x.2.2.2.2.2.2) := by
  unfold frame_Fine_C2
  have t1 : (List.drop (0 : Int).toNat (List.take (16 : Int).toNat x.2.2.2.2.1)) = x.2.2.2.2.1 := by
    show List.take 16 x.2.2.2.2.1 = x.2.2.2.2.1; rw [List.take_of_length_le (by omega)]
  rw [t1]; exact L2_eq _ _ _ (by omega)
theorem C3_eq (x : Bool × Int × Bool × List Int × List Int × Int × List Int) (k : (Bool × Int × Bool × List Int × List Int × Int × List Int) → Option Bool) (h : x.2.2.2.2.2.2.length = 8) : frame_Fine_C3 x k = k ((x.2.2.2.2.2.2.take x.2.2.2.2.2.1.toNat).all placeOk, x.2.1, x.2.2.1, x.2.2.2.1, x.2.2.2.2.1, x.2.2.2.2.2.1, x.2.2.2.2.2.2) := by
  unfold frame_Fine_C3
  have t1 : (List.drop (0 : Int).toNat (List.take x.2.2.2.2.2.1.toNat x.2.2.2.2.2.2)) = List.take x.2.2.2.2.2.1.toNat x.2.2.2.2.2.2 := rfl
  rw [t1]; exact L3_eq _ _ _ (by simp; omega)
theorem C4_eq (x : Bool × Int × Bool × List Int × List Int × Int × List Int) (k : Bool → Option Bool) (h : x.2.2.2.2.2.2.length = 8) : frame_Fine_C4 x k = k ((x.2.2.2.2.2.2.drop x.2.2.2.2.2.1.toNat).all zeroOk) := by
  unfold frame_Fine_C4
  have t1 : (List.take (8 : Int).toNat x.2.2.2.2.2.2) = x.2.2.2.2.2.2 := by
    show List.take 8 x.2.2.2.2.2.2 = x.2.2.2.2.2.2; rw [List.take_of_length_le (by omega)]
  rw [t1]; exact L4_eq _ _ (by simp; omega)
theorem ff_eq (f : FR) (h : WfF f) : frame_Fine f = some (ffOk f) := by
  obtain ⟨h1, h2, h3⟩ := h
  unfold frame_Fine
  rw [place_eq, Option.bind_some, cutv_eq, C1_eq _ _ h1]
  unfold frame_Fine_R1
  rw [cutv_eq, C2_eq _ _ h2]
  unfold frame_Fine_R2
  rw [cutv_eq, C3_eq _ _ h3]
  unfold frame_Fine_R3
  rw [cutv_eq, C4_eq _ _ h3]
  unfold frame_Fine_R4 ffOk
  obtain ⟨pc, bad, regs, words, d, st, u⟩ := f
  simp only at h1 h2 h3 ⊢
  by_cases q1 : d < 0
  · rw [bif_pos q1, decide_eq_false (by omega : ¬ 0 ≤ d)]
    cases placeOk pc <;> rfl
  · rw [bif_neg q1]
    by_cases q2 : d > 8
    · rw [bif_pos q2, decide_eq_false (by omega : ¬ d ≤ 8)]
      cases placeOk pc <;> cases decide (0 ≤ d) <;> rfl
    · rw [bif_neg q2, chk_pos (by omega), chk_pos (by omega), chk_pos (by omega), chk_pos (by omega), decide_eq_true (by omega : 0 ≤ d), decide_eq_true (by omega : d ≤ 8)]
      cases placeOk pc <;> cases regs.all wordOk <;> cases words.all wordOk <;> cases (st.take d.toNat).all placeOk <;> rfl
def stOk (d : Int) : Int → List Int → Bool
  | _, [] => true
  | j, x :: l => (cond (decide (j < d)) (placeOk x) (zeroOk x)) && stOk d (j + 1) l
theorem stOk_ge {d : Int} : ∀ (l : List Int) (j : Int), d ≤ j → stOk d j l = l.all zeroOk
  | [], j, h => rfl
  | x :: l, j, h => by
    rw [stOk, decide_eq_false (by omega), stOk_ge l (j + 1) (by omega)]; rfl
theorem stOk_eq {d : Int} : ∀ (l : List Int) (j : Int), j ≤ d → stOk d j l = ((l.take (d - j).toNat).all placeOk && (l.drop (d - j).toNat).all zeroOk)
  | [], j, h => by simp [stOk]
  | x :: l, j, h => by
    by_cases hj : j = d
    · subst hj
      rw [stOk_ge _ _ (Int.le_refl _), Int.sub_self]
      simp
    · rw [stOk, decide_eq_true (by omega), stOk_eq l (j + 1) (by omega), show (d - j).toNat = (d - (j + 1)).toNat + 1 by omega]
      simp only [cond_true, List.take_succ_cons, List.drop_succ_cons, List.all_cons, Bool.and_assoc]
theorem rL1_eq (xs : List Int) (hl : xs.length = 16) : loop (R13_Fine_L1 xs) 0 = some (xs.all wordOk) := by
  refine (loop_up (fun j => j) 16 (fun j => 0 ≤ j) (fun j => some ((xs.drop j.toNat).all wordOk)) (by simp) (by simp) ?_).trans (by simp)
  intro k j (h0 : 0 ≤ j) hk
  unfold R13_Fine_L1 R13_Fine_J1
  by_cases hj : j < 16
  · have hk := hk hj (j + 1) (by omega) rfl
    rw [bif_pos hj, chk_pos (by omega), rword_eq, Option.bind_some, w64 (by omega) (by omega), hk, all_at h0 (by omega)]
    cases wordOk (xs.getD j.toNat 0) <;> rfl
  · rw [bif_neg hj, all_end (by omega)]
theorem stOk_at {d : Int} {xs : List Int} {j : Int} (h0 : 0 ≤ j) (hj : j < (xs.length : Int)) : stOk d j (xs.drop j.toNat) = (cond (decide (j < d)) (placeOk (xs.getD j.toNat 0)) (zeroOk (xs.getD j.toNat 0)) && stOk d (j + 1) (xs.drop (j + 1).toNat)) := by
  rw [drop_at (d := 0) h0 hj]; rfl
theorem rff_eq (f : FR) (h : WfF f) : R13_Fine f = some (ffOk f) := by
  obtain ⟨pc, bad, regs, words, d, st, u⟩ := f
  obtain ⟨h1, h2, h3⟩ := h
  simp only at h1 h2 h3
  unfold R13_Fine
  rw [rplace_eq, Option.bind_some]
  have key : loop R13_Fine_L2 (0, pc, bad, regs, words, d, st) = some (regs.all wordOk && (stOk d 0 st && words.all wordOk)) := by
    refine (loop_up (fun x => x.1) 8 (fun x => ∃ j, 0 ≤ j ∧ x = (j, pc, bad, regs, words, d, st)) (fun x => some ((regs.drop x.1.toNat).all wordOk && (stOk d x.1 (st.drop x.1.toNat) && words.all wordOk))) ⟨0, by omega, rfl⟩ (by simp) ?_).trans (by simp)
    rintro k _ ⟨j, h0, rfl⟩ hk
    simp only at hk ⊢
    unfold R13_Fine_L2
    by_cases hj : j < 8
    · have hk := hk hj (j + 1, pc, bad, regs, words, d, st) ⟨j + 1, by omega, rfl⟩ rfl
      simp only [cutv_eq, R13_Fine_C1, R13_Fine_R1]
      rw [bif_pos hj, chk_pos (by omega), rword_eq, Option.bind_some, w64 (by omega) (by omega), hk, all_at h0 (by omega), stOk_at h0 (by omega), rplace_eq, Option.bind_some, chk_pos (by omega), chk_pos (by omega)]
      rw [show decide (st.getD j.toNat 0 = 0) = zeroOk (st.getD j.toNat 0) from rfl]
      by_cases hd : j < d
      · rw [decide_eq_true hd, decide_eq_false (by omega : ¬ j ≥ d)]
        cases wordOk (regs.getD j.toNat 0) <;> cases placeOk (st.getD j.toNat 0) <;> simp
      · rw [decide_eq_false hd, decide_eq_true (by omega : j ≥ d)]
        cases wordOk (regs.getD j.toNat 0) <;> cases zeroOk (st.getD j.toNat 0) <;> simp
    · rw [bif_neg hj, R13_Fine_J2, rL1_eq _ h2, all_end (by omega), show st.drop j.toNat = [] from drop_end (by omega)]
      rfl
  rw [key]
  simp only [ffOk]
  by_cases q1 : d < 0
  · rw [bif_pos q1, decide_eq_false (by omega : ¬ 0 ≤ d)]
    cases placeOk pc <;> rfl
  · rw [bif_neg q1]
    by_cases q2 : d > 8
    · rw [bif_pos q2, decide_eq_false (by omega : ¬ d ≤ 8)]
      cases placeOk pc <;> cases decide (0 ≤ d) <;> rfl
    · rw [bif_neg q2, stOk_eq _ _ (by omega), Int.sub_zero, decide_eq_true (by omega : 0 ≤ d), decide_eq_true (by omega : d ≤ 8)]
      cases placeOk pc <;> cases regs.all wordOk <;> cases words.all wordOk <;> cases (st.take d.toNat).all placeOk <;> simp
/-! ### Places -/
theorem bs5 {α : Type} {b : Bool} {x y : α} : (cond b (some x) (some y) : Option α) = some (cond b x y) := by cases b <;> rfl
def FB (f : FR) : Bool := (decide (f.1 = 0)) && ((f.2.1 == false) && ((decide ((f.2.2.1 : List Int) = (List.replicate 8 0))) && ((decide ((f.2.2.2.1 : List Int) = (List.replicate 16 0))) && ((decide (f.2.2.2.2.1 = 0)) && ((decide ((f.2.2.2.2.2.1 : List Int) = (List.replicate 8 0))) && true)))))
def bareOk (x : P) : Bool := decide (x.2.2.1 = 0) && (FB x.2.2.2.1 && (decide (x.2.2.2.2.1 = 0) && (decide (x.2.2.2.2.2.1 = 0) && (decide (x.2.2.2.2.2.2.1 = 0) && decide ((x.2.2.2.2.2.2.2.1.length : Int) = 0)))))
theorem bare_eq (x : P) : proc_bare x = some (bareOk x) := by
  unfold proc_bare
  simp only [letv_eq, bs1]
  rfl
theorem guards_nil (l : List GD) : R15_SameGuards l [] = some (decide ((l.length : Int) = 0)) := by
  unfold R15_SameGuards
  by_cases h : (l.length : Int) = 0
  · rw [bnot_pos (by simpa using h), decide_eq_true h]
    refine (loop_up (fun j => j) l.length (fun j => j = 0) (fun j => some true) rfl (by omega) ?_).trans rfl
    rintro k _ rfl hk
    unfold R15_SameGuards_L1
    rw [bif_neg (by omega)]; rfl
  · rw [bnot_neg (by simpa using h), decide_eq_false h]
theorem guards_refl (l : List GD) (hl : l.length ≤ 140737488355328) : R15_SameGuards l l = some true := by
  unfold R15_SameGuards
  rw [bnot_pos rfl]
  refine (loop_up (fun j => j) l.length (fun j => 0 ≤ j) (fun j => some true) (by simp) (by omega) ?_).trans rfl
  intro k j (h0 : 0 ≤ j) hk
  unfold R15_SameGuards_L1
  by_cases hj : j < (l.length : Int)
  · have hk := hk hj (j + 1) (by omega) rfl
    rw [bif_pos hj, chk_at h0 hj, chk_at h0 hj, w64 (by omega) (by omega), hk]
    simp
  · rw [bif_neg hj]; rfl
theorem rbare_eq (x : P) : R31_SameProc x (x.1, false, 0, (0, false, (List.replicate 8 0), (List.replicate 16 0), 0, (List.replicate 8 0), ()), 0, 0, 0, [], ()) = some ((x.2.1 == false) && bareOk x) := by
  unfold R31_SameProc
  rw [guards_nil]
  simp only [Option.bind_some, bs1, decide_true, Bool.true_and]
  rfl
theorem proc_refl (x : P) (hl : x.2.2.2.2.2.2.2.1.length ≤ 140737488355328) : R31_SameProc x x = some true := by
  unfold R31_SameProc
  rw [guards_refl _ hl]
  simp
def oneOk (x : P) : Bool := decide (0 ≤ x.1) && (decide (x.1 ≤ 65535) && (cond x.2.1 (decide (x.1 > 0) && (decide (x.2.2.2.2.1 ≥ 0) && (decide (x.2.2.2.2.1 ≤ 3) && (ffOk x.2.2.2.1 && (decide (x.2.2.2.2.1 = 1) == decide ((x.2.2.2.2.2.2.2.1.length : Int) > 0)))))) (bareOk x)))
theorem one_eq (x : P) (h : WfF x.2.2.2.1) : proc_one x = some (oneOk x) := by
  unfold proc_one oneOk
  rw [bare_eq, ff_eq _ h]
  simp only [Option.bind_some, letv_eq, bs5]
  congr 1
  by_cases g1 : x.1 < 0
  · rw [decide_eq_true g1, decide_eq_false (by omega : ¬ 0 ≤ x.1)]; rfl
  · rw [decide_eq_false g1, decide_eq_true (by omega : 0 ≤ x.1)]
    by_cases g2 : x.1 > 65535
    · rw [decide_eq_true g2, decide_eq_false (by omega : ¬ x.1 ≤ 65535)]; rfl
    · rw [decide_eq_false g2, decide_eq_true (by omega : x.1 ≤ 65535)]
      cases x.2.1
      · rfl
      · cases decide (x.1 > 0) <;> cases decide (x.2.2.2.2.1 ≥ 0) <;> cases decide (x.2.2.2.2.1 ≤ 3) <;> cases ffOk x.2.2.2.1 <;> rfl
theorem rone_eq (t : List P) (i : Int) (k : (List P × Int) → Option Bool) (h0 : 0 ≤ i) (hi : i < (t.length : Int)) (h : WfF (t.getD i.toNat p0).2.2.2.1) :
    R31_Fine_C1 (t, i) k = cond (oneOk (t.getD i.toNat p0)) (k (t, i)) (some false) := by
  unfold R31_Fine_C1 oneOk
  simp only
  rw [chk_at h0 hi]
  change WfF (t.getD i.toNat (0, false, 0, (0, false, (List.replicate 8 0), (List.replicate 16 0), 0, (List.replicate 8 0), ()), 0, 0, 0, [], ())).2.2.2.1 at h
  unfold p0
  generalize t.getD i.toNat (0, false, 0, (0, false, (List.replicate 8 0), (List.replicate 16 0), 0, (List.replicate 8 0), ()), 0, 0, 0, [], ()) = x at h ⊢
  rw [rbare_eq, rff_eq _ h]
  simp only [Option.bind_some]
  by_cases g1 : x.1 < 0
  · rw [bif_pos g1, decide_eq_false (by omega : ¬ 0 ≤ x.1)]; rfl
  · rw [bif_neg g1, decide_eq_true (by omega : 0 ≤ x.1)]
    by_cases g2 : x.1 > 65535
    · rw [bif_pos g2, decide_eq_false (by omega : ¬ x.1 ≤ 65535)]; rfl
    · rw [bif_neg g2, decide_eq_true (by omega : x.1 ≤ 65535)]
      cases hl : x.2.1
      · cases bareOk x <;> rfl
      · by_cases g3 : x.1 = 0
        · simp [g3]
        · rw [bif_neg g3, decide_eq_true (by omega : x.1 > 0)]
          by_cases m1 : x.2.2.2.2.1 < 0
          · rw [bif_pos m1, decide_eq_false (by omega : ¬ x.2.2.2.2.1 ≥ 0)]; rfl
          · rw [bif_neg m1, decide_eq_true (by omega : x.2.2.2.2.1 ≥ 0)]
            by_cases m2 : x.2.2.2.2.1 > 3
            · rw [bif_pos m2, decide_eq_false (by omega : ¬ x.2.2.2.2.1 ≤ 3)]; rfl
            · rw [bif_neg m2, decide_eq_true (by omega : x.2.2.2.2.1 ≤ 3)]
              cases ffOk x.2.2.2.1
              · rfl
              · by_cases m3 : x.2.2.2.2.1 = 1
                · by_cases q : (x.2.2.2.2.2.2.2.1.length : Int) = 0
                  · simp [m3, q]
                  · have : (x.2.2.2.2.2.2.2.1.length : Int) > 0 := by omega
                    rw [bif_pos m3, bif_neg q, decide_eq_true m3, decide_eq_true this]; rfl
                · by_cases q : (x.2.2.2.2.2.2.2.1.length : Int) > 0
                  · rw [bif_neg m3, bif_pos q, decide_eq_false m3, decide_eq_true q]; rfl
                  · rw [bif_neg m3, bif_neg q, decide_eq_false m3, decide_eq_false q]; rfl

/-! ### Tables -/
def WfP (t : List P) : Prop := t.length ≤ 140737488355328 ∧ ∀ x ∈ t, WfF x.2.2.2.1 ∧ x.2.2.2.2.2.2.2.1.length ≤ 140737488355328
theorem WfP.at {t : List P} (h : WfP t) {i : Int} (h0 : 0 ≤ i) (hi : i < (t.length : Int)) : WfF (t.getD i.toNat p0).2.2.2.1 := (h.2 _ (getD_mem h0 hi)).1
def fineOk (t : List P) : Bool := t.all oneOk && decide ((t.length : Int) = 16)
theorem pall_at {t : List P} {p : P → Bool} {j : Int} (h0 : 0 ≤ j) (hj : j < (t.length : Int)) : (t.drop j.toNat).all p = (p (t.getD j.toNat p0) && (t.drop (j + 1).toNat).all p) := by
  rw [drop_at (d := p0) h0 hj]; rfl
theorem pall_end {t : List P} {p : P → Bool} {j : Int} (hj : ¬ j < (t.length : Int)) : (t.drop j.toNat).all p = true := by
  rw [drop_end hj]; rfl
theorem Fine_eq (t : List P) (h : WfP t) : proc_Fine t = some (fineOk t) := by
  have hl := h.1
  unfold proc_Fine
  refine (loop_up (fun j => j) t.length (fun j => 0 ≤ j) (fun j => some ((t.drop j.toNat).all oneOk && decide ((t.length : Int) = 16))) (by simp) (by simp; omega) ?_).trans (by simp [fineOk])
  intro k j (h0 : 0 ≤ j) hk
  unfold proc_Fine_L1 proc_Fine_J1
  by_cases hj : j < (t.length : Int)
  · have hk := hk hj (j + 1) (by omega) rfl
    have e := one_eq _ (h.at h0 hj)
    unfold p0 at e
    rw [bif_pos hj, chk_at h0 hj, e, Option.bind_some, w64 (by omega) (by omega), hk, pall_at h0 hj]
    unfold p0
    cases oneOk (t.getD j.toNat (0, false, 0, (0, false, (List.replicate 8 0), (List.replicate 16 0), 0, (List.replicate 8 0), ()), 0, 0, 0, [], ())) <;> rfl
  · rw [bif_neg hj, pall_end hj]; rfl
theorem rFine_eq (t : List P) (h : WfP t) : R31_Fine t = some (fineOk t) := by
  have hl := h.1
  unfold R31_Fine fineOk
  by_cases hn : (t.length : Int) = 16
  · rw [bnot_pos hn, decide_eq_true hn, Bool.and_true]
    refine (loop_up (fun x => x.2) 16 (fun x => ∃ j, 0 ≤ j ∧ x = (t, j)) (fun x => some ((t.drop x.2.toNat).all oneOk)) ⟨0, by omega, rfl⟩ (by simp) ?_).trans (by simp)
    rintro k _ ⟨j, h0, rfl⟩ hk
    simp only at hk ⊢
    unfold R31_Fine_L1
    simp only [cutv_eq]
    by_cases hj : j < 16
    · have hk := hk hj (t, j + 1) ⟨j + 1, by omega, rfl⟩ rfl
      rw [bif_pos hj, rone_eq t j _ h0 (by omega) (h.at h0 (by omega)), pall_at h0 (by omega)]
      unfold R31_Fine_R1
      simp only
      rw [w64 (by omega) (by omega), hk]
      cases oneOk (t.getD j.toNat p0) <;> rfl
    · rw [bif_neg hj, pall_end (by omega)]; rfl
  · rw [bnot_neg hn, decide_eq_false hn, Bool.and_false]
/-! ### What is asked of a table -/
theorem handle_make {p g : Int} (h0 : 0 ≤ p) (h1 : p < 16) (g0 : 0 < g) (g1 : g ≤ 65535) : handle_Make p g = some (g * 4096 + p, 0, ()) := by
  unfold handle_Make handle_within
  rw [bs1, decide_eq_true (by omega : p ≥ 0), decide_eq_true (by omega : p ≤ 4095)]
  simp only [Option.bind_some, Bool.and_self, Bool.not_true, cond_false]
  rw [bs1, decide_eq_true (by omega : g ≥ 1), decide_eq_true (by omega : g ≤ 65535)]
  simp only [Option.bind_some, Bool.and_self, Bool.not_true, cond_false, letv_eq]
  rw [w64 (x := g * 4096) (by omega) (by omega), w64 (by omega) (by omega)]
theorem rhandle_make {p g : Int} (h0 : 0 ≤ p) (h1 : p < 16) (g0 : 0 < g) (g1 : g ≤ 65535) : R01_Make p g = some (g * 4096 + p, 0, ()) := by
  unfold R01_Make
  rw [bif_neg (by omega), bif_neg (by omega), bif_neg (by omega), bif_neg (by omega), letv_eq, Int.mul_comm 4096 g, w64 (x := g * 4096) (by omega) (by omega), w64 (by omega) (by omega)]
theorem one_live {x : P} (h : oneOk x = true) (hl : x.2.1 = true) : 0 < x.1 ∧ x.1 ≤ 65535 ∧ 0 ≤ x.2.2.2.2.1 ∧ x.2.2.2.2.1 ≤ 3 := by
  unfold oneOk at h
  rw [hl] at h
  simp only [cond_true, Bool.and_eq_true, decide_eq_true_eq] at h
  omega
theorem one_gen {x : P} (h : oneOk x = true) : 0 ≤ x.1 ∧ x.1 ≤ 65535 := by
  unfold oneOk at h
  simp only [Bool.and_eq_true, decide_eq_true_eq] at h
  omega
theorem fine_len {t : List P} (h : fineOk t = true) : (t.length : Int) = 16 := by
  unfold fineOk at h
  simp only [Bool.and_eq_true, decide_eq_true_eq] at h
  exact h.2
theorem fine_at {t : List P} (h : fineOk t = true) {p : Int} (h0 : 0 ≤ p) (h1 : p < 16) : oneOk (t.getD p.toNat p0) = true := by
  have hl := fine_len h
  unfold fineOk at h
  simp only [Bool.and_eq_true] at h
  exact List.all_eq_true.1 h.1 _ (getD_mem h0 (by omega))
def there (t : List P) (p : Int) : Bool := decide (p ≥ 0) && (decide (p < (t.length : Int)) && (t.getD p.toNat p0).2.1)
theorem there_eq (t : List P) (p : Int) : proc_there t p = some (there t p) := by
  unfold proc_there there
  by_cases h0 : p ≥ 0
  · by_cases h1 : p < (t.length : Int)
    · rw [bif_pos h0, bif_pos h1, chk_at h0 h1, decide_eq_true h0, decide_eq_true h1, letv_eq]; rfl
    · rw [bif_pos h0, bif_neg h1, decide_eq_true h0, decide_eq_false h1]; rfl
  · rw [bif_neg h0, decide_eq_false h0]; rfl
/-- A place's handle. -/
def hd (t : List P) (p : Int) : Int := cond (fineOk t && there t p) ((t.getD p.toNat p0).1 * 4096 + p) 0
theorem Handle_eq (t : List P) (h : WfP t) (p : Int) : proc_Handle t p = some (hd t p) := by
  unfold proc_Handle hd
  rw [Fine_eq t h, Option.bind_some, there_eq, Option.bind_some]
  cases hf : fineOk t
  · rfl
  · cases ht : there t p
    · rfl
    · have hl := fine_len hf
      have ht2 := ht
      unfold there at ht2
      simp only [Bool.and_eq_true, decide_eq_true_eq] at ht2
      obtain ⟨q0, q1, q2⟩ := ht2
      obtain ⟨g1, g2, _⟩ := one_live (fine_at hf q0 (by omega)) q2
      have e := handle_make q0 (by omega) g1 g2
      unfold p0 at e
      simp only [Bool.not_true, cond_false]
      rw [chk_at q0 q1, e]
      rfl
theorem rHandle_eq (t : List P) (h : WfP t) (p : Int) : R31_Handle t p = some (hd t p) := by
  unfold R31_Handle hd
  rw [rFine_eq t h, Option.bind_some]
  cases hf : fineOk t
  · rfl
  · have hl := fine_len hf
    simp only [Bool.not_true, cond_false, Bool.true_and]
    by_cases q0 : p < 0
    · rw [bif_pos q0]; unfold there; rw [decide_eq_false (by omega : ¬ p ≥ 0)]; rfl
    · rw [bif_neg q0]
      by_cases q1 : p > 15
      · rw [bif_pos q1]; unfold there; rw [decide_eq_false (by omega : ¬ p < (t.length : Int)), Bool.false_and, Bool.and_false]; rfl
      · rw [bif_neg q1, chk_at (by omega) (by omega)]
        unfold there
        rw [decide_eq_true (by omega : p ≥ 0), decide_eq_true (by omega : p < (t.length : Int))]
        unfold p0
        cases q2 : (t.getD p.toNat (0, false, 0, (0, false, (List.replicate 8 0), (List.replicate 16 0), 0, (List.replicate 8 0), ()), 0, 0, 0, [], ())).2.1
        · rfl
        · obtain ⟨g1, g2, _⟩ := one_live (fine_at hf (by omega : 0 ≤ p) (by omega)) q2
          have e := rhandle_make (by omega : 0 ≤ p) (by omega) g1 g2
          unfold p0 at e
          simp only [Bool.not_true, cond_false]
          rw [chk_at (by omega) (by omega), e]
          rfl
def slot (h : Int) : Int := cond (decide (h ≥ 4096) && decide (h ≤ 268435455)) (h % 4096) (-1)
theorem Slot_eq (h : Int) : handle_Slot h = some (slot h) := by
  unfold handle_Slot handle_Fine handle_within slot
  rw [bs1]
  simp only [Option.bind_some]
  by_cases q : h ≥ 4096 ∧ h ≤ 268435455
  · rw [decide_eq_true q.1, decide_eq_true q.2, chk_pos (by omega), Int.tmod_eq_emod_of_nonneg (by omega)]; rfl
  · have : (decide (h ≥ 4096) && decide (h ≤ 268435455)) = false := by
      rw [Bool.and_eq_false_iff, decide_eq_false_iff_not, decide_eq_false_iff_not]; omega
    rw [this]; rfl
theorem rSlot_eq (h : Int) : R01_Slot h = some (slot h) := by
  unfold R01_Slot R01_Fine slot
  rw [bs1]
  simp only [Option.bind_some]
  by_cases q : h ≥ 4096 ∧ h ≤ 268435455
  · rw [decide_eq_true q.1, decide_eq_true q.2, chk_pos (by omega), letv_eq, Int.tdiv_eq_ediv_of_nonneg (by omega), w64 (x := h / 4096) (by omega) (by omega), w64 (x := 4096 * (h / 4096)) (by omega) (by omega), w64 (by omega) (by omega)]
    show some (h - 4096 * (h / 4096)) = some (h % 4096)
    congr 1; omega
  · have : (decide (h ≥ 4096) && decide (h ≤ 268435455)) = false := by
      rw [Bool.and_eq_false_iff, decide_eq_false_iff_not, decide_eq_false_iff_not]; omega
    rw [this]; rfl
theorem Gen_eq {h : Int} (h1 : 4096 ≤ h) (h2 : h ≤ 268435455) : handle_Gen h = some (h / 4096) := by
  unfold handle_Gen handle_Fine handle_within
  rw [bs1, decide_eq_true (by omega : h ≥ 4096), decide_eq_true (by omega : h ≤ 268435455)]
  simp only [Option.bind_some, Bool.and_self, Bool.not_true, cond_false]
  rw [chk_pos (by omega), Int.tdiv_eq_ediv_of_nonneg (by omega), w64 (by omega) (by omega)]
def fd (t : List P) (h : Int) : Int × Int × Unit :=
  cond (!fineOk t) (0, 1, ()) (cond (decide (slot h < 0)) (0, 8, ()) (cond (decide (slot h > 15)) (0, 8, ()) (cond (!decide (hd t (slot h) = h)) (0, 9, ()) (slot h, 0, ()))))
theorem rFind_eq (t : List P) (h : WfP t) (a : Int) : R31_Find t a = some (fd t a) := by
  unfold R31_Find fd
  rw [rFine_eq t h, rSlot_eq]
  simp only [Option.bind_some]
  rw [rHandle_eq t h]
  simp only [Option.bind_some, bs5]
theorem slot_ge {a : Int} (h : 0 ≤ slot a) : 4096 ≤ a ∧ a ≤ 268435455 ∧ slot a = a % 4096 := by
  unfold slot at h ⊢
  by_cases q : a ≥ 4096 ∧ a ≤ 268435455
  · rw [decide_eq_true q.1, decide_eq_true q.2]; exact ⟨q.1, q.2, rfl⟩
  · have : (decide (a ≥ 4096) && decide (a ≤ 268435455)) = false := by
      rw [Bool.and_eq_false_iff, decide_eq_false_iff_not, decide_eq_false_iff_not]; omega
    rw [this] at h; simp at h
theorem Find_eq (t : List P) (h : WfP t) (a : Int) : proc_Find t a = some (fd t a) := by
  unfold proc_Find fd
  rw [Slot_eq, Option.bind_some, Fine_eq t h, Option.bind_some]
  cases hf : fineOk t
  · rfl
  · have hl := fine_len hf
    simp only [Bool.not_true, cond_false]
    by_cases s0 : slot a < 0
    · rw [bif_pos s0, bif_pos s0]
    · rw [bif_neg s0, bif_neg s0]
      by_cases s1 : slot a > 15
      · rw [bif_pos (by omega : slot a ≥ (t.length : Int)), bif_pos s1]
      · rw [bif_neg (by omega : ¬ slot a ≥ (t.length : Int)), bif_neg s1, chk_at (by omega) (by omega)]
        obtain ⟨a1, a2, a3⟩ := slot_ge (by omega : 0 ≤ slot a)
        rw [Gen_eq a1 a2]
        unfold hd there
        rw [hf, decide_eq_true (by omega : slot a ≥ 0), decide_eq_true (by omega : slot a < (t.length : Int))]
        simp only [Bool.true_and, Option.bind_some, letv_eq]
        unfold p0
        cases q2 : (t.getD (slot a).toNat (0, false, 0, (0, false, (List.replicate 8 0), (List.replicate 16 0), 0, (List.replicate 8 0), ()), 0, 0, 0, [], ())).2.1
        · simp only [cond_false, Bool.not_false, cond_true]
          rw [bnot_neg (by omega)]
        · rw [chk_at (by omega) (by omega)]
          simp only [Bool.not_true, cond_false, cond_true]
          by_cases g : (t.getD (slot a).toNat (0, false, 0, (0, false, (List.replicate 8 0), (List.replicate 16 0), 0, (List.replicate 8 0), ()), 0, 0, 0, [], ())).1 = a / 4096
          · rw [bnot_pos g, bnot_pos (by rw [g, a3]; omega)]
          · rw [bnot_neg g, bnot_neg (by intro e; apply g; omega)]
/-- The places of those that are wanted. -/
def sel (q : P → Bool) : Int → List P → List Int
  | _, [] => []
  | j, x :: l => cond (q x) [j] [] ++ sel q (j + 1) l
theorem sel_at {q : P → Bool} {t : List P} {j : Int} (h0 : 0 ≤ j) (hj : j < (t.length : Int)) : sel q j (t.drop j.toNat) = cond (q (t.getD j.toNat p0)) [j] [] ++ sel q (j + 1) (t.drop (j + 1).toNat) := by
  rw [drop_at (d := p0) h0 hj]; rfl
theorem sel_end {q : P → Bool} {t : List P} {j : Int} (hj : ¬ j < (t.length : Int)) : sel q j (t.drop j.toNat) = [] := by
  rw [drop_end hj]; rfl
theorem sel_mem {q : P → Bool} : ∀ {l : List P} {j x : Int}, x ∈ sel q j l → j ≤ x ∧ x < j + l.length
  | [], j, x, h => by simp [sel] at h
  | y :: l, j, x, h => by
    rw [sel, List.mem_append] at h
    simp only [List.length_cons]
    rcases h with h | h
    · cases hq : q y <;> rw [hq] at h <;> simp at h
      omega
    · have := sel_mem h; omega
theorem sel_len {q : P → Bool} : ∀ {l : List P} {j : Int}, (sel q j l).length ≤ l.length
  | [], j => by simp [sel]
  | y :: l, j => by
    have := sel_len (q := q) (l := l) (j := j + 1)
    rw [sel, List.length_append, List.length_cons]
    cases q y <;> simp <;> omega
def inQ (m : Int) (x : P) : Bool := x.2.1 && decide (x.2.2.2.2.1 = m)
def inL (t : List P) (m : Int) : List Int := cond (fineOk t) (sel (inQ m) 0 t) []
theorem In_eq (t : List P) (h : WfP t) (m : Int) : proc_In t m = some (inL t m) := by
  unfold proc_In inL
  rw [Fine_eq t h, Option.bind_some]
  cases hf : fineOk t
  · rfl
  · have hl := fine_len hf
    simp only [Bool.not_true, cond_false, cond_true]
    refine (loop_up (fun x => x.2.2.1) 16 (fun x => ∃ j acc, 0 ≤ j ∧ (acc.length : Int) ≤ j ∧ x = (t, (t.length : Int), j, m, acc)) (fun x => some (x.2.2.2.2 ++ sel (inQ m) x.2.2.1 (t.drop x.2.2.1.toNat))) ⟨0, [], by omega, by simp, rfl⟩ (by simp) ?_).trans (by simp)
    rintro k _ ⟨j, acc, h0, ha, rfl⟩ hk
    simp only at hk ⊢
    unfold proc_In_L1
    simp only [cutv_eq]
    by_cases hj : j < (t.length : Int)
    · have hk1 := hk (by omega) (t, (t.length : Int), j + 1, m, acc ++ [j]) ⟨j + 1, acc ++ [j], by omega, by simp; omega, rfl⟩ rfl
      have hk0 := hk (by omega) (t, (t.length : Int), j + 1, m, acc) ⟨j + 1, acc, by omega, by omega, rfl⟩ rfl
      unfold proc_In_C1 proc_In_R1
      simp only
      rw [bif_pos hj, chk_at h0 hj, w64 (by omega) (by omega), hk0, hk1, sel_at h0 hj, letv_eq, chk_pos (by simp; omega)]
      unfold inQ p0
      simp only
      cases (t.getD j.toNat (0, false, 0, (0, false, (List.replicate 8 0), (List.replicate 16 0), 0, (List.replicate 8 0), ()), 0, 0, 0, [], ())).2.1
      · simp
      · cases decide ((t.getD j.toNat (0, false, 0, (0, false, (List.replicate 8 0), (List.replicate 16 0), 0, (List.replicate 8 0), ()), 0, 0, 0, [], ())).2.2.2.2.1 = m) <;> simp
    · rw [bif_neg hj, sel_end hj]
      unfold proc_In_J1
      simp
theorem rIn_eq (t : List P) (h : WfP t) (m : Int) : R31_In t m = some (inL t m) := by
  unfold R31_In inL
  cases hf : fineOk t
  · refine (loop_up (fun x => x.2.2.1) 16 (fun x => x = (t, m, 0, [])) (fun x => some []) rfl (by simp) ?_).trans rfl
    rintro k _ rfl hk
    unfold R31_In_L1
    simp only
    rw [rFine_eq t h, hf]
    rfl
  · have hl := fine_len hf
    simp only [cond_true]
    refine (loop_up (fun x => x.2.2.1) 16 (fun x => ∃ j acc, 0 ≤ j ∧ (acc.length : Int) ≤ j ∧ x = (t, m, j, acc)) (fun x => some (x.2.2.2 ++ sel (inQ m) x.2.2.1 (t.drop x.2.2.1.toNat))) ⟨0, [], by omega, by simp, rfl⟩ (by simp) ?_).trans (by simp)
    rintro k _ ⟨j, acc, h0, ha, rfl⟩ hk
    simp only at hk ⊢
    unfold R31_In_L1
    simp only [cutv_eq]
    by_cases hj : j < 16
    · have hk1 := hk hj (t, m, j + 1, acc ++ [j]) ⟨j + 1, acc ++ [j], by omega, by simp; omega, rfl⟩ rfl
      have hk0 := hk hj (t, m, j + 1, acc) ⟨j + 1, acc, by omega, by omega, rfl⟩ rfl
      unfold R31_In_C1 R31_In_R1
      simp only
      rw [bif_pos hj, rFine_eq t h, hf, Option.bind_some, chk_at h0 (by omega), w64 (by omega) (by omega), hk0, hk1, sel_at h0 (by omega), chk_at h0 (by omega), chk_pos (by simp; omega)]
      unfold inQ p0
      simp only [cond_true]
      cases (t.getD j.toNat (0, false, 0, (0, false, (List.replicate 8 0), (List.replicate 16 0), 0, (List.replicate 8 0), ()), 0, 0, 0, [], ())).2.1
      · simp
      · cases decide ((t.getD j.toNat (0, false, 0, (0, false, (List.replicate 8 0), (List.replicate 16 0), 0, (List.replicate 8 0), ()), 0, 0, 0, [], ())).2.2.2.2.1 = m) <;> simp
    · rw [bif_neg hj, sel_end (by omega)]
      unfold R31_In_J1
      simp
def onQ (x : P) : Bool := x.2.1 && !decide (x.2.2.2.2.1 = 3)
def hdL (t : List P) : List Int := cond (fineOk t) ((sel onQ 0 t).map (hd t)) []
theorem hand2_eq (t : List P) (h : WfP t) (l : List Int) (hl : l.length ≤ 16) : loop (proc_Handles_L2 (l.length : Int) t) (0, l) = some (l.map (hd t)) := by
  refine (loop_up (fun x => x.1) l.length (fun x => ∃ j ys, 0 ≤ j ∧ ys.length = l.length ∧ x = (j, ys)) (fun x => some (x.2.take x.1.toNat ++ (x.2.drop x.1.toNat).map (hd t))) ⟨0, l, by omega, rfl, rfl⟩ (by simp; omega) ?_).trans (by simp)
  rintro k _ ⟨j, ys, h0, hy, rfl⟩ hk
  simp only at hk ⊢
  unfold proc_Handles_L2
  simp only
  by_cases hj : j < (l.length : Int)
  · have hk := hk hj (j + 1, ys.set j.toNat (hd t (ys.getD j.toNat 0))) ⟨j + 1, _, by omega, by simp [hy], rfl⟩ rfl
    rw [bif_pos hj, chk_at h0 (by omega), Handle_eq t h, Option.bind_some, chk_at h0 (by omega), w64 (by omega) (by omega), hk]
    congr 1
    have hjy : j.toNat < ys.length := by omega
    rw [drop_at (xs := ys) (d := 0) h0 (by omega), show (j + 1).toNat = j.toNat + 1 by omega]
    rw [List.take_set, List.drop_set, if_pos (by omega), List.take_succ_eq_append_getElem hjy, List.set_append, if_neg (by rw [List.length_take]; omega), List.map_cons]
    simp [List.length_take, Nat.min_eq_left (Nat.le_of_lt hjy)]
  · rw [bif_neg hj]
    unfold proc_Handles_J2
    rw [List.drop_of_length_le (by omega), List.take_of_length_le (by omega)]; simp
theorem Handles_eq (t : List P) (h : WfP t) : proc_Handles t = some (hdL t) := by
  unfold proc_Handles hdL
  rw [Fine_eq t h, Option.bind_some]
  cases hf : fineOk t
  · refine (loop_up (fun _ => 0) 1 (fun _ => True) (fun x => some []) trivial (by simp) ?_).trans rfl
    intro k x _ _
    rfl
  · have hl := fine_len hf
    simp only [Bool.not_true, cond_false, cond_true]
    refine (loop_up (fun x => x.2.2.1) 16 (fun x => ∃ j acc, 0 ≤ j ∧ (acc.length : Int) ≤ j ∧ (acc.length : Int) + (sel onQ j (t.drop j.toNat)).length ≤ 16 ∧ x = (t, (t.length : Int), j, acc)) (fun x => some ((x.2.2.2 ++ sel onQ x.2.2.1 (t.drop x.2.2.1.toNat)).map (hd t))) ⟨0, [], by omega, by simp, by have := sel_len (q := onQ) (l := t.drop 0) (j := 0); simp at this ⊢; omega, rfl⟩ (by simp) ?_).trans (by simp)
    rintro k _ ⟨j, acc, h0, ha, hb, rfl⟩ hk
    simp only at hk ⊢
    unfold proc_Handles_L3
    simp only [cutv_eq]
    by_cases hj : j < (t.length : Int)
    · have hk1 := hk (by omega) (t, (t.length : Int), j + 1, acc ++ [j])
      have hk0 := hk (by omega) (t, (t.length : Int), j + 1, acc)
      unfold proc_Handles_C1 proc_Handles_R1 proc_Handles_1
      simp only [Option.bind_some]
      rw [sel_at h0 hj] at hb ⊢
      rw [bif_pos hj, chk_at h0 hj, w64 (by omega) (by omega), chk_pos (by simp; omega)]
      rw [show onQ (t.getD j.toNat p0) = ((t.getD j.toNat p0).2.1 && !decide ((t.getD j.toNat p0).2.2.2.2.1 = 3)) from rfl] at hb ⊢
      unfold p0 at hb ⊢
      cases h1 : (t.getD j.toNat (0, false, 0, (0, false, (List.replicate 8 0), (List.replicate 16 0), 0, (List.replicate 8 0), ()), 0, 0, 0, [], ())).2.1
      · rw [h1] at hb
        simp only [Bool.false_and, cond_false, List.nil_append] at hb ⊢
        exact hk0 ⟨j + 1, acc, by omega, by omega, hb, rfl⟩ rfl
      · rw [h1] at hb
        cases h2 : decide ((t.getD j.toNat (0, false, 0, (0, false, (List.replicate 8 0), (List.replicate 16 0), 0, (List.replicate 8 0), ()), 0, 0, 0, [], ())).2.2.2.2.1 = 3)
        · rw [h2] at hb
          simp only [Bool.not_false, Bool.true_and, cond_true] at hb ⊢
          rw [hk1 ⟨j + 1, acc ++ [j], by omega, by simp; omega, by simp at hb ⊢; omega, rfl⟩ rfl]
          simp
        · rw [h2] at hb
          simp only [Bool.not_true, Bool.and_false, cond_true, cond_false, List.nil_append] at hb ⊢
          exact hk0 ⟨j + 1, acc, by omega, by omega, hb, rfl⟩ rfl
    · rw [bif_neg hj, sel_end hj]
      unfold proc_Handles_J3
      rw [hand2_eq t h _ (by omega)]
      simp
theorem rHandles_eq (t : List P) (h : WfP t) : R31_Handles t = some (hdL t) := by
  unfold R31_Handles hdL
  cases hf : fineOk t
  · refine (loop_up (fun x => x.2.1) 16 (fun x => x = (t, 0, [])) (fun x => some []) rfl (by simp) ?_).trans rfl
    rintro k _ rfl hk
    unfold R31_Handles_L1
    simp only
    rw [rFine_eq t h, hf]
    rfl
  · have hl := fine_len hf
    simp only [cond_true]
    refine (loop_up (fun x => x.2.1) 16 (fun x => ∃ j acc, 0 ≤ j ∧ (acc.length : Int) ≤ j ∧ x = (t, j, acc)) (fun x => some (x.2.2 ++ (sel onQ x.2.1 (t.drop x.2.1.toNat)).map (hd t))) ⟨0, [], by omega, by simp, rfl⟩ (by simp) ?_).trans (by simp)
    rintro k _ ⟨j, acc, h0, ha, rfl⟩ hk
    simp only at hk ⊢
    unfold R31_Handles_L1
    simp only [cutv_eq]
    by_cases hj : j < 16
    · have hk1 := hk hj (t, j + 1, acc ++ [hd t j]) ⟨j + 1, acc ++ [hd t j], by omega, by simp; omega, rfl⟩ rfl
      have hk0 := hk hj (t, j + 1, acc) ⟨j + 1, acc, by omega, by omega, rfl⟩ rfl
      unfold R31_Handles_C1 R31_Handles_R1
      simp only
      rw [bif_pos hj, rFine_eq t h, hf, Option.bind_some, chk_at h0 (by omega), w64 (by omega) (by omega), hk0, sel_at h0 (by omega), chk_at h0 (by omega), rHandle_eq t h]
      simp only [Option.bind_some]
      rw [chk_pos (by simp; omega), hk1]
      unfold onQ p0
      simp only [cond_true]
      cases (t.getD j.toNat (0, false, 0, (0, false, (List.replicate 8 0), (List.replicate 16 0), 0, (List.replicate 8 0), ()), 0, 0, 0, [], ())).2.1
      · simp
      · cases decide ((t.getD j.toNat (0, false, 0, (0, false, (List.replicate 8 0), (List.replicate 16 0), 0, (List.replicate 8 0), ()), 0, 0, 0, [], ())).2.2.2.2.1 = 3) <;> simp
    · rw [bif_neg hj, sel_end (by omega)]
      unfold R31_Handles_J1
      simp

/-! ### Tables from tables -/
theorem with_eq (t : List P) (h : (t.length : Int) = 16) (p : Int) (x : P) (p1 : 0 ≤ p) (p2 : p < 16) : proc_with t p x = some (t.set p.toNat x) := by
  unfold proc_with
  have e : (List.take (List.replicate (t.length : Int).toNat p0).length t ++ List.drop t.length (List.replicate (t.length : Int).toNat p0)) = t := by
    rw [List.length_replicate, List.take_of_length_le (by omega), List.drop_of_length_le (by rw [List.length_replicate]; omega), List.append_nil]
  unfold p0 at e
  rw [chk_pos (by omega), letv_eq, e, chk_at p1 (by omega), letv_eq]
theorem put_eq (t : List P) (h : (t.length : Int) = 16) (p : Int) (x : P) (p1 : 0 ≤ p) (p2 : p < 16) : R31_Put t p x = some (t.set p.toNat x) := by
  unfold R31_Put
  rw [chk_pos (by omega), chk_at p1 (by omega)]
def newF (a : Int) : FR := (0, false, ((List.replicate 8 0).set 0 a), (List.replicate 16 0), 0, (List.replicate 8 0), ())
theorem New_eq {a : Int} (h : wordOk a = true) : frame_New a = some (newF a, 0, ()) := by
  unfold frame_New; rw [word_eq, h]; rfl
theorem rNew_eq {a : Int} (h : wordOk a = true) : R13_New a = some (newF a, 0, ()) := by
  unfold R13_New; rw [rword_eq, h, Option.bind_some]; simp only [Bool.not_true, cond_false]; rw [chk_pos (by omega)]; rfl
/-- The first place that is free, and what is there then. -/
def spw (t : List P) (pr a : Int) : Int → List P → List P × Int × Int × Unit
  | _, [] => (t, 0, 10, ())
  | j, x :: l => cond (x.2.1 || decide (x.1 = 65535)) (spw t pr a (j + 1) l) (t.set j.toNat (x.1 + 1, true, pr, newF a, 0, 0, 0, [], ()), (x.1 + 1) * 4096 + j, 0, ())
theorem spw_at {t : List P} {pr a : Int} {j : Int} (h0 : 0 ≤ j) (hj : j < (t.length : Int)) : spw t pr a j (t.drop j.toNat) = cond ((t.getD j.toNat p0).2.1 || decide ((t.getD j.toNat p0).1 = 65535)) (spw t pr a (j + 1) (t.drop (j + 1).toNat)) (t.set j.toNat ((t.getD j.toNat p0).1 + 1, true, pr, newF a, 0, 0, 0, [], ()), ((t.getD j.toNat p0).1 + 1) * 4096 + j, 0, ()) := by
  rw [drop_at (d := p0) h0 hj]; rfl
def spawnL (t : List P) (pr a : Int) : List P × Int × Int × Unit := cond (!fineOk t) (t, 0, 1, ()) (cond (!wordOk a) (t, 0, 8, ()) (spw t pr a 0 t))
theorem Spawn_eq (t : List P) (h : WfP t) (pr a : Int) : proc_Spawn t pr a = some (spawnL t pr a) := by
  unfold proc_Spawn spawnL
  rw [Fine_eq t h, Option.bind_some]
  cases hf : fineOk t
  · rfl
  · have hl := fine_len hf
    rw [word_eq, Option.bind_some]
    cases hw : wordOk a
    · rfl
    · simp only [Bool.not_true, cond_false]
      refine (loop_up (fun j => j) 16 (fun j => 0 ≤ j) (fun j => some (spw t pr a j (t.drop j.toNat))) (by simp) (by simp) ?_).trans (by simp)
      intro k j (h0 : 0 ≤ j) hk
      unfold proc_Spawn_L1 proc_Spawn_J1
      by_cases hj : j < (t.length : Int)
      · have hk := hk (by omega) (j + 1) (by omega) rfl
        have hg := one_gen (fine_at hf h0 (by omega))
        rw [bif_pos hj, chk_at h0 hj, w64 (x := j + 1) (by omega) (by omega), hk, spw_at h0 hj, New_eq hw, Option.bind_some]
        unfold p0 at hg ⊢
        generalize t.getD j.toNat (0, false, 0, (0, false, (List.replicate 8 0), (List.replicate 16 0), 0, (List.replicate 8 0), ()), 0, 0, 0, [], ()) = x at hg ⊢
        cases x.2.1
        · simp only [Bool.false_or, cond_false]
          by_cases g : x.1 = 65535
          · rw [bif_pos g, bif_pos g]
          · rw [bif_neg g, bif_neg g]
            simp only [decide_true, Bool.not_true, cond_false]
            rw [w64 (x := x.1 + 1) (by omega) (by omega), handle_make h0 (by omega) (by omega) (by omega), Option.bind_some, with_eq t hl _ _ h0 (by omega), Option.bind_some]
        · simp only [Bool.true_or, cond_true]
      · rw [bif_neg hj, show t.drop j.toNat = [] from drop_end hj]; rfl
theorem rSpawn_eq (t : List P) (h : WfP t) (pr a : Int) : R31_Spawn t pr a = some (spawnL t pr a) := by
  unfold R31_Spawn spawnL
  rw [rFine_eq t h, Option.bind_some]
  cases hf : fineOk t
  · rfl
  · have hl := fine_len hf
    rw [rword_eq, Option.bind_some]
    cases hw : wordOk a
    · rfl
    · simp only [Bool.not_true, cond_false]
      refine (loop_up (fun j => j) 16 (fun j => 0 ≤ j) (fun j => some (spw t pr a j (t.drop j.toNat))) (by simp) (by simp) ?_).trans (by simp)
      intro k j (h0 : 0 ≤ j) hk
      unfold R31_Spawn_L1 R31_Spawn_J1
      by_cases hj : j < 16
      · have hk := hk (by omega) (j + 1) (by omega) rfl
        have hg := one_gen (fine_at hf h0 (by omega))
        rw [bif_pos hj, chk_at h0 (by omega), w64 (x := j + 1) (by omega) (by omega), hk, spw_at h0 (by omega), rNew_eq hw, Option.bind_some]
        simp only [chk_at h0 (show j < (t.length : Int) by omega)]
        unfold p0 at hg ⊢
        generalize t.getD j.toNat (0, false, 0, (0, false, (List.replicate 8 0), (List.replicate 16 0), 0, (List.replicate 8 0), ()), 0, 0, 0, [], ()) = x at hg ⊢
        cases x.2.1
        · simp only [Bool.false_or, Bool.not_false, cond_true]
          by_cases g : x.1 = 65535
          · rw [bif_neg (by omega), bif_pos g]
          · rw [bif_pos (by omega), bif_neg g, w64 (x := x.1 + 1) (by omega) (by omega), rhandle_make h0 (by omega) (by omega) (by omega), Option.bind_some, put_eq t hl _ _ h0 (by omega), Option.bind_some]
        · simp only [Bool.true_or, Bool.not_true, cond_true, cond_false]
      · rw [bif_neg hj, show t.drop j.toNat = [] from drop_end (by omega)]; rfl
def endL (t : List P) (p how : Int) : List P × Int × Unit :=
  cond (!fineOk t) (t, 1, ()) (cond (!there t p) (t, 8, ()) (cond (!decide ((t.getD p.toNat p0).2.2.2.2.1 = 0)) (t, 13, ()) (t.set p.toNat ((t.getD p.toNat p0).1, (t.getD p.toNat p0).2.1, (t.getD p.toNat p0).2.2.1, (t.getD p.toNat p0).2.2.2.1, 3, how, (t.getD p.toNat p0).2.2.2.2.2.2.1, (t.getD p.toNat p0).2.2.2.2.2.2.2.1, ()), 0, ())))
theorem End_eq (t : List P) (h : WfP t) (p how : Int) : proc_End t p how = some (endL t p how) := by
  unfold proc_End endL
  rw [Fine_eq t h, Option.bind_some, there_eq, Option.bind_some]
  cases hf : fineOk t
  · rfl
  · have hl := fine_len hf
    cases ht : there t p
    · rfl
    · unfold there at ht
      simp only [Bool.and_eq_true, decide_eq_true_eq] at ht
      obtain ⟨q0, q1, _⟩ := ht
      simp only [Bool.not_true, cond_false, letv_eq]
      rw [chk_at q0 q1, chk_at q0 q1, with_eq t hl _ _ q0 (by omega), Option.bind_some, bs5]
      rfl
theorem rEnd_eq (t : List P) (h : WfP t) (p how : Int) : R31_End t p how = some (endL t p how) := by
  unfold R31_End endL
  rw [rFine_eq t h, Option.bind_some]
  cases hf : fineOk t
  · rfl
  · have hl := fine_len hf
    simp only [Bool.not_true, cond_false]
    by_cases q0 : p < 0
    · rw [bif_pos q0]; unfold there; rw [decide_eq_false (by omega : ¬ p ≥ 0)]; rfl
    · rw [bif_neg q0]
      by_cases q1 : p > 15
      · rw [bif_pos q1]; unfold there; rw [decide_eq_false (by omega : ¬ p < (t.length : Int)), Bool.false_and, Bool.and_false]; rfl
      · rw [bif_neg q1]
        simp only [chk_at (show 0 ≤ p by omega) (show p < (t.length : Int) by omega)]
        rw [put_eq t hl _ _ (by omega) (by omega), Option.bind_some, bs5, bs5]
        unfold there
        rw [decide_eq_true (by omega : p ≥ 0), decide_eq_true (by omega : p < (t.length : Int))]
        rfl
def reapL (t : List P) (a : Int) : List P × Int × Int × Unit :=
  cond (!decide ((fd t a).2.1 = 0)) (t, 0, (fd t a).2.1, ()) (cond (!decide ((t.getD (fd t a).1.toNat p0).2.2.2.2.1 = 3)) (t, 0, 13, ()) (t.set (fd t a).1.toNat ((t.getD (fd t a).1.toNat p0).1, false, 0, (0, false, (List.replicate 8 0), (List.replicate 16 0), 0, (List.replicate 8 0), ()), 0, 0, 0, [], ()), (t.getD (fd t a).1.toNat p0).2.2.2.2.2.1, 0, ()))
theorem fd_ok {t : List P} {a : Int} (h : (fd t a).2.1 = 0) : fineOk t = true ∧ 0 ≤ (fd t a).1 ∧ (fd t a).1 < 16 := by
  unfold fd at h ⊢
  cases hf : fineOk t
  · rw [hf] at h; simp at h
  · rw [hf] at h
    simp only [Bool.not_true, cond_false] at h ⊢
    by_cases s0 : slot a < 0
    · rw [bif_pos s0] at h; simp at h
    · rw [bif_neg s0] at h ⊢
      by_cases s1 : slot a > 15
      · rw [bif_pos s1] at h; simp at h
      · rw [bif_neg s1] at h ⊢
        by_cases s2 : hd t (slot a) = a
        · rw [bnot_pos s2]; refine ⟨by trivial, by simp; omega, by simp; omega⟩
        · rw [bnot_neg s2] at h; simp at h
theorem Reap_eq (t : List P) (h : WfP t) (a : Int) : proc_Reap t a = some (reapL t a) := by
  unfold proc_Reap reapL
  rw [Find_eq t h, Option.bind_some]
  by_cases q : (fd t a).2.1 = 0
  · obtain ⟨hf, q0, q1⟩ := fd_ok q
    have hl := fine_len hf
    rw [bnot_pos q, bnot_pos q]
    simp only [chk_at q0 (show (fd t a).1 < (t.length : Int) by omega), letv_eq]
    rw [with_eq t hl _ _ q0 q1, Option.bind_some, bs5]
    rfl
  · rw [bnot_neg q, bnot_neg q]
theorem rReap_eq (t : List P) (h : WfP t) (a : Int) : R31_Reap t a = some (reapL t a) := by
  unfold R31_Reap reapL
  rw [rFind_eq t h, Option.bind_some]
  by_cases q : (fd t a).2.1 = 0
  · obtain ⟨hf, q0, q1⟩ := fd_ok q
    have hl := fine_len hf
    rw [bnot_pos q, bnot_pos q]
    simp only [chk_at q0 (show (fd t a).1 < (t.length : Int) by omega), letv_eq]
    rw [put_eq t hl _ _ q0 q1, Option.bind_some, bs5]
    rfl
  · rw [bnot_neg q, bnot_neg q]
theorem Same_refl (t : List P) (hl : t.length ≤ 140737488355328) (hg : ∀ x ∈ t, x.2.2.2.2.2.2.2.1.length ≤ 140737488355328) : R31_Same t t = some true := by
  unfold R31_Same
  rw [bnot_pos rfl]
  refine (loop_up (fun j => j) t.length (fun j => 0 ≤ j) (fun j => some true) (by simp) (by simp; omega) ?_).trans rfl
  intro k j (h0 : 0 ≤ j) hk
  unfold R31_Same_L1 R31_Same_J1
  by_cases hj : j < (t.length : Int)
  · have hk := hk hj (j + 1) (by omega) rfl
    have e := proc_refl _ (hg _ (getD_mem (d := p0) h0 hj))
    unfold p0 at e
    rw [bif_pos hj, chk_at h0 hj, chk_at h0 hj, w64 (by omega) (by omega), hk, e]
    rfl
  · rw [bif_neg hj]

/-! ### The law's own -/
def smallOk (t : List P) : Bool := t.all (fun x => !decide ((x.2.2.2.2.2.2.2.1.length : Int) > 8)) && decide ((t.length : Int) ≤ 20)
theorem Small_eq (t : List P) (hl : t.length ≤ 140737488355328) : L31_Small t = some (smallOk t) := by
  unfold L31_Small smallOk
  refine (loop_up (fun j => j) t.length (fun j => 0 ≤ j) (fun j => some ((t.drop j.toNat).all (fun x => !decide ((x.2.2.2.2.2.2.2.1.length : Int) > 8)) && decide ((t.length : Int) ≤ 20))) (by simp) (by simp; omega) ?_).trans (by simp)
  intro k j (h0 : 0 ≤ j) hk
  unfold L31_Small_L1 L31_Small_J1
  by_cases hj : j < (t.length : Int)
  · have hk := hk hj (j + 1) (by omega) rfl
    rw [bif_pos hj, chk_at h0 hj, w64 (by omega) (by omega), hk, pall_at h0 hj]
    unfold p0
    cases decide (((t.getD j.toNat (0, false, 0, (0, false, (List.replicate 8 0), (List.replicate 16 0), 0, (List.replicate 8 0), ()), 0, 0, 0, [], ())).2.2.2.2.2.2.2.1.length : Int) > 8) <;> rfl
  · rw [bif_neg hj, pall_end hj]; rfl
theorem To_eq (t : List P) (hl : t.length ≤ 20) : L31_To t = some t := by
  unfold L31_To
  refine (loop_up (fun x => x.1) t.length (fun x => ∃ j acc, 0 ≤ j ∧ acc = t.take j.toNat ∧ x = (j, acc)) (fun x => some t) ⟨0, [], by omega, by simp, rfl⟩ (by simp; omega) ?_).trans rfl
  rintro k _ ⟨j, acc, h0, rfl, rfl⟩ hk
  unfold L31_To_L1 L31_To_J1
  simp only [letv_eq]
  by_cases hj : j < (t.length : Int)
  · have e := take_at (d := p0) h0 hj
    unfold p0 at e
    rw [bif_pos hj, chk_at h0 hj, w64 (by omega) (by omega), chk_pos (by simp; omega), ← e]
    exact hk hj (j + 1, t.take (j + 1).toNat) ⟨j + 1, _, by omega, rfl, rfl⟩ rfl
  · rw [bif_neg hj, take_end hj]
theorem From_eq (t : List P) (hl : t.length ≤ 20) : L31_From t = some t := by
  unfold L31_From
  refine (loop_up (fun x => x.1) t.length (fun x => ∃ j acc, 0 ≤ j ∧ acc = t.take j.toNat ∧ x = (j, acc)) (fun x => some t) ⟨0, [], by omega, by simp, rfl⟩ (by simp; omega) ?_).trans rfl
  rintro k _ ⟨j, acc, h0, rfl, rfl⟩ hk
  unfold L31_From_L1 L31_From_J1
  simp only [letv_eq]
  by_cases hj : j < (t.length : Int)
  · have e := take_at (d := p0) h0 hj
    unfold p0 at e
    rw [bif_pos hj, chk_at h0 hj, w64 (by omega) (by omega), chk_pos (by simp; omega), ← e]
    exact hk hj (j + 1, t.take (j + 1).toNat) ⟨j + 1, _, by omega, rfl, rfl⟩ rfl
  · rw [bif_neg hj, take_end hj]
theorem small_len {t : List P} (h : smallOk t = true) : t.length ≤ 20 ∧ ∀ x ∈ t, x.2.2.2.2.2.2.2.1.length ≤ 8 := by
  unfold smallOk at h
  simp only [Bool.and_eq_true, decide_eq_true_eq, List.all_eq_true] at h
  refine ⟨by omega, fun x hx => ?_⟩
  have := h.1 x hx
  simp only [Bool.not_eq_true', decide_eq_false_iff_not] at this
  omega
theorem alive31 : L31_alive = some true := by decide +kernel
theorem wfP_of {t : List P} (h : wfD (.sl (.pair (.int .i64) (.pair .bool (.pair (.int .i64) (.pair (.pair (.int .i64) (.pair .bool (.pair (.arr 8 (.int .i64)) (.pair (.arr 16 (.int .i64)) (.pair (.int .i64) (.pair (.arr 8 (.int .i64)) .unit)))))) (.pair (.int .i64) (.pair (.int .i64) (.pair (.int .i64) (.pair (.sl (.pair (.int .i64) (.pair (.int .i64) (.pair (.int .i64) (.pair (.int .i64) (.pair (.int .i64) .unit)))))) .unit))))))))) t) : WfP t := by
  obtain ⟨h1, h2⟩ := wfl h
  refine ⟨h1, fun x hx => ?_⟩
  obtain ⟨_, _, _, ⟨_, _, ⟨q1, _⟩, ⟨q2, _⟩, _, ⟨q3, _⟩, _⟩, _, _, _, q4, _⟩ := h2 x hx
  exact ⟨⟨q1, q2, q3⟩, (wfl q4).1⟩
def Good (t : List P) : Prop := t.length ≤ 20 ∧ ∀ x ∈ t, x.2.2.2.2.2.2.2.1.length ≤ 8
theorem Good.set {t : List P} (h : Good t) (i : Nat) {x : P} (hx : x.2.2.2.2.2.2.2.1.length ≤ 8) : Good (t.set i x) := by
  refine ⟨by simp [h.1], fun y hy => ?_⟩
  rcases List.mem_or_eq_of_mem_set hy with hy | hy
  · exact h.2 y hy
  · rw [hy]; exact hx
theorem Good.at {t : List P} (h : Good t) (i : Nat) : (t.getD i p0).2.2.2.2.2.2.2.1.length ≤ 8 := by
  by_cases hi : i < t.length
  · have := getD_mem (xs := t) (i := (i : Int)) (d := p0) (by omega) (by omega)
    exact h.2 _ (by simpa using this)
  · rw [List.getD_eq_getElem?_getD, List.getElem?_eq_none (by omega)]; simp [p0]
theorem spw_good {t : List P} (h : Good t) (pr a : Int) : ∀ (l : List P) (j : Int), Good (spw t pr a j l).1
  | [], j => h
  | x :: l, j => by
    rw [spw]
    cases (x.2.1 || decide (x.1 = 65535))
    · exact h.set _ (by simp)
    · exact spw_good h pr a l (j + 1)
theorem spawn_good {t : List P} (h : Good t) (pr a : Int) : Good (spawnL t pr a).1 := by
  unfold spawnL
  cases fineOk t
  · exact h
  · cases wordOk a
    · exact h
    · exact spw_good h pr a t 0
theorem end_good {t : List P} (h : Good t) (p a : Int) : Good (endL t p a).1 := by
  unfold endL
  cases fineOk t
  · exact h
  · cases there t p
    · exact h
    · cases decide ((t.getD p.toNat p0).2.2.2.2.1 = 0)
      · exact h
      · exact h.set _ (h.at _)
theorem reap_good {t : List P} (h : Good t) (a : Int) : Good (reapL t a).1 := by
  unfold reapL
  cases decide ((fd t a).2.1 = 0)
  · exact h
  · cases decide ((t.getD (fd t a).1.toNat p0).2.2.2.2.1 = 3)
    · exact h
    · exact h.set _ (by simp)
theorem Good.same {t : List P} (h : Good t) : R31_Same t t = some true := Same_refl t (by have := h.1; omega) (fun x hx => by have := h.2 x hx; omega)
end PR
end Go.Proofs.YtejedlpnejjnbaaSV
