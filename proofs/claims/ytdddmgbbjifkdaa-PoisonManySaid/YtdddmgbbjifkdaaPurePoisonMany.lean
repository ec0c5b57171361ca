/- PoisonMany: what any levels are behind any strength (All), and the least strength that hits any ends (Least), are what the reference tells; proved for all int slices and strengths, no condition beside their type. -/
import Derived.Test.YtdddmgbbjifkdaaPPoisonManyx2
import Derived.Test.YtdddmgbbjifkdaaKit
import Derived.OpenShut
namespace Go.Proofs.Ytdddmgbbjifkdaa.Pure
open Go.RowKit Go.Proofs.Ytdddmgbbjifkdaa.PPoisonMany Go.Proofs.Ytdddmgbbjifkdaa.Kit Go.Proofs.YtdddmgbbjifkdaaW.PrintWords Go.Proofs.YtdddmgbbjifkdaaW.PrintLast Go.Proofs.YtdddmgbbjifkdaaW.PrintMore

theorem fine_eq (a : Int) : poison_Fine.f a = some (decide (0 ≤ a ∧ a ≤ 255)) := by
  unfold poison_Fine.f
  by_cases h : a ≥ 0
  · rw [if_pos h]; simp [h]
  · rw [if_neg h]; simp; omega

theorem rfine_eq (a : Int) : becketref16_Fine.f a = some (decide (0 ≤ a ∧ a ≤ 255)) := fine_eq a

theorem raise_eq (a b : Int) : poison_Raise.f a b = some (if 0 ≤ a ∧ a ≤ 255 ∧ 1 ≤ b ∧ b ≤ 255 then (if b > a then (b, 0) else (a, 0)) else (0, 8)) := by
  unfold poison_Raise.f mx
  rw [fine_eq, fine_eq]
  simp only [Option.bind_some, decide_eq_true_eq]
  repeat' split
  all_goals first | rfl | (exfalso; omega)

theorem rraise_eq (k : Nat) (a b : Int) : becketref16_Raise.f (k + 1) a b = some (if 0 ≤ a ∧ a ≤ 255 ∧ 1 ≤ b ∧ b ≤ 255 then (if b > a then (b, 0) else (a, 0)) else (0, 8)) := by
  unfold becketref16_Raise.f
  rw [rfine_eq]
  simp only [Option.bind_some, decide_eq_true_eq, becketref16_Raise.j0, if_true]
  repeat' split
  all_goals first | rfl | (exfalso; omega)

def okB (x : Int) : Prop := 0 ≤ x ∧ x ≤ 255
instance (x : Int) : Decidable (okB x) := by unfold okB; exact inferInstance
def allOk (l : List Int) : Bool := l.all fun x => decide (okB x)
def up (b a : Int) : Int := if b > a then b else a

theorem hit_eq (a b : Int) : becketref16_Hit.f a b = some (decide (okB a ∧ okB b ∧ b < a)) := by
  unfold becketref16_Hit.f
  rw [rfine_eq, rfine_eq]
  simp only [Option.bind_some, decide_eq_true_eq, okB]
  by_cases h1 : 0 ≤ a ∧ a ≤ 255 <;> by_cases h2 : 0 ≤ b ∧ b ≤ 255 <;> simp [h1, h2]

theorem all_loop (b : Int) (hb : 1 ≤ b ∧ b ≤ 255) (rest : List Int) : ∀ (pre out : List Int), (pre ++ rest).length ≤ 30 → out.length ≤ pre.length →
    Ev (fun k => poison_All.l0 k b out (pre ++ rest) ((pre ++ rest).length : Int) (pre.length : Int)) (if allOk rest then (out ++ rest.map (up b), 0) else ([], 8)) := by
  induction rest with
  | nil =>
    intro pre out h1 h2
    refine ev_succ ?_
    simp only [poison_All.l0]
    refine ev_if_neg (by simp) ?_
    simp only [allOk, List.all_nil, if_true, List.map_nil, List.append_nil]
    exact Ev.now _
  | cons y rest ih =>
    intro pre out h1 h2
    refine ev_succ ?_
    simp only [poison_All.l0]
    have hlen : (pre ++ y :: rest).length = pre.length + rest.length + 1 := by simp; omega
    refine ev_if_pos (by rw [hlen]; omega) (ev_if_pos (by omega) (ev_if_pos (by rw [hlen]; omega) ?_))
    rw [rd_mid, raise_eq]
    simp only [Option.bind_some]
    by_cases hy : okB y
    · have hy' : 0 ≤ y ∧ y ≤ 255 := hy
      rw [if_pos (by omega)]
      have hr : (if b > y then (b, (0 : Int)) else (y, 0)) = (up b y, 0) := by unfold up; split <;> rfl
      rw [hr]
      refine ev_if_pos rfl (ev_if_pos (by omega) ?_)
      rw [wr (by omega)]
      have h := ih (pre ++ [y]) (out ++ [up b y]) (by simpa using h1) (by simp; omega)
      have e1 : pre ++ [y] ++ rest = pre ++ y :: rest := by simp
      have e2 : ((pre ++ [y]).length : Int) = (pre.length : Int) + 1 := by simp
      rw [e1, e2] at h
      have e3 : allOk (y :: rest) = allOk rest := by unfold allOk; simp [hy]
      rw [e3]
      simpa using h
    · have hy' : ¬ (0 ≤ y ∧ y ≤ 255) := hy
      rw [if_neg (by omega)]
      refine ev_if_neg (by decide) ?_
      have e3 : allOk (y :: rest) = false := by unfold allOk; simp [hy]
      rw [e3]
      exact Ev.now _

theorem rall_loop (b : Int) (hb : 1 ≤ b ∧ b ≤ 255) (rest : List Int) : ∀ (pre out : List Int), (pre ++ rest).length ≤ 30 → out.length ≤ pre.length →
    Ev (fun k => becketref16_All.l0 k (pre ++ rest) b out (pre.length : Int)) (if allOk rest then (out ++ rest.map (up b), 0) else ([], 8)) := by
  induction rest with
  | nil =>
    intro pre out h1 h2
    refine ev_succ ?_
    simp only [becketref16_All.l0]
    refine ev_if_neg (by simp) ?_
    simp only [allOk, List.all_nil, if_true, List.map_nil, List.append_nil]
    exact Ev.now _
  | cons y rest ih =>
    intro pre out h1 h2
    refine ev_succ (ev_succ ?_)
    simp only [becketref16_All.l0]
    have hlen : (pre ++ y :: rest).length = pre.length + rest.length + 1 := by simp; omega
    refine ev_if_pos (by rw [hlen]; omega) (ev_if_pos (by omega) ?_)
    simp only [rd_mid, rraise_eq, Option.bind_some]
    by_cases hy : okB y
    · have hy' : 0 ≤ y ∧ y ≤ 255 := hy
      have hr : (if 0 ≤ y ∧ y ≤ 255 ∧ 1 ≤ b ∧ b ≤ 255 then (if b > y then (b, (0 : Int)) else (y, 0)) else (0, 8)) = (up b y, 0) := by
        rw [if_pos (by omega)]; unfold up; split <;> rfl
      simp only [hr]
      refine ev_if_pos (by simp) (ev_if_pos (by omega) ?_)
      rw [wr (by omega)]
      have h := ih (pre ++ [y]) (out ++ [up b y]) (by simpa using h1) (by simp; omega)
      have e1 : pre ++ [y] ++ rest = pre ++ y :: rest := by simp
      have e2 : ((pre ++ [y]).length : Int) = (pre.length : Int) + 1 := by simp
      rw [e1, e2] at h
      have e3 : allOk (y :: rest) = allOk rest := by unfold allOk; simp [hy]
      rw [e3]
      have h' : Ev (fun k => becketref16_All.l0 (k + 1) (pre ++ y :: rest) b (out ++ [up b y]) ((pre.length : Int) + 1)) (if allOk rest then (out ++ [up b y] ++ rest.map (up b), 0) else ([], 8)) := by
        obtain ⟨K, hK⟩ := h; exact ⟨K, fun k hk => hK (k + 1) (by omega)⟩
      rw [show out ++ (y :: rest).map (up b) = out ++ [up b y] ++ rest.map (up b) by simp]
      exact h'
    · have hy' : ¬ (0 ≤ y ∧ y ≤ 255) := hy
      have hr : (if 0 ≤ y ∧ y ≤ 255 ∧ 1 ≤ b ∧ b ≤ 255 then (if b > y then (b, (0 : Int)) else (y, 0)) else (0, 8)) = (0, 8) := by
        rw [if_neg (by omega)]
      simp only [hr]
      refine ev_if_neg (by decide) ?_
      have e3 : allOk (y :: rest) = false := by unfold allOk; simp [hy]
      rw [e3]
      exact Ev.now _

def lo (l : List Int) (m : Int) : Int := l.foldl (fun m x => if x < m then x else m) m

theorem lo_le (l : List Int) : ∀ m, lo l m ≤ m := by
  induction l with
  | nil => intro m; exact Int.le_refl m
  | cons y l ih =>
    intro m
    have e : lo (y :: l) m = lo l (if y < m then y else m) := rfl
    rw [e]
    have := ih (if y < m then y else m)
    by_cases c : y < m
    · rw [if_pos c] at *; omega
    · rw [if_neg c] at *; omega
theorem lo_ge (l : List Int) : ∀ m, 0 ≤ m → (∀ x ∈ l, okB x) → 0 ≤ lo l m := by
  induction l with
  | nil => intro m h _; exact h
  | cons y l ih =>
    intro m h h2
    have hy : 0 ≤ y ∧ y ≤ 255 := h2 y (by simp)
    have := ih (if y < m then y else m) (by split <;> omega) (fun x hx => h2 x (by simp [hx]))
    unfold lo at *; simpa using this
theorem lo_mem_le (l : List Int) : ∀ m, ∀ x ∈ l, lo l m ≤ x := by
  induction l with
  | nil => intro m x hx; simp at hx
  | cons y l ih =>
    intro m x hx
    have e : lo (y :: l) m = lo l (if y < m then y else m) := rfl
    rw [e]
    rcases List.mem_cons.1 hx with rfl | hx
    · have := lo_le l (if x < m then x else m)
      by_cases c : x < m
      · rw [if_pos c] at *; omega
      · rw [if_neg c] at *; omega
    · exact ih _ x hx
theorem lo_is (l : List Int) : ∀ m, lo l m = m ∨ lo l m ∈ l := by
  induction l with
  | nil => intro m; exact .inl rfl
  | cons y l ih =>
    intro m
    have e : lo (y :: l) m = lo l (if y < m then y else m) := rfl
    rw [e]
    rcases ih (if y < m then y else m) with h | h
    · rw [h]; by_cases c : y < m
      · rw [if_pos c]; right; simp
      · rw [if_neg c]; left; rfl
    · right; simp [h]

def leastOf (l : List Int) : Int × Bool := if allOk l then (if lo l 255 = 255 then (0, false) else (lo l 255 + 1, true)) else (0, false)

theorem least_loop (rest : List Int) : ∀ (pre : List Int) (m : Int), (pre ++ rest).length ≤ 30 → 0 ≤ m → m ≤ 255 →
    Ev (fun k => poison_Least.l0 k m (pre ++ rest) ((pre ++ rest).length : Int) (pre.length : Int)) (if allOk rest then (if lo rest m = 255 then (0, false) else (lo rest m + 1, true)) else (0, false)) := by
  induction rest with
  | nil =>
    intro pre m h1 h2 h3
    refine ev_succ ?_
    simp only [poison_Least.l0]
    refine ev_if_neg (by simp) ?_
    have e : lo [] m = m := rfl
    rw [e]
    simp only [allOk, List.all_nil, if_true]
    by_cases c : m = 255
    · exact ev_if_pos c (by rw [if_pos c]; exact Ev.now _)
    · exact ev_if_neg c (by rw [if_neg c, wr (by omega)]; exact Ev.now _)
  | cons y rest ih =>
    intro pre m h1 h2 h3
    refine ev_succ ?_
    simp only [poison_Least.l0]
    have hlen : (pre ++ y :: rest).length = pre.length + rest.length + 1 := by simp; omega
    refine ev_if_pos (by rw [hlen]; omega) (ev_if_pos (by omega) (ev_if_pos (by rw [hlen]; omega) ?_))
    rw [rd_mid, fine_eq]
    simp only [Option.bind_some, decide_eq_true_eq]
    by_cases hy : okB y
    · have hy' : 0 ≤ y ∧ y ≤ 255 := hy
      refine ev_if_pos hy' ?_
      rw [wr (by omega)]
      have h := ih (pre ++ [y]) (mn m y) (by simpa using h1) (by unfold mn; split <;> omega) (by unfold mn; split <;> omega)
      have e1 : pre ++ [y] ++ rest = pre ++ y :: rest := by simp
      have e2 : ((pre ++ [y]).length : Int) = (pre.length : Int) + 1 := by simp
      rw [e1, e2] at h
      have e3 : allOk (y :: rest) = allOk rest := by unfold allOk; simp [hy]
      have e4 : lo (y :: rest) m = lo rest (mn m y) := rfl
      rw [e3, e4]
      exact h
    · have hy' : ¬ (0 ≤ y ∧ y ≤ 255) := hy
      refine ev_if_neg hy' ?_
      have e3 : allOk (y :: rest) = false := by unfold allOk; simp [hy]
      rw [e3]
      exact Ev.now _

/-- The reference's inner loop: is there an end below s, from the place on? -/
theorem rin_hit (l : List Int) (s : Int) (hs : okB s) (rest : List Int) : ∀ (pre : List Int), l = pre ++ rest → l.length ≤ 30 → (∃ x ∈ rest, okB x ∧ x < s) →
    Ev (fun k => becketref16_Least.l2 k l s (pre.length : Int)) (s, true) := by
  induction rest with
  | nil => intro pre _ _ h; obtain ⟨x, hx, _⟩ := h; simp at hx
  | cons y rest ih =>
    intro pre hl h1 h
    subst hl
    refine ev_succ ?_
    simp only [becketref16_Least.l2]
    have hlen : (pre ++ y :: rest).length = pre.length + rest.length + 1 := by simp; omega
    refine ev_if_pos (by rw [hlen]; omega) (ev_if_pos (by omega) ?_)
    simp only [rd_mid, hit_eq, Option.bind_some, decide_eq_true_eq]
    by_cases c : okB s ∧ okB y ∧ y < s
    · exact ev_if_pos c (Ev.now _)
    · refine ev_if_neg c ?_
      rw [wr (by omega)]
      have h' := ih (pre ++ [y]) (by simp) h1 (by
        obtain ⟨x, hx, hx2⟩ := h
        rcases List.mem_cons.1 hx with rfl | hx
        · exact absurd ⟨hs, hx2⟩ c
        · exact ⟨x, hx, hx2⟩)
      have e2 : ((pre ++ [y]).length : Int) = (pre.length : Int) + 1 := by simp
      rw [e2] at h'
      exact h'

theorem rin_miss (l : List Int) (s : Int) (r : Int × Bool) (rest : List Int) : ∀ (pre : List Int), l = pre ++ rest → l.length ≤ 30 → (∀ x ∈ rest, ¬ x < s) →
    Ev (fun k => becketref16_Least.l1 k l (wrap64 (s + 1))) r → Ev (fun k => becketref16_Least.l2 k l s (pre.length : Int)) r := by
  induction rest with
  | nil =>
    intro pre hl h1 h hk
    refine ev_succ ?_
    simp only [becketref16_Least.l2]
    exact ev_if_neg (by subst hl; simp) hk
  | cons y rest ih =>
    intro pre hl h1 h hk
    subst hl
    refine ev_succ ?_
    simp only [becketref16_Least.l2]
    have hlen : (pre ++ y :: rest).length = pre.length + rest.length + 1 := by simp; omega
    refine ev_if_pos (by rw [hlen]; omega) (ev_if_pos (by omega) ?_)
    simp only [rd_mid, hit_eq, Option.bind_some, decide_eq_true_eq]
    refine ev_if_neg (fun c => h y (by simp) c.2.2) ?_
    rw [wr (by omega)]
    have h' := ih (pre ++ [y]) (by simp) h1 (fun x hx => h x (by simp [hx])) hk
    have e2 : ((pre ++ [y]).length : Int) = (pre.length : Int) + 1 := by simp
    rw [e2] at h'
    exact h'

theorem rout (l : List Int) (h1 : l.length ≤ 30) (hok : ∀ x ∈ l, okB x) (d : Nat) : ∀ (s : Int), 1 ≤ s → s ≤ 256 → 256 - s = d → s ≤ lo l 255 + 1 →
    Ev (fun k => becketref16_Least.l1 k l s) (if lo l 255 = 255 then (0, false) else (lo l 255 + 1, true)) := by
  have hlo := lo_le l 255
  have hlo0 := lo_ge l 255 (by omega) hok
  induction d with
  | zero =>
    intro s h2 h3 h4 h5
    refine ev_succ ?_
    simp only [becketref16_Least.l1]
    refine ev_if_neg (by omega) ?_
    rw [if_pos (by omega)]
    exact Ev.now _
  | succ d ih =>
    intro s h2 h3 h4 h5
    refine ev_succ ?_
    simp only [becketref16_Least.l1]
    refine ev_if_pos (by omega) ?_
    by_cases c : s = lo l 255 + 1
    · rw [if_neg (by omega), ← c]
      have hm : ∃ x ∈ l, okB x ∧ x < s := by
        rcases lo_is l 255 with h | h
        · omega
        · exact ⟨_, h, hok _ h, by omega⟩
      exact rin_hit l s ⟨by omega, by omega⟩ l [] rfl h1 hm
    · refine rin_miss l s _ l [] rfl h1 (fun x hx => ?_) ?_
      · have := lo_mem_le l 255 x hx; omega
      · rw [wr (by omega)]
        exact ih (s + 1) (by omega) (by omega) (by omega) (by omega)

theorem rleast_loop (l : List Int) (h1 : l.length ≤ 30) (r : Int × Bool) (hk : allOk l = true → Ev (fun k => becketref16_Least.l1 k l 1) r) (hk' : allOk l = false → r = (0, false)) (rest : List Int) : ∀ (pre : List Int), l = pre ++ rest → allOk pre = true →
    Ev (fun k => becketref16_Least.l0 k l (pre.length : Int)) r := by
  induction rest with
  | nil =>
    intro pre hl hp
    refine ev_succ ?_
    simp only [becketref16_Least.l0]
    refine ev_if_neg (by subst hl; simp) (hk ?_)
    subst hl; simpa using hp
  | cons y rest ih =>
    intro pre hl hp
    refine ev_succ ?_
    simp only [becketref16_Least.l0]
    have hlen : l.length = pre.length + rest.length + 1 := by subst hl; simp; omega
    refine ev_if_pos (by rw [hlen]; omega) (ev_if_pos (by omega) ?_)
    have hrd : rd l (pre.length : Int) = y := by subst hl; exact rd_mid _ _ _
    simp only [hrd, rfine_eq, Option.bind_some, decide_eq_true_eq]
    by_cases hy : okB y
    · have hy' : 0 ≤ y ∧ y ≤ 255 := hy
      refine ev_if_pos hy' ?_
      rw [wr (by omega)]
      have h := ih (pre ++ [y]) (by simp [hl]) (by unfold allOk at *; simp [hp, hy])
      have e2 : ((pre ++ [y]).length : Int) = (pre.length : Int) + 1 := by simp
      rw [e2] at h
      exact h
    · have hy' : ¬ (0 ≤ y ∧ y ≤ 255) := hy
      refine ev_if_neg hy' ?_
      rw [hk' (by subst hl; unfold allOk; simp [hy])]
      exact Ev.now _

theorem same_loop (l : List Int) (h1 : l.length ≤ 30) (rest : List Int) : ∀ (pre : List Int), l = pre ++ rest → Ev (fun k => becketref02_Same.l0 k l l (pre.length : Int)) true := by
  induction rest with
  | nil =>
    intro pre hl
    refine ev_succ ?_
    simp only [becketref02_Same.l0]
    exact ev_if_neg (by subst hl; simp) (Ev.now _)
  | cons y rest ih =>
    intro pre hl
    refine ev_succ ?_
    simp only [becketref02_Same.l0]
    have hlen : l.length = pre.length + rest.length + 1 := by subst hl; simp; omega
    refine ev_if_pos (by rw [hlen]; omega) (ev_if_pos (by omega) (ev_if_pos (by rw [hlen]; omega) (ev_if_pos (by trivial) ?_)))
    rw [wr (by omega)]
    have h := ih (pre ++ [y]) (by simp [hl])
    have e2 : ((pre ++ [y]).length : Int) = (pre.length : Int) + 1 := by simp
    rw [e2] at h
    exact h

theorem PoisonMany : becketlaw16_PoisonMany.Pure := by
  intro l a1 hm hr hw h1
  have al : becketlaw16_alive.f 60 = some true := by decide +kernel
  have hal := Ev.of becketlaw16_alive.mono al
  refine Ev.rounds ?_
  unfold becketlaw16_PoisonMany.f
  by_cases hlen : (l.length : Int) > 30
  · refine ev_if_pos hlen ?_
    exact ev_bind hal (Ev.now _)
  refine ev_if_neg hlen ?_
  have hl : l.length ≤ 30 := by omega
  have hAll : Ev (fun k => poison_All.f k l a1) (if 1 ≤ a1 ∧ a1 ≤ 255 then (if allOk l then (l.map (up a1), 0) else ([], 8)) else ([], 8)) := by
    unfold poison_All.f
    simp only [raise_eq, Option.bind_some]
    by_cases hb : 1 ≤ a1 ∧ a1 ≤ 255
    · rw [if_pos hb, if_pos (by omega)]
      rw [if_pos (show a1 > 0 by omega)]
      refine ev_if_pos rfl ?_
      have h := all_loop a1 hb l [] [] (by simpa using hl) (by simp)
      simpa using h
    · rw [if_neg hb, if_neg (by omega)]
      exact ev_if_neg (by decide) (Ev.now _)
  have hRAll : Ev (fun k => becketref16_All.f k l a1) (if 1 ≤ a1 ∧ a1 ≤ 255 then (if allOk l then (l.map (up a1), 0) else ([], 8)) else ([], 8)) := by
    unfold becketref16_All.f
    by_cases c : a1 < 1
    · rw [if_neg (by omega)]
      refine ev_if_pos c (ev_succ ?_)
      simp only [becketref16_All.j0, if_true]
      exact Ev.now _
    · refine ev_if_neg c (ev_succ ?_)
      simp only [becketref16_All.j0, decide_eq_true_eq]
      by_cases c2 : a1 > 255
      · rw [if_neg (by omega)]
        exact ev_if_pos c2 (Ev.now _)
      · rw [if_pos (by omega)]
        refine ev_if_neg c2 ?_
        have h := rall_loop a1 (by omega) l [] [] (by simpa using hl) (by simp)
        simpa using h
  have hLeast : Ev (fun k => poison_Least.f k l) (leastOf l) := by
    unfold poison_Least.f leastOf
    have h := least_loop l [] 255 (by simpa using hl) (by omega) (by omega)
    simpa using h
  have hRLeast : Ev (fun k => becketref16_Least.f k l) (leastOf l) := by
    unfold becketref16_Least.f
    refine rleast_loop l hl _ (fun hok => ?_) (fun hok => ?_) l [] rfl rfl
    · have hok' : ∀ x ∈ l, okB x := by unfold allOk at hok; simpa using hok
      unfold leastOf
      rw [if_pos hok]
      have := lo_ge l 255 (by omega) hok'
      exact rout l hl hok' 255 1 (by omega) (by omega) (by omega) (by omega)
    · unfold leastOf; rw [hok]; rfl
  have hL0 : (if 1 ≤ a1 ∧ a1 ≤ 255 then (if allOk l then (l.map (up a1), (0 : Int)) else ([], 8)) else ([], 8)).1.length ≤ 30 := by
    repeat' split
    all_goals simp [hl]
  generalize (if 1 ≤ a1 ∧ a1 ≤ 255 then (if allOk l then (l.map (up a1), (0 : Int)) else ([], 8)) else ([], 8)) = ra at *
  refine ev_bind hAll (ev_bind hRAll (ev_bind hLeast (ev_bind hRLeast ?_)))
  have hS : Ev (fun k => becketref02_Same.f k ra.1 ra.1) true := by
    unfold becketref02_Same.f
    exact ev_if_pos rfl (same_loop ra.1 hL0 ra.1 [] rfl)
  refine ev_bind hS (ev_if_pos (by simp) (ev_if_pos (by simp) (ev_if_pos (by simp) (ev_if_pos (by simp) ?_))))
  exact ev_bind hal (Ev.now _)

end Go.Proofs.Ytdddmgbbjifkdaa.Pure
