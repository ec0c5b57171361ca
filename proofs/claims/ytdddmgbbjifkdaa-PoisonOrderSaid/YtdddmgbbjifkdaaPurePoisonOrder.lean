/- PoisonOrder: in whatever order poison comes, the level is the same; an end that is hit stays hit, and one that is not is at the least strength; proved for all lists of bytes and all bytes, no condition beside their type. -/
import Derived.Test.YtdddmgbbjifkdaaPPoisonOrderx2
import Derived.Test.YtdddmgbbjifkdaaKit
import Derived.OpenShut
namespace Go.Proofs.Ytdddmgbbjifkdaa.Pure
open Go.RowKit Go.Proofs.Ytdddmgbbjifkdaa.PPoisonOrder Go.Proofs.Ytdddmgbbjifkdaa.Kit Go.Proofs.YtdddmgbbjifkdaaW.PrintWords Go.Proofs.YtdddmgbbjifkdaaW.PrintLast Go.Proofs.YtdddmgbbjifkdaaW.PrintMore

theorem fine_eq (a : Int) : poison_Fine.f a = some (decide (0 ≤ a ∧ a ≤ 255)) := by
  unfold poison_Fine.f
  by_cases h : a ≥ 0
  · rw [if_pos h]; simp [h]
  · rw [if_neg h]; simp; omega

theorem raise_eq (a b : Int) : poison_Raise.f a b = some (if 0 ≤ a ∧ a ≤ 255 ∧ 1 ≤ b ∧ b ≤ 255 then (mx a b, 0) else (0, 8)) := by
  unfold poison_Raise.f
  rw [fine_eq, fine_eq]
  simp only [Option.bind_some, decide_eq_true_eq]
  repeat' split
  all_goals first | rfl | (exfalso; omega)

theorem hit_eq (a b : Int) (ha : 0 ≤ a ∧ a ≤ 255) (hb : 0 ≤ b ∧ b ≤ 255) : poison_Hit.f a b = some (decide (a > b)) := by
  unfold poison_Hit.f
  rw [fine_eq, fine_eq]
  simp [ha, hb]

theorem least_eq (b : Int) (hb : 0 ≤ b ∧ b ≤ 255) : Ev (fun k => poison_Least.f k [b]) (if b < 255 then (b + 1, true) else (0, false)) := by
  refine ev_imp 2 (fun k hk => ?_)
  obtain ⟨k, rfl⟩ : ∃ m, k = m + 2 := ⟨k - 2, by omega⟩
  have e : rd [b] 0 = b := rfl
  have e1 : wrap64 (0 + 1) = 1 := wr (by omega)
  unfold poison_Least.f
  simp only [poison_Least.l0, e, fine_eq, e1, Option.bind_some, List.length_cons, List.length_nil]
  rw [if_pos (by decide), if_pos (by decide), if_pos (by decide), if_pos (by simpa using hb), if_neg (by decide)]
  by_cases c : b < 255
  · have hm : mn 255 b = b := by unfold mn; rw [if_pos c]
    rw [hm, if_neg (by omega), if_pos c, wr (by omega)]
  · have hm : mn 255 b = 255 := by unfold mn; rw [if_neg c]
    rw [hm, if_pos rfl, if_neg c]

/-- The greatest of so many, and of 0, one or what stands there. -/
def hi (l : List Int) : Int := l.foldl (fun m x => mx m (mx 1 x)) 0

theorem mx_comm (a b : Int) : mx a b = mx b a := by unfold mx; split <;> split <;> omega
theorem mx_assoc (a b c : Int) : mx (mx a b) c = mx a (mx b c) := by simp only [mx_max]; omega
theorem foldl_mx (l : List Int) : ∀ a, l.foldl (fun m x => mx m (mx 1 x)) (mx a 0) = mx a (hi l) := by
  induction l with
  | nil => intro a; rfl
  | cons y l ih =>
    intro a
    have e1 : mx (mx a 0) (mx 1 y) = mx (mx a (mx 1 y)) 0 := by simp only [mx_max]; omega
    have e2 : hi (y :: l) = l.foldl (fun m x => mx m (mx 1 x)) (mx (mx 1 y) 0) := by
      unfold hi; rw [List.foldl_cons]; congr 1; exact mx_comm _ _
    rw [List.foldl_cons, e1, ih, e2, ih, mx_assoc]
theorem hi_cons (y : Int) (l : List Int) : hi (y :: l) = mx (mx 1 y) (hi l) := by
  have h := foldl_mx l (mx 1 y)
  rw [← h]
  unfold hi; rw [List.foldl_cons]; congr 1; exact mx_comm _ _
theorem hi_append (l : List Int) : ∀ r, hi (l ++ r) = mx (hi l) (hi r) := by
  induction l with
  | nil =>
    intro r
    have h0 : 0 ≤ hi r := by
      cases r with
      | nil => exact Int.le_refl 0
      | cons y r => rw [hi_cons]; simp only [mx_max]; omega
    have e : hi [] = 0 := rfl
    rw [e, List.nil_append]; simp only [mx_max]; omega
  | cons y l ih => intro r; rw [List.cons_append, hi_cons, hi_cons, ih, ← mx_assoc]
theorem hi_reverse (l : List Int) : hi l.reverse = hi l := by
  induction l with
  | nil => rfl
  | cons y l ih => rw [List.reverse_cons, hi_append, ih, hi_cons, mx_comm]; congr 1; rw [hi_cons]; have : hi [] = 0 := rfl
                   rw [this]; simp only [mx_max]; omega
theorem hi_range (l : List Int) (h : ∀ x ∈ l, 0 ≤ x ∧ x ≤ 255) : 0 ≤ hi l ∧ hi l ≤ 255 := by
  induction l with
  | nil => exact ⟨Int.le_refl 0, by decide⟩
  | cons y l ih =>
    have := ih (fun x hx => h x (by simp [hx]))
    have hy := h y (by simp)
    rw [hi_cons]; simp only [mx_max]; omega

theorem order_loop (l : List Int) (b : Int) (hl : l.length ≤ 30) (hb : 0 ≤ b ∧ b ≤ 255) (hw : ∀ x ∈ l, 0 ≤ x ∧ x ≤ 255) (rest : List Int) : ∀ (pre : List Int), l = pre ++ rest →
    Ev (fun k => becketlaw16_PoisonOrder.l0 k l b (hi pre) (hi (l.reverse.take pre.length)) (decide (hi pre > b)) (l.length : Int) (pre.length : Int)) true := by
  have al : becketlaw16_alive.f 60 = some true := by decide +kernel
  have hal := Ev.of becketlaw16_alive.mono al
  have wb : wrap64 b = b := wr (by omega)
  induction rest with
  | nil =>
    intro pre he
    have he' : l = pre := by simpa using he
    subst he'
    refine ev_succ ?_
    simp only [becketlaw16_PoisonOrder.l0, wb]
    refine ev_if_neg (by omega) ?_
    refine ev_bind (least_eq b hb) ?_
    have e : l.reverse.take l.length = l.reverse := List.take_of_length_le (by simp)
    have hr := hi_range l hw
    rw [e, hi_reverse]
    refine ev_if_pos rfl ?_
    by_cases c : b < 255
    · rw [if_pos c]
      refine ev_if_pos (by simp [c]) (ev_if_pos (by simp) ?_)
      simp only [wr (x := b + 1 - 1) (by omega), hit_eq (b + 1) b (by omega) hb, hit_eq (b + 1 - 1) b (by omega) hb, Option.bind_some]
      refine ev_if_pos (by simp; omega) (ev_if_neg (by simp) (ev_if_pos ?_ (ev_bind hal (Ev.now _))))
      rw [beq_iff_eq]
      by_cases h : hi l > b
      · rw [decide_eq_true h, decide_eq_true (by omega)]
      · rw [decide_eq_false h, decide_eq_false (by omega)]
    · rw [if_neg c]
      refine ev_if_pos (by simp [c]) (ev_if_neg (by simp) (ev_if_pos ?_ (ev_bind hal (Ev.now _))))
      rw [beq_iff_eq, decide_eq_false (by omega)]
  | cons y rest ih =>
    intro pre he
    refine ev_succ ?_
    have hlen : l.length = pre.length + rest.length + 1 := by subst he; simp; omega
    have hrd : rd l (pre.length : Int) = y := by subst he; exact rd_mid _ _ _
    have e1 : wrap64 ((l.length : Int) - 1) = (l.length : Int) - 1 := wr (by omega)
    have e2 : wrap64 ((l.length : Int) - 1 - (pre.length : Int)) = ((l.length - 1 - pre.length : Nat) : Int) := by rw [wr (by omega)]; omega
    have hi2 : l.length - 1 - pre.length < l.length := by omega
    have hpre : ∀ x ∈ pre, 0 ≤ x ∧ x ≤ 255 := fun x hx => hw x (by subst he; simp [hx])
    have hy := hw y (by subst he; simp)
    have hz := hw (l[l.length - 1 - pre.length]) (List.getElem_mem _)
    have htr : l.reverse.take (pre.length + 1) = l.reverse.take pre.length ++ [l[l.length - 1 - pre.length]] := by
      rw [List.take_succ_eq_append_getElem (by simp; omega)]
      congr 1
      simp [List.getElem_reverse]
    have hr1 := hi_range pre hpre
    have hr2 := hi_range (l.reverse.take pre.length) (fun x hx => hw x (by have := List.mem_of_mem_take hx; simpa using this))
    have hup : hi (pre ++ [y]) = mx (hi pre) (mx 1 y) := by
      rw [hi_append, hi_cons]; have : hi [] = 0 := rfl
      rw [this]; simp only [mx_max]; omega
    have hdn : hi (l.reverse.take (pre.length + 1)) = mx (hi (l.reverse.take pre.length)) (mx 1 (l[l.length - 1 - pre.length])) := by
      rw [htr, hi_append, hi_cons]; have : hi [] = 0 := rfl
      rw [this]; simp only [mx_max]; omega
    have hr3 : 0 ≤ hi (pre ++ [y]) ∧ hi (pre ++ [y]) ≤ 255 := hi_range _ (fun x hx => by
      rcases List.mem_append.1 hx with h | h
      · exact hpre x h
      · have := List.mem_singleton.1 h; subst this; exact hy)
    have hm1 : 1 ≤ mx 1 y ∧ mx 1 y ≤ 255 := by simp only [mx_max]; omega
    have hm2 : 1 ≤ mx 1 (l[l.length - 1 - pre.length]) ∧ mx 1 (l[l.length - 1 - pre.length]) ≤ 255 := by simp only [mx_max]; omega
    have hge : hi pre ≤ hi (pre ++ [y]) := by rw [hup]; simp only [mx_max]; omega
    simp only [becketlaw16_PoisonOrder.l0, wb, e1, e2, hrd, rd_nat hi2]
    simp only [wr (x := y) (by omega), wr (x := l[l.length - 1 - pre.length]) (by omega), raise_eq]
    rw [if_pos (show 0 ≤ hi pre ∧ hi pre ≤ 255 ∧ 1 ≤ mx 1 y ∧ mx 1 y ≤ 255 by omega), if_pos (show 0 ≤ hi (l.reverse.take pre.length) ∧ hi (l.reverse.take pre.length) ≤ 255 ∧ 1 ≤ mx 1 (l[l.length - 1 - pre.length]) ∧ mx 1 (l[l.length - 1 - pre.length]) ≤ 255 by omega)]
    rw [← hup, ← hdn]
    simp only [Option.bind_some]
    rw [wr (x := (pre.length : Int) + 1) (by omega)]
    simp only [hit_eq _ b hr3 hb, Option.bind_some]
    have h := ih (pre ++ [y]) (by simp [he])
    have e3 : ((pre ++ [y]).length : Int) = (pre.length : Int) + 1 := by simp
    have e4 : (pre ++ [y]).length = pre.length + 1 := by simp
    rw [e3, e4] at h
    refine ev_if_pos (by omega) (ev_if_pos (by omega) (ev_if_pos (by omega) (ev_if_pos (by omega) (ev_if_pos (by omega) (ev_if_pos (by trivial) (ev_if_pos (by trivial) (ev_if_neg (by omega) ?_)))))))
    by_cases c : hi pre > b
    · refine ev_if_pos (by simp [c]) (ev_if_pos (by simp; omega) h)
    · exact ev_if_neg (by simp [c]) h

theorem PoisonOrder : becketlaw16_PoisonOrder.Pure := by
  intro l b hm hr hw hb
  have hb' := bounds_u8 hb
  have al : becketlaw16_alive.f 60 = some true := by decide +kernel
  have hal := Ev.of becketlaw16_alive.mono al
  refine Ev.rounds ?_
  unfold becketlaw16_PoisonOrder.f
  by_cases hlen : (l.length : Int) > 30
  · refine ev_if_pos hlen ?_
    exact ev_bind hal (Ev.now _)
  refine ev_if_neg hlen ?_
  have h := order_loop l b (by omega) hb' (fun x hx => bounds_u8 (hw x hx)) l [] rfl
  have e : decide (hi [] > b) = false := decide_eq_false (by have : hi [] = 0 := rfl
                                                             rw [this]; omega)
  rw [e] at h
  exact h

end Go.Proofs.Ytdddmgbbjifkdaa.Pure
