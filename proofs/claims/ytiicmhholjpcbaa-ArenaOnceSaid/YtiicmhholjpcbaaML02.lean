/- The laws of arena. -/
import Derived.Test.YtiicmhholjpcbaaMKit
import Derived.Test.YtiicmhholjpcbaaDL02
namespace Go.Proofs.YtiicmhholjpcbaaV
set_option linter.unusedVariables false
set_option linter.unusedSimpArgs false
open Go.RowKit
theorem alive02 : L02_alive = some true := by decide +kernel
namespace L02
abbrev Sl := Int × Bool × Int × Unit
abbrev Gv := Int × Int × Int × Unit
def sl (s : List Sl) (k : Int) : Sl := s.getD k.toNat (0, false, 0, ())
theorem sl_set {s : List Sl} {j k : Int} {v : Sl} (h0 : 0 ≤ j) (h1 : j < (s.length : Int)) (hk : 0 ≤ k) : sl (s.set j.toNat v) k = if k = j then v else sl s k := by
  unfold sl
  rw [List.getD_eq_getElem?_getD, List.getD_eq_getElem?_getD, List.getElem?_set]
  by_cases h : k = j
  · subst h
    rw [if_pos rfl, if_pos rfl, if_pos (by omega)]; rfl
  · rw [if_neg (by omega), if_neg h]
theorem within_eq (a b c : Int) : handle_within a b c = some (decide (b ≤ a ∧ a ≤ c)) := by
  unfold handle_within
  by_cases h : a ≥ b
  · rw [bif_pos h]; congr 1; rw [decide_eq_decide]; omega
  · rw [bif_neg h, decide_eq_false (by omega)]
theorem slot_eq {e k : Int} (h0 : 0 ≤ k) (h1 : k < 4096) (h2 : 1 ≤ e) (h3 : e ≤ 60000) : handle_Slot (4096 * e + k) = some k := by
  unfold handle_Slot handle_Fine
  rw [within_eq, decide_eq_true (by omega)]
  simp only [Option.bind_some, Bool.not_true, cond_false]
  rw [chk_pos (by omega), Int.tmod_eq_emod_of_nonneg (by omega)]
  congr 1; omega
theorem gen_eq {e k : Int} (h0 : 0 ≤ k) (h1 : k < 4096) (h2 : 1 ≤ e) (h3 : e ≤ 60000) : handle_Gen (4096 * e + k) = some e := by
  unfold handle_Gen handle_Fine
  rw [within_eq, decide_eq_true (by omega)]
  simp only [Option.bind_some, Bool.not_true, cond_false]
  rw [chk_pos (by omega), Int.tdiv_eq_ediv_of_nonneg (by omega), w64 (by omega) (by omega)]
  congr 1; omega
theorem make_eq {e k : Int} (h0 : 0 ≤ k) (h1 : k < 4096) (h2 : 1 ≤ e) (h3 : e ≤ 60000) : handle_Make k e = some (4096 * e + k, 0, ()) := by
  unfold handle_Make
  rw [within_eq, within_eq, decide_eq_true (by omega), decide_eq_true (by omega)]
  simp only [Option.bind_some, Bool.not_true, cond_false]
  rw [w64 (x := e * 4096) (by omega) (by omega), w64 (by omega) (by omega), letv_eq, show e * 4096 + k = 4096 * e + k by omega]
/-- What was given, by the slots. -/
structure Ok (s : List Sl) (x : Gv) (k e : Int) : Prop where
  k0 : 0 ≤ k
  k1 : k < (s.length : Int)
  e0 : 1 ≤ e
  e1 : e ≤ (sl s k).1
  h : x.2.1 = 4096 * e + k
  d : x.1 = 0 ∨ x.1 = 1
  on : x.1 = 1 ↔ ((sl s k).2.1 = true ∧ (sl s k).1 = e)
  x : x.1 = 1 → (sl s k).2.2.1 = x.2.2.1
def dsum : List Gv → Int
  | [] => 0
  | x :: l => x.1 + dsum l
theorem dsum_app : ∀ a b : List Gv, dsum (a ++ b) = dsum a + dsum b
  | [], b => by simp [dsum]
  | x :: a, b => by simp only [List.cons_append, dsum, dsum_app a b]; omega
structure Inv (last : Int) (g : List Gv) (s : List Sl) (many : Int) : Prop where
  n1 : 1 ≤ s.length
  n2 : s.length ≤ 20
  l1 : 1 ≤ last
  l2 : last ≤ 5
  gen : ∀ k, 0 ≤ k → k < (s.length : Int) → 0 ≤ (sl s k).1 ∧ (sl s k).1 ≤ last
  giv : ∀ x ∈ g, ∃ k e, Ok s x k e
  nod : (g.map (·.2.1)).Nodup
  many : many = dsum g
theorem dsum_nn {s : List Sl} : ∀ {g : List Gv}, (∀ x ∈ g, ∃ k e, Ok s x k e) → 0 ≤ dsum g ∧ dsum g ≤ g.length
  | [], _ => by simp [dsum]
  | x :: g, h => by
    have := dsum_nn (fun y hy => h y (List.mem_cons_of_mem _ hy))
    obtain ⟨k, e, o⟩ := h x List.mem_cons_self
    have := o.d
    simp only [dsum, List.length_cons]; omega
/-- Somebody comes in. -/
theorem Inv.add {last : Int} {g : List Gv} {s : List Sl} {many : Int} (h : Inv last g s many) {k : Int} (X : Int) (k0 : 0 ≤ k) (k1 : k < (s.length : Int)) (hf : (sl s k).2.1 = false) (hg : (sl s k).1 < last) :
    (∀ x ∈ g, x.2.1 ≠ 4096 * ((sl s k).1 + 1) + k) ∧ Inv last (g ++ [(1, 4096 * ((sl s k).1 + 1) + k, X, ())]) (s.set k.toNat ((sl s k).1 + 1, true, X, ())) (many + 1) := by
  have hn2 := h.n2
  have hl2 := h.l2
  have gk := h.gen k k0 k1
  have fresh : ∀ x ∈ g, x.2.1 ≠ 4096 * ((sl s k).1 + 1) + k := by
    intro x hx e
    obtain ⟨k', e', o⟩ := h.giv x hx
    have := o.h; have := o.k0; have := o.k1; have := o.e0; have := o.e1
    have gk' := h.gen k' o.k0 o.k1
    have : k' = k := by omega
    subst this
    omega
  refine ⟨fresh, by simpa using h.n1, by simpa using h.n2, h.l1, h.l2, fun j j0 j1 => ?_, fun x hx => ?_, ?_, ?_⟩
  · rw [sl_set k0 k1 j0]
    rw [List.length_set] at j1
    split
    · exact ⟨by simp only; omega, by simp only; omega⟩
    · exact h.gen j j0 j1
  · rcases List.mem_append.1 hx with hx | hx
    · obtain ⟨k', e', o⟩ := h.giv x hx
      refine ⟨k', e', o.k0, by simpa using o.k1, o.e0, ?_, o.h, o.d, ?_, ?_⟩
      · rw [sl_set k0 k1 o.k0]
        split
        · rename_i e; have := o.e1; subst e; simp only; omega
        · exact o.e1
      · rw [sl_set k0 k1 o.k0]
        split
        · rename_i e; subst e
          have h1 := o.on
          have h2 := o.e1
          constructor
          · intro h3; rw [hf] at h1; have := (h1.1 h3).1; cases this
          · rintro ⟨_, h3⟩; simp only at h3; omega
        · exact o.on
      · rw [sl_set k0 k1 o.k0]
        split
        · rename_i e; subst e
          intro h3; have := (o.on.1 h3).1; rw [hf] at this; cases this
        · exact o.x
    · rw [List.mem_singleton.1 hx]
      refine ⟨k, (sl s k).1 + 1, k0, by simpa using k1, by omega, ?_, rfl, .inr rfl, ?_, ?_⟩
      all_goals rw [sl_set k0 k1 k0, if_pos rfl]
      · exact Int.le_refl _
      · exact ⟨fun _ => ⟨rfl, rfl⟩, fun _ => rfl⟩
      · exact fun _ => rfl
  · rw [List.map_append, List.nodup_append]
    refine ⟨h.nod, by simp, fun a ha b hb => ?_⟩
    obtain ⟨x, hx, rfl⟩ := List.mem_map.1 ha
    simp only [List.map_cons, List.map_nil, List.mem_singleton] at hb
    rw [hb]; exact fresh x hx
  · rw [dsum_app, h.many]; simp [dsum]
/-- Somebody who was given is taken out, or was. -/
theorem Inv.off {last : Int} {a b : List Gv} {x : Gv} {s : List Sl} {many : Int} (h : Inv last (a ++ x :: b) s many) {k e : Int} (o : Ok s x k e) :
    Inv last (a ++ (0, x.2.1, x.2.2.1, ()) :: b) (if x.1 = 1 then s.set k.toNat ((sl s k).1, false, 0, ()) else s) (many - x.1) := by
  have hs : ∀ j, 0 ≤ j → sl (if x.1 = 1 then s.set k.toNat ((sl s k).1, false, 0, ()) else s) j = if x.1 = 1 ∧ j = k then ((sl s k).1, false, 0, ()) else sl s j := by
    intro j j0
    by_cases h1 : x.1 = 1
    · rw [if_pos h1, sl_set o.k0 o.k1 j0]
      by_cases h2 : j = k
      · rw [if_pos h2, if_pos ⟨h1, h2⟩]
      · rw [if_neg h2, if_neg (fun h => h2 h.2)]
    · rw [if_neg h1, if_neg (fun h => h1 h.1)]
  have hlen : (if x.1 = 1 then s.set k.toNat ((sl s k).1, false, 0, ()) else s).length = s.length := by split <;> simp
  generalize (if x.1 = 1 then s.set k.toNat ((sl s k).1, false, 0, ()) else s) = s2 at hs hlen
  have hnd := h.nod
  rw [List.map_append, List.map_cons, List.nodup_append, List.nodup_cons] at hnd
  obtain ⟨n1, ⟨n2, n3⟩, n4⟩ := hnd
  have hgen : ∀ j, 0 ≤ j → (sl s2 j).1 = (sl s j).1 := by
    intro j j0
    rw [hs j j0]
    split
    · rename_i h; rw [h.2]
    · rfl
  have key : ∀ y : Gv, y.2.1 ≠ x.2.1 → ∀ k' e', Ok s y k' e' → Ok s2 y k' e' := by
    intro y hy k' e' o'
    refine ⟨o'.k0, by rw [hlen]; exact o'.k1, o'.e0, by rw [hgen _ o'.k0]; exact o'.e1, o'.h, o'.d, ?_, ?_⟩
    · rw [hs k' o'.k0]
      split
      · rename_i h2
        obtain ⟨h2, h3⟩ := h2
        subst h3
        have h4 := (o.on.1 h2)
        have h5 := o.h; have h6 := o'.h
        constructor
        · intro h7
          have := (o'.on.1 h7).2
          exact absurd (by omega) hy
        · rintro ⟨h7, _⟩; cases h7
      · exact o'.on
    · rw [hs k' o'.k0]
      split
      · rename_i h2
        obtain ⟨h2, h3⟩ := h2
        subst h3
        have h4 := (o.on.1 h2)
        have h5 := o.h; have h6 := o'.h
        intro h7
        have := (o'.on.1 h7).2
        exact absurd (by omega) hy
      · exact o'.x
  refine ⟨by rw [hlen]; exact h.n1, by rw [hlen]; exact h.n2, h.l1, h.l2, fun j j0 j1 => ?_, fun y hy => ?_, ?_, ?_⟩
  · rw [hgen j j0]; exact h.gen j j0 (by omega)
  · rcases List.mem_append.1 hy with hy | hy
    · obtain ⟨k', e', o'⟩ := h.giv y (List.mem_append_left _ hy)
      exact ⟨k', e', key y (fun e => n4 _ (List.mem_map.2 ⟨y, hy, rfl⟩) _ (List.mem_cons_self) e) k' e' o'⟩
    · rcases List.mem_cons.1 hy with rfl | hy
      · refine ⟨k, e, o.k0, by rw [hlen]; exact o.k1, o.e0, by rw [hgen _ o.k0]; exact o.e1, o.h, .inl rfl, ?_, fun h => absurd h (by simp)⟩
        rw [hs k o.k0]
        constructor
        · intro h; simp at h
        · by_cases h1 : x.1 = 1
          · rw [if_pos ⟨h1, rfl⟩]; rintro ⟨h2, _⟩; cases h2
          · rw [if_neg (fun h => h1 h.1)]; intro h2; exact absurd (o.on.2 h2) h1
      · obtain ⟨k', e', o'⟩ := h.giv y (List.mem_append_right _ (List.mem_cons_of_mem _ hy))
        exact ⟨k', e', key y (fun e => n2 (List.mem_map.2 ⟨y, hy, e⟩)) k' e' o'⟩
  · rw [List.map_append, List.map_cons, List.nodup_append, List.nodup_cons]
    exact ⟨n1, ⟨n2, n3⟩, n4⟩
  · rw [h.many, dsum_app, dsum_app]; simp only [dsum]; omega

theorem add1 (l : List Gv) (len i d H X : Int) (g : List Gv) (s : List Sl) (last many : Int) (h1 : 1 ≤ s.length) (h2 : s.length ≤ 20) (hl : last ≤ 5) (hg : ∀ k, 0 ≤ k → k < (s.length : Int) → 0 ≤ (sl s k).1) (k8 : (Int × Int × (List (Int × Int × Int × Unit)) × Int × Int × Int × Int × Int × (List (Int × Int × Int × Unit)) × (List (Int × Bool × Int × Unit)) × Int × Int) → Option Bool)
    (hfail : k8 (0, 10, l, len, i, d, H, X, g, s, last, many) = some true)
    (hok : ∀ k, 0 ≤ k → k < (s.length : Int) → (sl s k).2.1 = false → (sl s k).1 < last → k8 (4096 * ((sl s k).1 + 1) + k, 0, l, len, i, d, H, X, g, s.set k.toNat ((sl s k).1 + 1, true, X, ()), last, IntKind.i64.wrap (many + 1)) = some true) :
    loop (L02_ArenaOnce_L2 (s.length : Int) (l, len, i, g, s, last, many) X k8 d H) 0 = some true := by
  refine loop_up (fun x => x) s.length (fun x => 0 ≤ x) (fun _ => some true) (by omega) (by omega) ?_
  intro k j j0 hk
  unfold L02_ArenaOnce_L2
  simp only
  by_cases hj : j < (s.length : Int)
  · have hk := hk hj (j + 1) (by omega) rfl
    have gj := hg j j0 hj
    have hok := hok j j0 hj
    rw [bif_pos hj, chk_at j0 hj, chk_at j0 hj, chk_at j0 hj, letv_eq, show s.getD j.toNat (0, false, 0, ()) = sl s j from rfl]
    rw [w64 (x := j + 1) (by omega) (by omega), hk]
    generalize hv : sl s j = v at *
    obtain ⟨ge, li, th, u⟩ := v
    simp only at gj hok ⊢
    cases li with
    | true => rfl
    | false =>
      simp only [Bool.not_false, cond_true]
      by_cases hlt : ge < last
      · rw [bif_pos hlt, w64 (x := ge + 1) (by omega) (by omega)]
        simp only [letv_eq]
        have e1 : ∀ w : Sl, (s.set j.toNat w).getD j.toNat (0, false, 0, ()) = w := by
          intro w
          have := sl_set (v := w) j0 hj j0
          rw [if_pos rfl] at this
          exact this
        simp only [e1, List.set_set]
        rw [make_eq j0 (by omega) (by omega) (by omega)]
        simp only [Option.bind_some]
        exact hok rfl hlt
      · rw [bif_neg hlt]
  · rw [bif_neg hj]
    unfold L02_ArenaOnce_J3
    exact hfail
theorem put1 (h err : Int) (l : List Gv) (len i d H X : Int) (g : List Gv) (s : List Sl) (last many : Int) (hl : g.length ≤ 1000) (hf : ∀ x ∈ g, x.2.1 ≠ h) (k6 : ((List (Int × Int × Int × Unit)) × Int × Int × (List (Int × Int × Int × Unit)) × (List (Int × Bool × Int × Unit)) × Int × Int) → Option Bool) :
    L02_ArenaOnce_R5 k6 (h, 0, l, len, i, d, H, X, g, s, last, many) = k6 (l, len, i, g ++ [(1, h, X, ())], s, last, many) := by
  unfold L02_ArenaOnce_R5
  simp only [decide_true, Bool.not_true, cond_false]
  refine loop_up (fun x => x) g.length (fun x => 0 ≤ x) (fun _ => k6 (l, len, i, g ++ [(1, h, X, ())], s, last, many)) (by omega) (by omega) ?_
  intro k j j0 hk
  unfold L02_ArenaOnce_L3
  simp only
  by_cases hj : j < (g.length : Int)
  · have hk := hk hj (j + 1) (by omega) rfl
    rw [bif_pos hj, chk_at j0 hj, bif_neg (hf _ (getD_mem j0 hj)), w64 (by omega) (by omega), hk]
  · rw [bif_neg hj]
    unfold L02_ArenaOnce_J4
    simp only
    rw [chk_pos (by simp; omega), letv_eq]

theorem add2 (l : List Gv) (len i d H X : Int) (g : List Gv) (s : List Sl) (last many : Int) (h1 : 1 ≤ s.length) (h2 : s.length ≤ 20) (hl : last ≤ 5) (hg : ∀ k, 0 ≤ k → k < (s.length : Int) → 0 ≤ (sl s k).1) (k8 : (Int × Int × (List (Int × Int × Int × Unit)) × Int × Int × Int × Int × Int × (List (Int × Int × Int × Unit)) × (List (Int × Bool × Int × Unit)) × Int × Int) → Option Bool)
    (hfail : k8 (0, 10, l, len, i, d, H, X, g, s, last, many) = some true)
    (hok : ∀ k, 0 ≤ k → k < (s.length : Int) → (sl s k).2.1 = false → (sl s k).1 < last → k8 (4096 * ((sl s k).1 + 1) + k, 0, l, len, i, d, H, X, g, s.set k.toNat ((sl s k).1 + 1, true, X, ()), last, IntKind.i64.wrap (many + 1)) = some true) :
    loop (L02_ArenaOnce_L4 (s.length : Int) (l, len, i, g, s, last, many) X k8 d H) 0 = some true := by
  refine loop_up (fun x => x) s.length (fun x => 0 ≤ x) (fun _ => some true) (by omega) (by omega) ?_
  intro k j j0 hk
  unfold L02_ArenaOnce_L4
  simp only
  by_cases hj : j < (s.length : Int)
  · have hk := hk hj (j + 1) (by omega) rfl
    have gj := hg j j0 hj
    have hok := hok j j0 hj
    rw [bif_pos hj, chk_at j0 hj, chk_at j0 hj, chk_at j0 hj, letv_eq, show s.getD j.toNat (0, false, 0, ()) = sl s j from rfl]
    rw [w64 (x := j + 1) (by omega) (by omega), hk]
    generalize hv : sl s j = v at *
    obtain ⟨ge, li, th, u⟩ := v
    simp only at gj hok ⊢
    cases li with
    | true => rfl
    | false =>
      simp only [Bool.not_false, cond_true]
      by_cases hlt : ge < last
      · rw [bif_pos hlt, w64 (x := ge + 1) (by omega) (by omega)]
        simp only [letv_eq]
        have e1 : ∀ w : Sl, (s.set j.toNat w).getD j.toNat (0, false, 0, ()) = w := by
          intro w
          have := sl_set (v := w) j0 hj j0
          rw [if_pos rfl] at this
          exact this
        simp only [e1, List.set_set]
        rw [make_eq j0 (by omega) (by omega) (by omega)]
        simp only [Option.bind_some]
        exact hok rfl hlt
      · rw [bif_neg hlt]
  · rw [bif_neg hj]
    unfold L02_ArenaOnce_J5
    exact hfail
theorem put2 (h err : Int) (l : List Gv) (len i d H X : Int) (g : List Gv) (s : List Sl) (last many : Int) (hl : g.length ≤ 1000) (hf : ∀ x ∈ g, x.2.1 ≠ h) (k6 : ((List (Int × Int × Int × Unit)) × Int × Int × (List (Int × Int × Int × Unit)) × (List (Int × Bool × Int × Unit)) × Int × Int) → Option Bool) :
    L02_ArenaOnce_R6 k6 (h, 0, l, len, i, d, H, X, g, s, last, many) = k6 (l, len, i, g ++ [(1, h, X, ())], s, last, many) := by
  unfold L02_ArenaOnce_R6
  simp only [decide_true, Bool.not_true, cond_false]
  refine loop_up (fun x => x) g.length (fun x => 0 ≤ x) (fun _ => k6 (l, len, i, g ++ [(1, h, X, ())], s, last, many)) (by omega) (by omega) ?_
  intro k j j0 hk
  unfold L02_ArenaOnce_L5
  simp only
  by_cases hj : j < (g.length : Int)
  · have hk := hk hj (j + 1) (by omega) rfl
    rw [bif_pos hj, chk_at j0 hj, bif_neg (hf _ (getD_mem j0 hj)), w64 (by omega) (by omega), hk]
  · rw [bif_neg hj]
    unfold L02_ArenaOnce_J6
    simp only
    rw [chk_pos (by simp; omega), letv_eq]
theorem final (g : List Gv) (s : List Sl) (last many : Int) (h : Inv last g s many) (hl : g.length ≤ 100) : L02_ArenaOnce_J2 g s last many = some true := by
  have n1 := h.n1; have n2 := h.n2; have l1 := h.l1; have l2 := h.l2
  unfold L02_ArenaOnce_J2
  refine loop_up (fun x : Int × Int × Int × List Gv × List Sl × Int × Int => x.2.2.1) g.length (fun x => x.2.1 = g.length ∧ x.2.2.2.1 = g ∧ x.2.2.2.2.1 = s ∧ x.2.2.2.2.2.1 = last ∧ x.2.2.2.2.2.2 = many ∧ 0 ≤ x.2.2.1 ∧ x.2.2.1 ≤ g.length ∧ 0 ≤ x.1 ∧ x.1 ≤ x.2.2.1 ∧ x.1 + dsum (g.drop x.2.2.1.toNat) = dsum g) (fun _ => some true) ⟨rfl, rfl, rfl, rfl, rfl, by simp, by simp, by simp, by simp, by simp⟩ (by simp; omega) ?_
  rintro k2 ⟨acc, n', i, g', s', last', many'⟩ ⟨e1, e2, e3, e4, e5, i0, i1, a0, a1, as⟩ hk
  simp only at e1 e2 e3 e4 e5 i0 i1 a0 a1 as
  subst e1 e2 e3 e4 e5
  unfold L02_ArenaOnce_L1
  simp only
  by_cases hi : i < (g'.length : Int)
  · have hk : ∀ v, 0 ≤ v → v ≤ i + 1 → v + dsum (g'.drop (i + 1).toNat) = dsum g' → k2 (v, (g'.length : Int), IntKind.i64.wrap (i + 1), g', s', last', many') = some true := by
      intro v v0 v1 v2
      rw [w64 (by omega) (by omega)]
      exact hk hi _ ⟨rfl, rfl, rfl, rfl, rfl, by simp only; omega, by simp only; omega, v0, v1, v2⟩ rfl
    rw [drop_at (d := (0, 0, 0, ())) i0 hi, dsum] at as
    obtain ⟨k, e, o⟩ := h.giv _ (getD_mem (d := (0, 0, 0, ())) i0 hi)
    rw [bif_pos hi, cutv_eq]
    unfold L02_ArenaOnce_C3 L02_ArenaOnce_R3
    simp only
    rw [chk_at i0 hi, cutv_eq]
    unfold L02_ArenaOnce_C2 L02_ArenaOnce_R2
    simp only
    generalize g'.getD i.toNat (0, 0, 0, ()) = x at o as
    obtain ⟨d, H, X, u⟩ := x
    have gk := h.gen k o.k0 o.k1
    have k0 := o.k0; have k1 := o.k1; have e0 := o.e0; have e1' := o.e1
    have hH : H = 4096 * e + k := o.h
    have hd : d = 0 ∨ d = 1 := o.d
    have hon : d = 1 ↔ ((sl s' k).2.1 = true ∧ (sl s' k).1 = e) := o.on
    have hx : d = 1 → (sl s' k).2.2.1 = X := o.x
    simp only at as ⊢
    have hk0 : d = 0 → k2 (IntKind.i64.wrap (acc + IntKind.i64.wrap d), (g'.length : Int), IntKind.i64.wrap (i + 1), g', s', last', many') = some true := by
      intro hd0
      rw [hd0, w64 (x := 0) (by omega) (by omega), w64 (x := acc + 0) (by omega) (by omega)]
      exact hk _ (by omega) (by omega) (by rw [hd0] at as; omega)
    have hk1 : d = 1 → k2 (IntKind.i64.wrap (acc + IntKind.i64.wrap d), (g'.length : Int), IntKind.i64.wrap (i + 1), g', s', last', many') = some true := by
      intro hd0
      rw [hd0, w64 (x := 1) (by omega) (by omega), w64 (x := acc + 1) (by omega) (by omega)]
      exact hk _ (by omega) (by omega) (by rw [hd0] at as; omega)
    rw [bnot_pos (show (s'.length : Int) > 0 by omega)]
    have hslot := slot_eq (e := e) k0 (by omega) e0 (by omega)
    have hgen := gen_eq (e := e) k0 (by omega) e0 (by omega)
    rw [← hH] at hslot hgen
    rw [hslot, hgen]
    simp only [Option.bind_some, letv_eq]
    rw [bif_neg (show ¬ k < 0 by omega), bif_neg (show ¬ k ≥ (s'.length : Int) by omega), chk_pos ⟨k0, k1⟩, show s'.getD k.toNat (0, false, 0, ()) = sl s' k from rfl]
    cases hlive : (sl s' k).2.1 with
    | false =>
      have hd0 : d = 0 := by
        rcases hd with hd | hd
        · exact hd
        · have := (hon.1 hd).1; rw [hlive] at this; cases this
      simp only [Bool.not_false, cond_true]
      rw [bif_neg (show ¬ d = 1 by omega), bif_pos hd0, bnot_pos trivial]
      exact hk0 hd0
    | true =>
      simp only [Bool.not_true, cond_false]
      by_cases hge : (sl s' k).1 = e
      · have hd1 : d = 1 := hon.2 ⟨hlive, hge⟩
        rw [bnot_pos hge, bif_pos hd1, bnot_pos trivial, bnot_pos (hx hd1), bif_neg (show ¬ d = 0 by omega)]
        exact hk1 hd1
      · have hd0 : d = 0 := by
          rcases hd with hd | hd
          · exact hd
          · exact absurd (hon.1 hd).2 hge
        rw [bnot_neg hge, bif_neg (show ¬ d = 1 by omega), bif_pos hd0, bnot_pos trivial]
        exact hk0 hd0
  · have : dsum (g'.drop i.toNat) = 0 := by rw [drop_end hi]; rfl
    rw [bif_neg hi]
    unfold L02_ArenaOnce_J1
    rw [cutv_eq]
    unfold L02_ArenaOnce_C1 L02_ArenaOnce_R1
    rw [bnot_pos (show (s'.length : Int) > 0 by omega), bif_pos (show many' = acc by rw [h.many]; omega), alive02]
    rfl
theorem u64_range (x : Int) : 0 ≤ IntKind.u64.wrap x ∧ IntKind.u64.wrap x ≤ 18446744073709551615 := by
  have h := IntKind.wrap_u64 x
  omega
theorem set_split {α : Type} : ∀ {g : List α} {i : Nat} {d : α}, i < g.length → ∃ a b, g = a ++ g.getD i d :: b ∧ ∀ y, g.set i y = a ++ y :: b
  | x :: g, 0, d, _ => ⟨[], g, rfl, fun y => rfl⟩
  | x :: g, i + 1, d, h => by
    obtain ⟨a, b, h1, h2⟩ := set_split (g := g) (i := i) (d := d) (by simpa using h)
    refine ⟨x :: a, b, ?_, fun y => ?_⟩
    · rw [List.cons_append]; congr 1
    · rw [List.set_cons_succ, h2]; rfl
abbrev St5 := List Gv × Int × Int × List Gv × List Sl × Int × Int
theorem r4_eq (v err : Int) (l : List Gv) (len i : Int) (g : List Gv) (s : List Sl) (last many : Int) (v0 : 0 ≤ v) (v1 : v < (g.length : Int)) (k6 : St5 → Option Bool) (d H X : Int) (u : Unit) (hx : g.getD v.toNat (0, 0, 0, ()) = (d, H, X, u)) (hc : (decide (err = 0) == decide (d = 1)) = true) :
    L02_ArenaOnce_R4 k6 (v, err, l, len, i, g, s, last, many) = k6 (l, len, i, g.set v.toNat (0, H, X, ()), s, last, many) := by
  show chk (0 ≤ v ∧ v < (g.length : Int)) (bif !((decide (err = 0)) == (decide ((g.getD v.toNat (0, 0, 0, ())).1 = 1))) then some false else chk (0 ≤ v ∧ v < (g.length : Int)) (letv (g.set v.toNat (0, (g.getD v.toNat (0, 0, 0, ())).2.1, (g.getD v.toNat (0, 0, 0, ())).2.2.1, ())) fun l4 => k6 (l, len, i, l4, s, last, many))) = _
  rw [chk_pos ⟨v0, v1⟩, hx]
  simp only
  rw [hc, chk_pos ⟨v0, v1⟩, letv_eq]
  rfl
theorem drop_ok (l : List Gv) (len i : Int) (g : List Gv) (s : List Sl) (last many v : Int) (h : Inv last g s many) (hl : g.length ≤ 100) (v0 : 0 ≤ v) (v1 : v < (g.length : Int)) (k6 : St5 → Option Bool)
    (hk : ∀ g2 s2 many2, g2.length = g.length → Inv last g2 s2 many2 → k6 (l, len, i, g2, s2, last, many2) = some true) :
    L02_ArenaOnce_C4 v (l, len, i, g, s, last, many) (L02_ArenaOnce_R4 k6) = some true := by
  have n1 := h.n1; have n2 := h.n2; have l1 := h.l1; have l2 := h.l2
  have hdn := dsum_nn h.giv
  have hmany := h.many
  unfold L02_ArenaOnce_C4
  simp only
  rw [chk_at v0 v1, bnot_pos (show (s.length : Int) > 0 by omega)]
  obtain ⟨k, e, o⟩ := h.giv _ (getD_mem (d := (0, 0, 0, ())) v0 v1)
  obtain ⟨a, b, hs1, hs2⟩ := set_split (g := g) (i := v.toNat) (d := (0, 0, 0, ())) (by omega)
  generalize hgx : g.getD v.toNat (0, 0, 0, ()) = x at o hs1 ⊢
  obtain ⟨d, H, X, u⟩ := x
  have gk := h.gen k o.k0 o.k1
  have k0 := o.k0; have k1 := o.k1; have e0 := o.e0; have e1' := o.e1
  have hH : H = 4096 * e + k := o.h
  have hd : d = 0 ∨ d = 1 := o.d
  have hon : d = 1 ↔ ((sl s k).2.1 = true ∧ (sl s k).1 = e) := o.on
  have hoff : Inv last (a ++ (0, H, X, ()) :: b) (if d = 1 then s.set k.toNat ((sl s k).1, false, 0, ()) else s) (many - d) := Inv.off (x := (d, H, X, u)) (by rw [← hs1]; exact h) o
  rw [← hs2 (0, H, X, ())] at hoff
  have hslot := slot_eq (e := e) k0 (by omega) e0 (by omega)
  have hgen := gen_eq (e := e) k0 (by omega) e0 (by omega)
  rw [← hH] at hslot hgen
  simp only
  rw [hslot, hgen]
  simp only [Option.bind_some, letv_eq]
  rw [bif_neg (show ¬ k < 0 by omega), bif_neg (show ¬ k ≥ (s.length : Int) by omega), chk_pos ⟨k0, k1⟩, show s.getD k.toNat (0, false, 0, ()) = sl s k from rfl]
  have hset : (g.set v.toNat (0, H, X, ())).length = g.length := by simp
  cases hlive : (sl s k).2.1 with
  | false =>
    have hd0 : d = 0 := by
      rcases hd with hd | hd
      · exact hd
      · have := (hon.1 hd).1; rw [hlive] at this; cases this
    subst hd0
    simp only [Bool.not_false, cond_true]
    rw [r4_eq v 9 l len i g s last many v0 v1 k6 0 H X u hgx (by decide)]
    have := hk _ _ _ hset hoff
    rw [if_neg (by omega), show many - 0 = many by omega] at this
    exact this
  | true =>
    simp only [Bool.not_true, cond_false]
    by_cases hge : (sl s k).1 = e
    · have hd1 : d = 1 := hon.2 ⟨hlive, hge⟩
      subst hd1
      rw [bnot_pos hge]
      have e1 : ∀ w : Sl, (s.set k.toNat w).getD k.toNat (0, false, 0, ()) = w := by
        intro w
        have := sl_set (v := w) k0 k1 k0
        rw [if_pos rfl] at this
        exact this
      simp only [e1, List.set_set]
      have := hk _ _ _ hset hoff
      rw [if_pos rfl] at this
      rw [w64 (x := many - 1) (by omega) (by omega), r4_eq v 0 l len i g _ last _ v0 v1 k6 1 H X u hgx (by decide)]
      exact this
    · have hd0 : d = 0 := by
        rcases hd with hd | hd
        · exact hd
        · exact absurd (hon.1 hd).2 hge
      subst hd0
      rw [bnot_neg hge, r4_eq v 9 l len i g s last many v0 v1 k6 0 H X u hgx (by decide)]
      have := hk _ _ _ hset hoff
      rw [if_neg (by omega), show many - 0 = many by omega] at this
      exact this
theorem come1 (l : List Gv) (len i : Int) (g : List Gv) (s : List Sl) (last many : Int) (h : Inv last g s many) (hl : g.length ≤ 100) (k6 : St5 → Option Bool)
    (h0 : k6 (l, len, i, g, s, last, many) = some true)
    (hk : ∀ g2 s2 many2, g2.length = g.length + 1 → Inv last g2 s2 many2 → k6 (l, len, i, g2, s2, last, many2) = some true) :
    L02_ArenaOnce_C5 (l, len, i, g, s, last, many) (L02_ArenaOnce_R5 k6) = some true := by
  have n1 := h.n1; have n2 := h.n2; have l1 := h.l1; have l2 := h.l2
  have hdn := dsum_nn h.giv
  have hmany := h.many
  unfold L02_ArenaOnce_C5
  simp only
  rw [bnot_pos (show (s.length : Int) > 0 by omega)]
  refine add1 l len i _ _ _ g s last many n1 n2 l2 (fun k k0 k1 => (h.gen k k0 k1).1) _ ?_ ?_
  · unfold L02_ArenaOnce_R5
    simpa using h0
  · intro k k0 k1 hf hg
    obtain ⟨q1, q2⟩ := h.add (l.getD i.toNat (0, 0, 0, ())).2.2.1 k0 k1 hf hg
    rw [put1 _ 0 _ _ _ _ _ _ _ _ _ _ (by omega) q1, w64 (x := many + 1) (by omega) (by omega)]
    exact hk _ _ _ (by simp) q2
theorem come2 (l : List Gv) (len i : Int) (g : List Gv) (s : List Sl) (last many : Int) (h : Inv last g s many) (hl : g.length ≤ 100) (k6 : St5 → Option Bool)
    (h0 : k6 (l, len, i, g, s, last, many) = some true)
    (hk : ∀ g2 s2 many2, g2.length = g.length + 1 → Inv last g2 s2 many2 → k6 (l, len, i, g2, s2, last, many2) = some true) :
    L02_ArenaOnce_C6 (l, len, i, g, s, last, many) (L02_ArenaOnce_R6 k6) = some true := by
  have n1 := h.n1; have n2 := h.n2; have l1 := h.l1; have l2 := h.l2
  have hdn := dsum_nn h.giv
  have hmany := h.many
  unfold L02_ArenaOnce_C6
  simp only
  rw [bnot_pos (show (s.length : Int) > 0 by omega)]
  refine add2 l len i _ _ _ g s last many n1 n2 l2 (fun k k0 k1 => (h.gen k k0 k1).1) _ ?_ ?_
  · unfold L02_ArenaOnce_R6
    simpa using h0
  · intro k k0 k1 hf hg
    obtain ⟨q1, q2⟩ := h.add (l.getD i.toNat (0, 0, 0, ())).2.2.1 k0 k1 hf hg
    rw [put2 _ 0 _ _ _ _ _ _ _ _ _ _ (by omega) q1, w64 (x := many + 1) (by omega) (by omega)]
    exact hk _ _ _ (by simp) q2
theorem once (a b : Int) (l : List Gv) (ha : 0 ≤ a ∧ a ≤ 255) (hb : 0 ≤ b ∧ b ≤ 255) : L02_ArenaOnce a b l = some true := by
  unfold L02_ArenaOnce
  rw [chk_pos (by omega), chk_pos (by omega), Int.tmod_eq_emod_of_nonneg ha.1, Int.tmod_eq_emod_of_nonneg hb.1, w64 (x := a % 20) (by omega) (by omega), w64 (x := b % 5) (by omega) (by omega), w64 (x := 1 + a % 20) (by omega) (by omega), w64 (x := 1 + b % 5) (by omega) (by omega), bif_neg (by omega), bif_neg (by omega), bif_neg (by omega), bif_neg (by omega), chk_pos ⟨rfl, by omega, by omega⟩, letv_eq, alive02]
  by_cases h1 : (l.length : Int) > 80
  · rw [bif_pos h1]; rfl
  rw [bif_neg h1]
  have hrep : ∀ k : Int, 0 ≤ k → (sl (List.replicate (1 + a % 20).toNat (0, false, 0, ())) k).1 = 0 := by
    intro k _
    unfold sl
    rw [List.getD_eq_getElem?_getD, List.getElem?_replicate]
    split <;> rfl
  have hi0 : Inv (1 + b % 5) [] (List.replicate (1 + a % 20).toNat (0, false, 0, ())) 0 := ⟨by simp; omega, by simp; omega, by omega, by omega, fun k k0 k1 => by rw [hrep k k0]; omega, by simp, by simp, rfl⟩
  generalize List.replicate (1 + a % 20).toNat ((0, false, 0, ()) : Sl) = s0 at hi0
  refine loop_up (fun x : St5 => x.2.2.1) l.length (fun x => x.1 = l ∧ x.2.1 = l.length ∧ 0 ≤ x.2.2.1 ∧ x.2.2.1 ≤ l.length ∧ (x.2.2.2.1.length : Int) ≤ x.2.2.1 ∧ Inv x.2.2.2.2.2.1 x.2.2.2.1 x.2.2.2.2.1 x.2.2.2.2.2.2) (fun _ => some true) ⟨rfl, rfl, by simp, by simp, by simp, hi0⟩ (by simp; omega) ?_
  rintro k5 ⟨l', n', i, g, s, last, many⟩ ⟨e1, e2, i0, i1, gl, h⟩ hk
  simp only at e1 e2 i0 i1 gl h
  subst e1 e2
  unfold L02_ArenaOnce_L6
  simp only
  by_cases hi : i < (l'.length : Int)
  · have hk : ∀ g2 s2 last2 many2, (g2.length : Int) ≤ i + 1 → Inv last2 g2 s2 many2 → L02_ArenaOnce_R7 k5 (l', (l'.length : Int), i, g2, s2, last2, many2) = some true := by
      intro g2 s2 last2 many2 q1 q2
      unfold L02_ArenaOnce_R7
      simp only
      rw [w64 (by omega) (by omega)]
      exact hk hi _ ⟨rfl, rfl, by simp only; omega, by simp only; omega, q1, q2⟩ rfl
    rw [bif_pos hi, cutv_eq]
    unfold L02_ArenaOnce_C7
    simp only
    rw [chk_at i0 hi, chk_pos (by omega)]
    have c5 := come1 l' l'.length i g s last many h (by omega) (L02_ArenaOnce_R7 k5) (hk _ _ _ _ (by omega) h) (fun g2 s2 m2 q1 q2 => hk g2 s2 last m2 (by omega) q2)
    have c6 := come2 l' l'.length i g s last many h (by omega) (L02_ArenaOnce_R7 k5) (hk _ _ _ _ (by omega) h) (fun g2 s2 m2 q1 q2 => hk g2 s2 last m2 (by omega) q2)
    by_cases hd : Int.tmod (l'.getD i.toNat (0, 0, 0, ())).1 2 = 0
    · rw [bif_pos hd]
      by_cases hg : (g.length : Int) > 0
      · rw [bif_pos hg]
        have hgl : IntKind.u64.wrap (g.length : Int) = g.length := by rw [IntKind.wrap_u64]; omega
        have hu := u64_range (l'.getD i.toNat (0, 0, 0, ())).2.1
        generalize IntKind.u64.wrap (l'.getD i.toNat (0, 0, 0, ())).2.1 = y at hu
        rw [hgl, chk_pos (by omega), Int.tmod_eq_emod_of_nonneg hu.1]
        have m1 := Int.emod_nonneg y (b := (g.length : Int)) (by omega)
        have m2 := Int.emod_lt_of_pos y (b := (g.length : Int)) (by omega)
        rw [letv_eq, cutv_eq, w64 (by omega) (by omega)]
        exact drop_ok l' l'.length i g s last many _ h (by omega) m1 m2 _ (fun g2 s2 m2 q1 q2 => hk g2 s2 last m2 (by omega) q2)
      · rw [bif_neg hg, cutv_eq]; exact c5
    · rw [bif_neg hd, cutv_eq]; exact c6
  · rw [bif_neg hi]
    exact final g s last many h (by omega)
end L02
theorem law_L02_ArenaOnce : ∀ x : ((.pair (.int .u8) (.pair (.int .u8) (.pair (.sl (.pair (.int .u8) (.pair (.int .i64) (.pair (.int .i64) .unit)))) .unit))) : Ty).den, wfD (.pair (.int .u8) (.pair (.int .u8) (.pair (.sl (.pair (.int .u8) (.pair (.int .i64) (.pair (.int .i64) .unit)))) .unit))) x → L02_ArenaOnce x.1 x.2.1 x.2.2.1 = some true :=
  fun x hx => L02.once x.1 x.2.1 x.2.2.1 (wfu8 hx.1) (wfu8 hx.2.1)
end Go.Proofs.YtiicmhholjpcbaaV
