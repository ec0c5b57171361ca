/- QueueOrder: what was pushed comes out in that order. -/
import Derived.Test.YtiicmhholjpcbaaMqueues4
import Derived.Test.YtiicmhholjpcbaaDQueueOrder
namespace Go.Proofs.YtiicmhholjpcbaaV
set_option linter.unusedVariables false
set_option linter.unusedSimpArgs false
open Go.RowKit
namespace Qu
open QT
def kq (y : List Int) : Int := Int.tmod (y.getD 0 0) 4
def sel (k : Int) (l : List (List Int)) : List Int := (l.filter (fun y => decide (kq y = k))).map (fun y => y.getD 1 0)
def Vp (l : List (List Int)) : List (List Int) := [sel 0 l, sel 1 l, sel 2 l, sel 3 l]
theorem Vp_snoc (l : List (List Int)) (y : List Int) (h : 0 ≤ kq y ∧ kq y < 4) : (Vp l).set (kq y).toNat ((Vp l).getD (kq y).toNat [] ++ [y.getD 1 0]) = Vp (l ++ [y]) := by
  have hk : kq y = 0 ∨ kq y = 1 ∨ kq y = 2 ∨ kq y = 3 := by omega
  unfold Vp sel
  rcases hk with e | e | e | e <;> rw [e] <;> simp [List.filter_append, e]
def gv (q : Int) (r l : List (List Int)) (k : Int) : List Int := if k < q then [] else if k = q then sel k r else sel k l
def Wv (q : Int) (r l : List (List Int)) : List (List Int) := [gv q r l 0, gv q r l 1, gv q r l 2, gv q r l 3]
theorem Wv_get {q : Int} (h : 0 ≤ q ∧ q < 4) (r l : List (List Int)) : (Wv q r l).getD q.toNat [] = sel q r := by
  have hk : q = 0 ∨ q = 1 ∨ q = 2 ∨ q = 3 := by omega
  unfold Wv gv
  rcases hk with e | e | e | e <;> subst e <;> simp
theorem Wv_set {q : Int} (h : 0 ≤ q ∧ q < 4) (r r' l : List (List Int)) : (Wv q r l).set q.toNat (sel q r') = Wv q r' l := by
  have hk : q = 0 ∨ q = 1 ∨ q = 2 ∨ q = 3 := by omega
  unfold Wv gv
  rcases hk with e | e | e | e <;> subst e <;> simp
theorem Wv_next {q : Int} (h : 0 ≤ q ∧ q < 4) (l : List (List Int)) : Wv q [] l = Wv (q + 1) l l := by
  have hk : q = 0 ∨ q = 1 ∨ q = 2 ∨ q = 3 := by omega
  unfold Wv gv
  rcases hk with e | e | e | e <;> subst e <;> simp [sel]
theorem Wv_zero (l : List (List Int)) : Wv 0 l l = Vp l := by unfold Wv Vp gv; simp
theorem Wv_end (l : List (List Int)) : Wv 4 l l = [[], [], [], []] := by unfold Wv gv; simp
theorem sel_cons (q : Int) (y : List Int) (r : List (List Int)) : sel q (y :: r) = if kq y = q then y.getD 1 0 :: sel q r else sel q r := by
  unfold sel
  by_cases h : kq y = q
  · rw [if_pos h, List.filter_cons_of_pos (by simpa using h)]; rfl
  · rw [if_neg h, List.filter_cons_of_neg (by simpa using h)]
/-- What the numbers are. -/
def Num (y : List Int) : Prop := 0 ≤ kq y ∧ kq y < 4 ∧ 0 ≤ y.getD 1 0 ∧ y.getD 1 0 ≤ 255
abbrev St4 := Int × (List (Int × Int × Unit)) × Int × Int × Int × (List (Int × Int × Int × Unit))
def st4 (i : Int) (x : Pl) : St4 := (i, x.1, x.2.2.1.1, x.2.2.1.2.1, x.2.2.1.2.2.1, x.2.1)
theorem x_eta (x : Pl) : (x.1, x.2.1, (x.2.2.1.1, x.2.2.1.2.1, x.2.2.1.2.2.1, ()), ()) = x := rfl
theorem J3_eq {x : Pl} {ps : List (List Int)} {po : List Int} (h : Fit x ps po) (hn : x.1.length = 60) (hv : vals x ps = [[], [], [], []]) : L03_QueueOrder_J3 x.1 x.2.2.1.1 x.2.2.1.2.1 x.2.2.1.2.2.1 x.2.1 = some true := by
  unfold L03_QueueOrder_J3
  have ht := h.tot
  rw [hv, hn] at ht
  simp only [tot, List.length_nil] at ht
  rw [x_eta, free_eq h.l1]
  refine bind_t ((bif_pos (show x.2.2.1.2.2.1 = 60 by rw [h.op.many]; omega)).trans ?_)
  rw [alive03]; rfl
/-- One queue is emptied. -/
theorem pops_eq {l : List (List Int)} (hl : l.length ≤ 60) (hN : ∀ y ∈ l, Num y) {X1 : List (List Int) × (List (Int × Int × Unit)) × Int × Int × Int × (List (Int × Int × Int × Unit))} (hX : X1.1 = l) {q : Int} (hq : 0 ≤ q ∧ q < 4) {x4 : St4} (hx4 : x4.1 = q) (k4 : St4 → Option Bool) {x : Pl} {ps : List (List Int)} {po : List Int} (h : Fit x ps po) (hn : x.1.length = 60) (h4 : ps.length = 4) (hv : vals x ps = Wv q l l)
    (hk4 : ∀ x' ps' po', Fit x' ps' po' → x'.1.length = 60 → ps'.length = 4 → vals x' ps' = Wv (q + 1) l l → k4 (st4 (q + 1) x') = some true) :
    loop (L03_QueueOrder_L3 (l.length : Int) X1 x4 k4) (st4 0 x) = some true := by
  refine loop_up (fun (y : St4) => y.1) (l.length : Int) (fun (y : St4) => 0 ≤ y.1 ∧ ∃ x ps po, Fit x ps po ∧ x.1.length = 60 ∧ ps.length = 4 ∧ vals x ps = Wv q (l.drop y.1.toNat) l ∧ y = st4 y.1 x) (fun _ => some true) ⟨Int.le_refl 0, x, ps, po, h, hn, h4, hv, rfl⟩ (by show (l.length : Int) - 0 < _; omega) ?_
  rintro k y ⟨h0, x, ps, po, h, hn, h4, hv, hy⟩ hk
  obtain ⟨i, hi⟩ : ∃ i, y.1 = i := ⟨_, rfl⟩
  rw [hi] at h0 hy hk hv
  subst hy
  unfold L03_QueueOrder_L3 st4
  dsimp only
  rw [hX, x_eta, hx4]
  by_cases hj : i < (l.length : Int)
  · obtain ⟨z, hz⟩ : ∃ z, l.getD i.toNat (List.replicate 2 0) = z := ⟨_, rfl⟩
    have hzm : z ∈ l := by rw [← hz]; exact getD_mem h0 hj
    have nz := hN z hzm
    rw [drop_at (d := List.replicate 2 0) h0 hj, hz] at hv
    have e0 : Int.tmod (z.getD (0 : Int).toNat 0) 4 = kq z := rfl
    have e1 : z.getD (1 : Int).toNat 0 = z.getD 1 0 := rfl
    obtain ⟨n1, n2, n3, n4⟩ := nz
    rw [bif_pos hj, chk_pos ⟨h0, hj⟩, chk_pos (by decide), chk_pos (by decide), hz, e0, e1, w64 (x := kq z) (by omega) (by omega), w64 (x := z.getD 1 0) (by omega) (by omega), w64 (x := i + 1) (by omega) (by omega)]
    by_cases hkq : kq z = q
    · have hg := Wv_get hq (z :: l.drop (i + 1).toNat) l
      rw [sel_cons, if_pos hkq, ← hv] at hg
      obtain ⟨x', ps', po', f1, f2, f3, f4, f5⟩ := pop_val h hq.1 (by omega) hg
      rw [hv, Wv_set hq] at f5
      rw [bnot_pos hkq, f4]
      refine bind_t ((bnot_pos (show (0 : Int) = 0 from rfl)).trans ?_)
      dsimp only
      rw [chk_pos (by decide), bnot_pos rfl]
      exact hk hj _ ⟨by show 0 ≤ i + 1; omega, x', ps', po', f1, by omega, by omega, f5, rfl⟩ rfl
    · rw [bnot_neg hkq]
      have : Wv q (z :: l.drop (i + 1).toNat) l = Wv q (l.drop (i + 1).toNat) l := by
        rw [← Wv_set hq (z :: l.drop (i + 1).toNat) (l.drop (i + 1).toNat), ← Wv_set hq (z :: l.drop (i + 1).toNat) (z :: l.drop (i + 1).toNat), sel_cons, if_neg hkq, List.set_set]
      rw [this] at hv
      exact hk hj _ ⟨by show 0 ≤ i + 1; omega, x, ps, po, h, hn, h4, hv, rfl⟩ rfl
  · rw [bif_neg hj]
    rw [drop_end hj] at hv
    unfold L03_QueueOrder_J5
    rw [x_eta, hx4, pop_empty h hq.1 (by omega) (by rw [hv, Wv_get hq]; rfl)]
    refine bind_t ((bnot_pos (show (11 : Int) = 11 from rfl)).trans ?_)
    unfold L03_QueueOrder_J4
    rw [hx4, w64 (by omega) (by omega)]
    exact hk4 x ps po h hn h4 (by rw [hv, Wv_next hq])
theorem out_eq {l : List (List Int)} (hl : l.length ≤ 60) (hN : ∀ y ∈ l, Num y) {X1 : List (List Int) × (List (Int × Int × Unit)) × Int × Int × Int × (List (Int × Int × Int × Unit))} (hX : X1.1 = l) {x : Pl} {ps : List (List Int)} {po : List Int} (h : Fit x ps po) (hn : x.1.length = 60) (h4 : ps.length = 4) (hv : vals x ps = Vp l) :
    loop (L03_QueueOrder_L4 X1) (st4 0 x) = some true := by
  refine loop_up (fun (y : St4) => y.1) 4 (fun (y : St4) => 0 ≤ y.1 ∧ y.1 ≤ 4 ∧ ∃ x ps po, Fit x ps po ∧ x.1.length = 60 ∧ ps.length = 4 ∧ vals x ps = Wv y.1 l l ∧ y = st4 y.1 x) (fun _ => some true) ⟨Int.le_refl 0, by show (0 : Int) ≤ 4; decide, x, ps, po, h, hn, h4, by rw [hv]; exact (Wv_zero l).symm, rfl⟩ (by show (4 : Int) - 0 < _; decide) ?_
  rintro k y ⟨h0, h1, x, ps, po, h, hn, h4, hv, hy⟩ hk
  obtain ⟨q, hi⟩ : ∃ i, y.1 = i := ⟨_, rfl⟩
  rw [hi] at h0 h1 hy hk hv
  subst hy
  unfold L03_QueueOrder_L4
  by_cases hj : q < 4
  · refine (bif_pos (show (st4 q x).1 < 4 from hj)).trans ?_
    rw [hX]
    exact pops_eq hl hN hX ⟨h0, hj⟩ rfl k h hn h4 hv fun x' ps' po' f1 f2 f3 f4 => hk hj _ ⟨by show 0 ≤ q + 1; omega, by show q + 1 ≤ 4; omega, x', ps', po', f1, f2, f3, f4, rfl⟩ rfl
  · refine (bif_neg (show ¬ (st4 q x).1 < 4 from hj)).trans ?_
    rw [show q = 4 by omega, Wv_end] at hv
    exact J3_eq h hn hv
theorem in_eq {l : List (List Int)} (hl : l.length ≤ 60) (hN : ∀ y ∈ l, Num y) {X1 : List (List Int) × (List (Int × Int × Unit)) × Int × Int × Int × (List (Int × Int × Int × Unit))} (hX : X1.1 = l) {x : Pl} {ps : List (List Int)} {po : List Int} (h : Fit x ps po) (hn : x.1.length = 60) (h4 : ps.length = 4) (hp : po.length = 60) (hv : vals x ps = [[], [], [], []]) :
    loop (L03_QueueOrder_L5 (l.length : Int) X1) (st4 0 x) = some true := by
  refine loop_up (fun (y : St4) => y.1) (l.length : Int) (fun (y : St4) => 0 ≤ y.1 ∧ y.1 ≤ (l.length : Int) ∧ ∃ x ps po, Fit x ps po ∧ x.1.length = 60 ∧ ps.length = 4 ∧ (po.length : Int) = 60 - y.1 ∧ vals x ps = Vp (l.take y.1.toNat) ∧ y = st4 y.1 x) (fun _ => some true) ⟨Int.le_refl 0, by show (0 : Int) ≤ _; omega, x, ps, po, h, hn, h4, by show (po.length : Int) = 60 - 0; omega, hv, rfl⟩ (by show (l.length : Int) - 0 < _; omega) ?_
  rintro k y ⟨h0, h1, x, ps, po, h, hn, h4, hp, hv, hy⟩ hk
  obtain ⟨i, hi⟩ : ∃ i, y.1 = i := ⟨_, rfl⟩
  rw [hi] at h0 h1 hy hk hv hp
  subst hy
  unfold L03_QueueOrder_L5 st4
  dsimp only
  rw [hX, x_eta]
  by_cases hj : i < (l.length : Int)
  · obtain ⟨z, hz⟩ : ∃ z, l.getD i.toNat (List.replicate 2 0) = z := ⟨_, rfl⟩
    have hzm : z ∈ l := by rw [← hz]; exact getD_mem h0 hj
    have nz := hN z hzm
    have e0 : Int.tmod (z.getD (0 : Int).toNat 0) 4 = kq z := rfl
    have e1 : z.getD (1 : Int).toNat 0 = z.getD 1 0 := rfl
    obtain ⟨n1, n2, n3, n4⟩ := nz
    rw [bif_pos hj, chk_pos ⟨h0, hj⟩, chk_pos (by decide), chk_pos (by decide), chk_pos (by decide), hz, e0, e1, w64 (x := kq z) (by omega) (by omega), w64 (x := z.getD 1 0) (by omega) (by omega), w64 (x := i + 1) (by omega) (by omega)]
    obtain ⟨x', ps', po', f1, f2, f3, f4, f5, f6⟩ := push_val (v := z.getD 1 0) h n1 (by omega) (fun e => by rw [e] at hp; simp at hp; omega)
    rw [hv, Vp_snoc _ _ ⟨n1, n2⟩] at f6
    rw [f5]
    refine bind_t ((bnot_pos (show (0 : Int) = 0 from rfl)).trans ?_)
    refine hk hj _ ⟨by show 0 ≤ i + 1; omega, by show i + 1 ≤ (l.length : Int); omega, x', ps', po', f1, by omega, by omega, by show (po'.length : Int) = 60 - (i + 1); omega, ?_, rfl⟩ rfl
    rw [f6, ← hz, ← take_at h0 hj]
  · rw [bif_neg hj]
    unfold L03_QueueOrder_J6
    rw [List.take_of_length_le (by omega)] at hv
    exact out_eq hl hN hX h hn h4 hv
theorem R1Order_eq {l : List (List Int)} (hN : ∀ y ∈ l, Num y) {x : Pl} {ps : List (List Int)} {po : List Int} (h : Fit x ps po) (hn : x.1.length = 60) (h4 : ps.length = 4) (hp : po.length = 60) (hv : vals x ps = [[], [], [], []]) :
    L03_QueueOrder_R1 (l, x.1, x.2.2.1.1, x.2.2.1.2.1, x.2.2.1.2.2.1, x.2.1) = some true := by
  unfold L03_QueueOrder_R1
  dsimp only
  by_cases h1 : (l.length : Int) > 60
  · rw [bif_pos h1, alive03]; rfl
  · rw [bif_neg h1]
    exact in_eq (by omega) hN rfl h hn h4 hp hv
theorem nodesO_eq {l : List (List Int)} (hN : ∀ y ∈ l, Num y) :
    loop (L03_QueueOrder_L1 60 L03_QueueOrder_R1 l (List.replicate 4 (-1, -1, 0, ()))) (0, List.replicate 60 (0, 0, ()), -1, -1, 0) = some true := by
  refine loop_up (fun y => y.1) 60 (fun y => 0 ≤ y.1 ∧ y.1 ≤ 60 ∧ (y.2.1.length : Int) = 60 ∧ Rep y.2.1 (upto y.1.toNat) (y.2.2.1, y.2.2.2.1, y.2.2.2.2, ())) (fun _ => some true) ⟨by simp, by show (0 : Int) ≤ 60; decide, by rw [List.length_replicate]; rfl, rep_nil _⟩ (by show (60 : Int) - 0 < _; decide) ?_
  rintro k ⟨i, ns, f, z, m⟩ ⟨h0, hi, hn, hr⟩ hk
  dsimp only at h0 hi hn hr hk
  unfold L03_QueueOrder_L1
  dsimp only
  by_cases hj : i < 60
  · rw [bif_pos hj]
    refine (hang_step k hr h0 (by omega) (by omega)).trans ?_
    exact hk hj _ ⟨by dsimp only; omega, by dsimp only; omega, by dsimp only; rw [hang_len]; exact hn, hang_next hr h0 (by omega)⟩ rfl
  · rw [bif_neg hj]
    unfold L03_QueueOrder_J1
    have e : i.toNat = ns.length := by omega
    rw [e] at hr
    have hf := new_fit (q := 4) hr (by omega) (by omega) (by omega)
    exact R1Order_eq hN hf (by show ns.length = 60; omega) (by simp) (by rw [upto_len]; omega) (by rw [new_vals]; rfl)
theorem linesO_eq {l : List (List Int)} (hN : ∀ y ∈ l, Num y) :
    loop (L03_QueueOrder_L2 (List.replicate 60 (0, 0, ())) L03_QueueOrder_R1 l) (0, []) = some true := by
  refine loop_up (fun y => y.1) 4 (fun y => 0 ≤ y.1 ∧ y.1 ≤ 4 ∧ y.2 = List.replicate y.1.toNat (-1, -1, 0, ())) (fun _ => some true) ⟨by simp, by show (0 : Int) ≤ 4; decide, rfl⟩ (by show (4 : Int) - 0 < _; decide) ?_
  rintro k ⟨i, ls⟩ ⟨h0, hi, hn⟩ hk
  dsimp only at h0 hi hn hk
  subst hn
  unfold L03_QueueOrder_L2
  dsimp only
  by_cases hj : i < 4
  · rw [bif_pos hj, chk_pos (by simp; omega), w64 (by omega) (by omega), repl_snoc]
    exact hk hj _ ⟨by dsimp only; omega, by dsimp only; omega, by dsimp only; rw [show (i + 1).toNat = i.toNat + 1 by omega]⟩ rfl
  · rw [bif_neg hj]
    unfold L03_QueueOrder_J2
    rw [show i.toNat = 4 by omega, List.length_replicate]
    exact nodesO_eq hN
theorem order_main (l : List (List Int)) (hN : ∀ y ∈ l, Num y) : L03_QueueOrder l = some true := by
  unfold L03_QueueOrder L03_QueueOrder_C1
  rw [cutv_eq, chk_pos (by decide), letv_eq]
  exact linesO_eq hN
theorem num_of {y : List Int} (h : wfD (.arr 2 (.int .u8)) y) : Num y := by
  have h0 := u8_at h 0
  have h1 := u8_at h 1
  unfold Num kq
  rw [Int.tmod_eq_emod_of_nonneg h0.1]
  omega
end Qu
theorem law_L03_QueueOrder : ∀ x : ((.pair (.sl (.arr 2 (.int .u8))) .unit) : Ty).den, wfD (.pair (.sl (.arr 2 (.int .u8))) .unit) x → L03_QueueOrder x.1 = some true := by
  exact fun x hw => Qu.order_main x.1 fun y hy => Qu.num_of ((wfl hw.1).2 y hy)
end Go.Proofs.YtiicmhholjpcbaaV
