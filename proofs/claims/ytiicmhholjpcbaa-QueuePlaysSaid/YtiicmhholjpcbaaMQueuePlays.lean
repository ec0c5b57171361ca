/- QueuePlays: the queues and the document's go alike. -/
import Derived.Test.YtiicmhholjpcbaaMqueues4
import Derived.Test.YtiicmhholjpcbaaDQueuePlays
namespace Go.Proofs.YtiicmhholjpcbaaV
set_option linter.unusedVariables false
set_option linter.unusedSimpArgs false
open Go.RowKit
namespace Qu
open QT
abbrev St3 := (List (Int × Int × Int × Unit)) × Int × Int × Int × List (List Int) × (List (Int × Int × Unit)) × Int × Int × Int × (List (Int × Int × Int × Unit))
/-- The loop's state over the same pool. -/
def stt (l : List (Int × Int × Int × Unit)) (i : Int) (x : Pl) (ps : List (List Int)) : St3 := (l, (l.length : Int), i, (x.1.length : Int), vals x ps, x.1, x.2.2.1.1, x.2.2.1.2.1, x.2.2.1.2.2.1, x.2.1)
theorem R1_eq {x : Pl} {ps : List (List Int)} {po : List Int} (h : Fit x ps po) (l : List (Int × Int × Int × Unit)) {i : Int} (h0 : 0 ≤ i) (h1 : i < 140737488355328) (d q v : Int) (k : St3 → Option Bool) :
    L03_QueuePlays_R1 k (l, (l.length : Int), i, (x.1.length : Int), vals x ps, d, q, v, x.1, x.2.2.1.1, x.2.2.1.2.1, x.2.2.1.2.2.1, x.2.1) = k (stt l (i + 1) x ps) := by
  unfold L03_QueuePlays_R1
  dsimp only
  have := as_eq h q
  rw [show (x.1, x.2.1, (x.2.2.1.1, x.2.2.1.2.1, x.2.2.1.2.2.1, ()), ()) = x from rfl, show ((x.1.length : Int), vals x ps, ()) = W_of x ps from rfl, this]
  refine bind_t ?_
  refine (cond_tt _ _).trans ?_
  rw [w64 (by omega) (by omega)]; rfl
theorem step_eq {x : Pl} {ps : List (List Int)} {po : List Int} (h : Fit x ps po) (l : List (Int × Int × Int × Unit)) {i : Int} (h0 : 0 ≤ i) (h1 : i < 140737488355328) (k : St3 → Option Bool) :
    ∃ x' ps' po', Fit x' ps' po' ∧ L03_QueuePlays_C1 (stt l i x ps) (L03_QueuePlays_R1 k) = k (stt l (i + 1) x' ps') := by
  unfold L03_QueuePlays_C1 stt
  dsimp only
  rw [show (x.1, x.2.1, (x.2.2.1.1, x.2.2.1.2.1, x.2.2.1.2.2.1, ()), ()) = x from rfl, show ((x.1.length : Int), vals x ps, ()) = W_of x ps from rfl, letv_eq, letv_eq]
  obtain ⟨z, hz⟩ : ∃ z, l.getD i.toNat (0, 0, 0, ()) = z := ⟨_, rfl⟩
  rw [hz]
  obtain ⟨d, q, v, _⟩ := z
  dsimp only
  by_cases h5 : Int.tmod d 5 = 0
  · obtain ⟨x', ps', po', b, f, fl, e1, e2⟩ := rem_both h q v
    refine ⟨x', ps', po', f, ?_⟩
    rw [bif_pos h5, e1, e2]
    refine bind_t (bind_t ?_)
    dsimp only
    rw [beq_self_eq_true]
    refine (cond_tt _ _).trans ?_
    exact R1_eq f l h0 h1 _ _ _ k
  · rw [bif_neg h5]
    by_cases h6 : Int.tmod d 5 = 1
    · obtain ⟨x', ps', po', y, e, f, fl, e1, e2⟩ := pop_both h q
      refine ⟨x', ps', po', f, ?_⟩
      rw [bif_pos h6, e1, e2]
      refine bind_t (bind_t ?_)
      dsimp only
      rw [bnot_pos rfl, bnot_pos rfl]
      exact R1_eq f l h0 h1 _ _ _ k
    · obtain ⟨x', ps', po', e, f, fl, e1, e2⟩ := push_both h q v
      refine ⟨x', ps', po', f, ?_⟩
      rw [bif_neg h6, e1, e2]
      refine bind_t (bind_t ?_)
      dsimp only
      rw [bnot_pos rfl]
      exact R1_eq f l h0 h1 _ _ _ k
theorem J1_eq {x : Pl} {ps : List (List Int)} {po : List Int} (h : Fit x ps po) : L03_QueuePlays_J1 (x.1.length : Int) (vals x ps) x.1 x.2.2.1.1 x.2.2.1.2.1 x.2.2.1.2.2.1 x.2.1 = some true := by
  unfold L03_QueuePlays_J1
  rw [show (x.1, x.2.1, (x.2.2.1.1, x.2.2.1.2.1, x.2.2.1.2.2.1, ()), ()) = x from rfl, show ((x.1.length : Int), vals x ps, ()) = W_of x ps from rfl, as_eq h, alive03]; rfl
theorem loop_eq {x : Pl} {ps : List (List Int)} {po : List Int} (h : Fit x ps po) (l : List (Int × Int × Int × Unit)) (hl : l.length ≤ 140737488355328) : loop L03_QueuePlays_L1 (stt l 0 x ps) = some true := by
  refine loop_up (fun y => y.2.2.1) (l.length : Int) (fun y => 0 ≤ y.2.2.1 ∧ ∃ x ps po, Fit x ps po ∧ y = stt l y.2.2.1 x ps) (fun _ => some true) ⟨Int.le_refl 0, x, ps, po, h, rfl⟩ (by show (l.length : Int) - 0 < _; omega) ?_
  rintro k y ⟨h0, x, ps, po, hs, hy⟩ hk
  obtain ⟨i, hi⟩ : ∃ i, y.2.2.1 = i := ⟨_, rfl⟩
  rw [hi] at h0 hy hk
  subst hy
  unfold L03_QueuePlays_L1
  rw [cutv_eq]
  by_cases hj : i < (l.length : Int)
  · refine Eq.trans (b := chk (0 ≤ i ∧ i < (l.length : Int)) (chk ((5 : Int) ≠ 0) (L03_QueuePlays_C1 (stt l i x ps) (L03_QueuePlays_R1 k)))) (bif_pos (show i < (l.length : Int) from hj)) ?_
    rw [chk_pos ⟨h0, hj⟩, chk_pos (by decide)]
    obtain ⟨x', ps', po', f', e'⟩ := step_eq hs l h0 (by omega) k
    rw [e']
    exact hk hj _ ⟨by show 0 ≤ i + 1; omega, x', ps', po', f', rfl⟩ rfl
  · refine Eq.trans (bif_neg (show ¬ i < (l.length : Int) from hj)) ?_
    exact J1_eq hs
theorem nodes_eq {q room : Int} (l : List (Int × Int × Int × Unit)) (hl : l.length ≤ 140737488355328) (h1 : 1 ≤ q) (h2 : q ≤ 64) (h3 : 0 ≤ room) (h4 : room ≤ 1024) :
    loop (L03_QueuePlays_L2 room q room l (List.replicate q.toNat (-1, -1, 0, ()))) (0, List.replicate room.toNat (0, 0, ()), -1, -1, 0) = some true := by
  refine loop_up (fun y => y.1) room (fun y => 0 ≤ y.1 ∧ y.1 ≤ room ∧ (y.2.1.length : Int) = room ∧ Rep y.2.1 (upto y.1.toNat) (y.2.2.1, y.2.2.2.1, y.2.2.2.2, ())) (fun _ => some true) ⟨by simp, by simpa using h3, by simp; omega, rep_nil _⟩ (by show room - 0 < _; omega) ?_
  rintro k ⟨i, ns, f, z, m⟩ ⟨h0, hi, hn, hr⟩ hk
  dsimp only at h0 hi hn hr hk
  unfold L03_QueuePlays_L2
  dsimp only
  by_cases hj : i < room
  · rw [bif_pos hj]
    refine (hang_step k hr h0 (by omega) (by omega)).trans ?_
    exact hk hj _ ⟨by dsimp only; omega, by dsimp only; omega, by dsimp only; rw [hang_len]; exact hn, hang_next hr h0 (by omega)⟩ rfl
  · rw [bif_neg hj]
    unfold L03_QueuePlays_J2
    rw [new_R h1 h2 h3 h4]
    refine bind_t ((bnot_pos (show (0 : Int) = 0 from rfl)).trans ?_)
    have e : i.toNat = ns.length := by omega
    rw [e] at hr
    have hf := new_fit (q := q.toNat) hr (by omega) (by omega) (by omega)
    refine Eq.trans ?_ (loop_eq hf l hl)
    unfold stt
    rw [new_vals]
    dsimp only
    rw [hn]
theorem lines_eq {q room : Int} (l : List (Int × Int × Int × Unit)) (hl : l.length ≤ 140737488355328) (h1 : 1 ≤ q) (h2 : q ≤ 64) (h3 : 0 ≤ room) (h4 : room ≤ 1024) :
    loop (L03_QueuePlays_L3 q room l (List.replicate room.toNat (0, 0, ()))) (0, []) = some true := by
  refine loop_up (fun y => y.1) q (fun y => 0 ≤ y.1 ∧ y.1 ≤ q ∧ y.2 = List.replicate y.1.toNat (-1, -1, 0, ())) (fun _ => some true) ⟨by simp, by dsimp only; omega, rfl⟩ (by show q - 0 < _; omega) ?_
  rintro k ⟨i, ls⟩ ⟨h0, hi, hn⟩ hk
  dsimp only at h0 hi hn hk
  subst hn
  unfold L03_QueuePlays_L3
  dsimp only
  by_cases hj : i < q
  · rw [bif_pos hj, chk_pos (by simp; omega), w64 (by omega) (by omega), repl_snoc]
    exact hk hj _ ⟨by dsimp only; omega, by dsimp only; omega, by dsimp only; rw [show (i + 1).toNat = i.toNat + 1 by omega]⟩ rfl
  · rw [bif_neg hj]
    unfold L03_QueuePlays_J3
    rw [show i.toNat = q.toNat by omega, List.length_replicate, show ((room.toNat : Nat) : Int) = room by omega]
    exact nodes_eq l hl h1 h2 h3 h4
theorem bad_eq {q room : Int} (h : q < 1 ∨ q > 64 ∨ room < 0 ∨ room > 1024) : (Option.bind (R03_New q room) fun r3 =>
          bif !decide (r3.2.1 = 0) then
            bif decide (1 = r3.2.1) then
              some true
            else
              some false
          else
            some false) = some true := by
  rw [new_bad h]; rfl
theorem plays_main (q room : Int) (l : List (Int × Int × Int × Unit)) (hl : l.length ≤ 140737488355328) : L03_QueuePlays q room l = some true := by
  unfold L03_QueuePlays
  have al : (Option.bind L03_alive fun r => some r) = some true := by rw [alive03]; rfl
  rw [al]
  by_cases h2 : (l.length : Int) > 100
  · rw [bif_pos h2]
  · rw [bif_neg h2]
    by_cases h3 : q < 1
    · rw [bif_pos h3]; exact bad_eq (q := q) (room := room) (by omega)
    · rw [bif_neg h3]
      by_cases h4 : q > 64
      · rw [bif_pos h4]; exact bad_eq (q := q) (room := room) (by omega)
      · rw [bif_neg h4]
        by_cases h5 : room < 0
        · rw [bif_pos h5]; exact bad_eq (q := q) (room := room) (by omega)
        · rw [bif_neg h5]
          by_cases h6 : room > 1024
          · rw [bif_pos h6]; exact bad_eq (q := q) (room := room) (by omega)
          · rw [bif_neg h6, chk_pos (by omega)]
            exact lines_eq l hl (by omega) (by omega) (by omega) (by omega)
end Qu
theorem law_L03_QueuePlays : ∀ x : ((.pair (.int .i64) (.pair (.int .i64) (.pair (.sl (.pair (.int .u8) (.pair (.int .i64) (.pair (.int .i64) .unit)))) .unit))) : Ty).den, wfD (.pair (.int .i64) (.pair (.int .i64) (.pair (.sl (.pair (.int .u8) (.pair (.int .i64) (.pair (.int .i64) .unit)))) .unit))) x → L03_QueuePlays x.1 x.2.1 x.2.2.1 = some true := by
  exact fun x hw => Qu.plays_main x.1 x.2.1 x.2.2.1 (wfl hw.2.2.1).1
end Go.Proofs.YtiicmhholjpcbaaV
