/- ArenaPlays: the arena and the document's go alike. -/
import Derived.Test.YtiicmhholjpcbaaMarenas
import Derived.Test.YtiicmhholjpcbaaDArenaPlays
namespace Go.Proofs.YtiicmhholjpcbaaV
set_option linter.unusedVariables false
set_option linter.unusedSimpArgs false
open Go.RowKit
namespace Ar
theorem alive02 : L02_alive = some true := by decide +kernel
abbrev St2 := (List (Int × Int × Int × Unit)) × Int × Int × Int × List Int × (List (Int × Int × Unit)) × (List (Int × Bool × Int × Unit)) × Int × Int
/-- The loop's state over the same slots. -/
def stt (l : List (Int × Int × Int × Unit)) (i last : Int) (s : List Sl) : St2 := (l, (l.length : Int), i, last, s.map (·.1), hl 0 s, s, last, ((hl 0 s).length : Int))
theorem R1_eq {last : Int} {s : List Sl} (h : Fit last s) (l : List (Int × Int × Int × Unit)) {i : Int} (h0 : 0 ≤ i) (h1 : i < 140737488355328) (e d H X : Int) (k : St2 → Option Bool) :
    L02_ArenaPlays_R1 k (e, e, l, (l.length : Int), i, last, s.map (·.1), hl 0 s, d, H, X, s, last, ((hl 0 s).length : Int)) = k (stt l (i + 1) last s) := by
  unfold L02_ArenaPlays_R1
  dsimp only
  rw [bnot_pos rfl]
  have := as_eq h H
  rw [show (last, ((hl 0 s).length : Int), s, ()) = A_of last s from rfl, show (last, s.map (·.1), hl 0 s, ()) = R_of last s from rfl, this]
  refine bind_t ?_
  refine (cond_tt _ _).trans ?_
  rw [w64 (by omega) (by omega)]; rfl
theorem step_eq {last : Int} {s : List Sl} (h : Fit last s) (l : List (Int × Int × Int × Unit)) {i : Int} (h0 : 0 ≤ i) (h1 : i < 140737488355328) (k : St2 → Option Bool) :
    ∃ s', Fit last s' ∧ L02_ArenaPlays_C1 (stt l i last s) (L02_ArenaPlays_R1 k) = k (stt l (i + 1) last s') := by
  unfold L02_ArenaPlays_C1 stt
  dsimp only
  rw [show (last, ((hl 0 s).length : Int), s, ()) = A_of last s from rfl, show (last, s.map (·.1), hl 0 s, ()) = R_of last s from rfl, letv_eq, letv_eq, letv_eq]
  obtain ⟨z, hz⟩ : ∃ z, l.getD i.toNat (0, 0, 0, ()) = z := ⟨_, rfl⟩
  rw [hz]
  obtain ⟨d, H, X, _⟩ := z
  dsimp only
  by_cases h5 : Int.tmod d 5 = 0
  · refine ⟨setS s H X, setS_fit h H X, ?_⟩
    rw [bif_pos h5, set_A h, set_R h]
    exact R1_eq (setS_fit h H X) l h0 h1 _ _ _ _ k
  · rw [bif_neg h5]
    have hd : ∃ s', Fit last s' ∧ (Option.bind (arena_Table_int_Drop (A_of last s) H) fun r16 => Option.bind (R02_Drop (R_of last s) H) fun r17 =>
      L02_ArenaPlays_R1 k (r16.2.1, r17.2.1, l, (l.length : Int), i, r17.1.1, r17.1.2.1, r17.1.2.2.1, d, H, X, r16.1.2.2.1, r16.1.1, r16.1.2.1)) = k (stt l (i + 1) last s') := by
      refine ⟨dropS s H, dropS_fit h H, ?_⟩
      rw [drop_A h, drop_R h]
      exact R1_eq (dropS_fit h H) l h0 h1 _ _ _ _ k
    by_cases h6 : Int.tmod d 5 = 1
    · rw [bif_pos h6]; exact hd
    · rw [bif_neg h6]
      by_cases h7 : Int.tmod d 5 = 2
      · rw [bif_pos h7]; exact hd
      · rw [bif_neg h7]
        rcases open_cases last s with hf | ⟨a, z, b, rfl, ha, hz⟩
        · refine ⟨s, h, ?_⟩
          rw [full_A h hf, full_R h hf]
          refine bind_t (bind_t ?_)
          dsimp only
          rw [bnot_pos rfl]
          exact R1_eq h l h0 h1 _ _ _ _ k
        · have hg := h.gd
          have hz2 := hz.2
          refine ⟨a ++ (z.1 + 1, true, X, ()) :: b, h.set ⟨by dsimp only; omega, by dsimp only; omega, fun _ => by dsimp only; omega⟩, ?_⟩
          rw [add_A h ha hz, add_R h ha hz]
          refine bind_t (bind_t ?_)
          dsimp only
          rw [bnot_pos rfl]
          exact R1_eq (h.set ⟨by dsimp only; omega, by dsimp only; omega, fun _ => by dsimp only; omega⟩) l h0 h1 _ _ _ _ k
theorem J1_eq {last : Int} {s : List Sl} (h : Fit last s) : L02_ArenaPlays_J1 last (s.map (·.1)) (hl 0 s) s last ((hl 0 s).length : Int) = some true := by
  unfold L02_ArenaPlays_J1
  rw [show (last, ((hl 0 s).length : Int), s, ()) = A_of last s from rfl, show (last, s.map (·.1), hl 0 s, ()) = R_of last s from rfl, as_eq h, alive02]; rfl
theorem loop_eq {last : Int} {s : List Sl} (h : Fit last s) (l : List (Int × Int × Int × Unit)) (hl : l.length ≤ 140737488355328) : loop L02_ArenaPlays_L1 (stt l 0 last s) = some true := by
  refine loop_up (fun y => y.2.2.1) (l.length : Int) (fun y => 0 ≤ y.2.2.1 ∧ ∃ s, Fit last s ∧ y = stt l y.2.2.1 last s) (fun _ => some true) ⟨Int.le_refl 0, s, h, rfl⟩ (by show (l.length : Int) - 0 < _; omega) ?_
  rintro k y ⟨h0, s, hs, hy⟩ hk
  obtain ⟨i, hi⟩ : ∃ i, y.2.2.1 = i := ⟨_, rfl⟩
  rw [hi] at h0 hy hk
  subst hy
  unfold L02_ArenaPlays_L1
  rw [cutv_eq]
  by_cases hj : i < (l.length : Int)
  · refine Eq.trans (b := chk (0 ≤ i ∧ i < (l.length : Int)) (chk ((5 : Int) ≠ 0) (L02_ArenaPlays_C1 (stt l i last s) (L02_ArenaPlays_R1 k)))) (bif_pos (show i < (l.length : Int) from hj)) ?_
    rw [chk_pos ⟨h0, hj⟩, chk_pos (by decide)]
    obtain ⟨s', f', e'⟩ := step_eq hs l h0 (by omega) k
    rw [e']
    exact hk hj _ ⟨by show 0 ≤ i + 1; omega, s', f', rfl⟩ rfl
  · refine Eq.trans (bif_neg (show ¬ i < (l.length : Int) from hj)) ?_
    exact J1_eq hs
theorem L2_eq : L02_ArenaPlays_L2 = L02_ArenaPlays_L1 := by
  funext k x
  unfold L02_ArenaPlays_L2 L02_ArenaPlays_L1
  rw [cutv_eq, cutv_eq]; rfl
theorem hl_repl : ∀ (n : Nat) (k : Int), hl k (List.replicate n (0, false, 0, ())) = []
  | 0, k => rfl
  | n + 1, k => by rw [List.replicate_succ, hl, if_neg (by decide), hl_repl n]
theorem new_fit {room last : Int} (h1 : 1 ≤ room) (h2 : room ≤ 4096) (h3 : 1 ≤ last) (h4 : last ≤ 65535) : Fit last (List.replicate room.toNat (0, false, 0, ())) :=
  ⟨h3, h4, by simp; omega, by simp; omega, fun z hz => by rw [(List.mem_replicate.1 hz).2]; refine ⟨by decide, by show (0 : Int) ≤ last; omega, fun h => by cases h⟩⟩
theorem new_R {room last : Int} (h1 : 1 ≤ room) (h2 : room ≤ 4096) (h3 : 1 ≤ last) (h4 : last ≤ 65535) : R02_New room last = some (R_of last (List.replicate room.toNat (0, false, 0, ())), 0, ()) := by
  unfold R02_New R_of
  rw [bif_neg (by omega), bif_neg (by omega), bif_neg (by omega), bif_neg (by omega), chk_pos (by omega), hl_repl, List.map_replicate]
theorem new_bad {room last : Int} (h : room < 1 ∨ room > 4096 ∨ last < 1 ∨ last > 65535) : R02_New room last = some ((0, [], [], ()), 1, ()) := by
  unfold R02_New
  by_cases h1 : room < 1
  · rw [bif_pos h1]
  rw [bif_neg h1]
  by_cases h2 : room > 4096
  · rw [bif_pos h2]
  rw [bif_neg h2]
  by_cases h3 : last < 1
  · rw [bif_pos h3]
  rw [bif_neg h3, bif_pos (by omega)]
theorem bad_eq {room last : Int} (h : room < 1 ∨ room > 4096 ∨ last < 1 ∨ last > 65535) : (Option.bind (R02_New room last) fun r3 =>
          bif !decide (r3.2.1 = 0) then
            bif decide (1 = r3.2.1) then
              some true
            else
              some false
          else
            some false) = some true := by
  rw [new_bad h]; rfl
theorem good_eq {room last : Int} (l : List (Int × Int × Int × Unit)) (hl : l.length ≤ 140737488355328) (h1 : 1 ≤ room) (h2 : room ≤ 4096) (h3 : 1 ≤ last) (h4 : last ≤ 65535) :
    (Option.bind (R02_New room last) fun r11 =>
                bif !decide (r11.2.1 = 0) then
                  some false
                else
                  loop L02_ArenaPlays_L1 (l, (l.length : Int), 0, r11.1.1, r11.1.2.1, r11.1.2.2.1, List.replicate room.toNat (0, false, 0, ()), last, 0)) = some true := by
  rw [new_R h1 h2 h3 h4]
  refine bind_t ?_
  dsimp only
  rw [bnot_pos rfl]
  refine Eq.trans ?_ (loop_eq (new_fit h1 h2 h3 h4) l hl)
  unfold stt
  rw [hl_repl]
  unfold R_of
  rw [hl_repl]; rfl
theorem plays_main (room last : Int) (l : List (Int × Int × Int × Unit)) (hl : l.length ≤ 140737488355328) : L02_ArenaPlays room last l = some true := by
  unfold L02_ArenaPlays
  rw [L2_eq, letv_eq]
  have al : (Option.bind L02_alive fun r => some r) = some true := by rw [alive02]; rfl
  rw [al]
  by_cases h30 : room > 30
  · rw [bif_pos h30]
    by_cases h1 : room ≤ 4096
    · rw [bif_pos h1]
    · rw [bif_neg h1]
      by_cases h2 : (l.length : Int) > 100
      · rw [bif_pos h2]
      · rw [bif_neg h2, bif_neg (by omega), bif_pos (by omega)]
        exact bad_eq (room := room) (last := last) (by omega)
  · rw [bif_neg h30]
    by_cases h2 : (l.length : Int) > 100
    · rw [bif_pos h2]
    · rw [bif_neg h2]
      by_cases h3 : room < 1
      · rw [bif_pos h3]; exact bad_eq (room := room) (last := last) (by omega)
      · rw [bif_neg h3, bif_neg (by omega)]
        by_cases h4 : last < 1
        · rw [bif_pos h4]; exact bad_eq (room := room) (last := last) (by omega)
        · rw [bif_neg h4]
          by_cases h5 : last > 65535
          · rw [bif_pos h5]; exact bad_eq (room := room) (last := last) (by omega)
          · rw [bif_neg h5, chk_pos (by omega)]
            exact good_eq l hl (by omega) (by omega) (by omega) (by omega)
end Ar
theorem law_L02_ArenaPlays : ∀ x : ((.pair (.int .i64) (.pair (.int .i64) (.pair (.sl (.pair (.int .u8) (.pair (.int .i64) (.pair (.int .i64) .unit)))) .unit))) : Ty).den, wfD (.pair (.int .i64) (.pair (.int .i64) (.pair (.sl (.pair (.int .u8) (.pair (.int .i64) (.pair (.int .i64) .unit)))) .unit))) x → L02_ArenaPlays x.1 x.2.1 x.2.2.1 = some true := by
  exact fun x hw => Ar.plays_main x.1 x.2.1 x.2.2.1 (wfl hw.2.2.1).1
end Go.Proofs.YtiicmhholjpcbaaV
