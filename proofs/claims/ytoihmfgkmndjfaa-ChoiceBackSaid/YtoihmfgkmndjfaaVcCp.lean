/- (*strings.Builder).copyCheck, by the shelf's contracts: the builder holds its own address behind it. -/
import Derived.Test.YtoihmfgkmndjfaaVcV
import Derived.Shelf.Strings.Builder1
set_option linter.unusedVariables false
set_option linter.unusedSimpArgs false
namespace Go.Proofs.YtoihmfgkmndjfaaV
open Go.RowKit Go.Shelf

/-- A builder that was never written to gets its own address; one that was has it. -/
def copyT : Proc := fun off hp vs0 k => match vs0 with
  | [.ptr id []] => match lkb hp id with
    | .var (.pair (.opq 3) (.pair (.sl (.int .u8)) .unit)) (.agg (.con (.pointer none) :: q)) false => k ((id, .var (.pair (.opq 3) (.pair (.sl (.int .u8)) .unit)) (.agg (.ptr id [] :: q)) false) :: hp) (some ([], 0)) (.tup [])
    | .var (.pair (.opq 3) (.pair (.sl (.int .u8)) .unit)) (.agg (.ptr i [] :: q)) false => cond (Nat.beq i id) (k hp (some ([], 0)) (.tup [])) False
    | _ => False
  | _ => False

theorem copy_con {P : Program} {r : Ren} {fn : Func} {c : Code} (L : Lays.n240 P r) (Z : Builder.X72 P r) (hT : r.t 72 = BT) (hf : P.funcs[r.f 240]? = some fn) (hb : fn.body = some c) (hnm : (fn.name == "runtime.NumGoroutine") = false) : SCon P (r.f 240) copyT := by
  intro off X ρ hp w vs0 xs a0 K hXP R0 hok hargs h
  subst hXP
  unfold copyT at h
  split at h
  · rename_i id
    obtain ⟨z, zs, e1, hz, ha, e2⟩ := hargs
    obtain ⟨o0, t0, k1, ex⟩ := VR_ptr (c := cx X ρ hp w) ⟨hz, ha⟩
    have k1 : pathB (lkb hp id) [] = some (o0, t0) := k1
    have hh := R0.heap id
    rw [show (⟨[], hp, some ([], 0)⟩ : St).hp = hp from rfl] at hh
    have hxs : ∀ n, o0 = 0 → xs = #[.pointer (some ⟨ρ id, n * 0, none⟩)] := by
      intro n h0
      subst h0
      apply Array.ext'
      rw [e1, e2, ex]; simp; rfl
    split at h
    · rename_i q hbk
      rw [hbk] at hh k1
      have h0 : o0 = 0 := by simp [pathB, pathT] at k1; exact k1.1.symm
      have hxs := hxs 0 h0
      subst hxs
      obtain ⟨g1, cs, T, g2, g3, g4, g5, g6⟩ := hh
      have g2 : w.heap[ρ id]? = some (.cells cs T (0, 0)) := g2
      have g6 : T = BT := g6
      have g3' : CRs (cx X ρ hp w) (.con (.pointer none) :: q) cs.toList := g3
      obtain ⟨u, v, huv, ⟨rfl, _⟩, hv⟩ := g3'
      have hlen := CR_length _ _ _ g4 g3
      have hsz : cs.size = 2 := by rw [← Array.length_toList]; exact hlen
      have hc0 : w.cell? ⟨ρ id, 0, none⟩ = some (.pointer none) := by
        rw [cell_of_block g2, ← Array.getElem?_toList, huv]; rfl
      have hsh : w.shape? (ρ id) = some (r.t 72, 2) := by
        rw [hT, ← g6]; simp [World.shape?, g2, hsz]
      have hC := Any.Builder_copyCheck_fresh L Z (ρ id) w hc0 hsh (by simp [World.frozen?, g2])
      refine .inr ⟨run_enter hf hb hnm _ w, calls_mono hC ?_⟩
      rintro e w' ⟨rfl, rfl⟩
      have R1 := RR.over R0 id (.var (.pair (.opq 3) (.pair (.sl (.int .u8)) .unit)) (.agg (.ptr id [] :: q)) false) [] [.pointer none] v [.pointer (some ⟨ρ id, 0, none⟩)] g2 huv rfl
        (by rw [show (⟨[], hp, some ([], 0)⟩ : St).hp = hp from rfl, hbk]; trivial) g1
        (fun e v f he => by rw [show (⟨[], hp, some ([], 0)⟩ : St).hp = hp from rfl, hbk] at he; cases he; exact ⟨_, _, rfl⟩)
        (fun te e xs f he => by rw [show (⟨[], hp, some ([], 0)⟩ : St).hp = hp from rfl, hbk] at he; cases he)
        (fun c' hc hx hc2 => by
          refine ⟨by subst hc; exact g1, _, T, hc2, ?_, ?_, g5, g6⟩
          · refine ⟨[.pointer (some ⟨ρ id, 0, none⟩)], v, by simp, ⟨0, (.pair (.opq 3) (.pair (.sl (.int .u8)) .unit)), ?_, ?_⟩, CRs_ext hx _ _ (Frees_no _) hv⟩
            · subst hc
              show pathB (lkb ((id, Blk.var (.pair (.opq 3) (.pair (.sl (.int .u8)) .unit)) (.agg (.ptr id [] :: q)) false) :: hp) id) [] = some (0, (.pair (.opq 3) (.pair (.sl (.int .u8)) .unit)))
              rw [lkb_cons, if_pos rfl]; rfl
            · subst hc; rfl
          · exact ⟨trivial, g4.2⟩)
      exact ⟨_, rfl, ρ, _, _, _, a0, h, R1, ⟨#[], rfl, rfl⟩⟩
    · rename_i i q hbk
      obtain ⟨hi, hk⟩ := cond_elim h
      clear h
      obtain rfl := Nat.eq_of_beq_eq_true hi
      rw [hbk] at hh k1
      have h0 : o0 = 0 := by simp [pathB, pathT] at k1; exact k1.1.symm
      have hxs := hxs 0 h0
      subst hxs
      obtain ⟨g1, cs, T, g2, g3, g4, g5, g6⟩ := hh
      have g2 : w.heap[ρ i]? = some (.cells cs T (0, 0)) := g2
      have g3' : CRs (cx X ρ hp w) (.ptr i [] :: q) cs.toList := g3
      obtain ⟨u, v, huv, ⟨o1, t1, k2, rfl⟩, hv⟩ := g3'
      have k2 : pathB (lkb hp i) [] = some (o1, t1) := k2
      rw [hbk] at k2
      have h1 : o1 = 0 := by simp [pathB, pathT] at k2; exact k2.1.symm
      subst h1
      have hc0 : w.cell? ⟨ρ i, 0, none⟩ = some (.pointer (some ⟨ρ i, 0, none⟩)) := by
        rw [cell_of_block g2, ← Array.getElem?_toList, huv]; rfl
      have hC := Any.Builder_copyCheck_used L Z (ρ i) w hc0
      refine .inr ⟨run_enter hf hb hnm _ w, calls_mono hC ?_⟩
      rintro e w' ⟨rfl, rfl⟩
      exact ⟨_, rfl, ρ, _, _, _, a0, hk, R0, ⟨#[], rfl, rfl⟩⟩
    · exact h.elim
  · exact h.elim
end Go.Proofs.YtoihmfgkmndjfaaV
