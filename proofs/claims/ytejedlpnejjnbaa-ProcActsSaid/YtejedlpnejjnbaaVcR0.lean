/- One operation; a loop's head; operations in their order. -/
import Derived.Test.YtejedlpnejjnbaaVcU
import Derived.OrdersHeld
set_option linter.unusedVariables false
set_option linter.unusedSimpArgs false
namespace Go.Proofs.YtejedlpnejjnbaaV
open Go.RowKit

section
variable {E : Env} {X : Fix} {ρ : Nat → Nat} {s : St} {a : Act} {w w' : World} {o : Oper}

def calls : Op → Bool
  | .call c => match c.callee with | .value _ => true | _ => false
  | _ => false

theorem ex_pv {op : Op} {C : AV → Prop} (hE : EnvT E X.P) (hq : EqLaw X (cx X ρ s.hp w)) (R : RR X ρ s a w) (ho : o.op = op) (hc : calls op = false) (h : pv E s.hp (opn s.fr) op C) :
    ∃ v z, C v ∧ Up X.P a o z w ∧ VR (cx X ρ s.hp w) v z := by
  cases op with
  | move x => exact ex_move R (.inl ho) h
  | assign x => exact ex_move R (.inr ho) h
  | pick c x y => exact ex_pick R ho h
  | nilCheck x => exact ex_nilCheck R ho h
  | binOp b t x y t' => exact ex_binOp hE hq R ho h
  | unOp b t x => exact ex_unOp R ho h
  | convert t u x => exact ex_convert hE R ho h
  | fieldAddr t x i => exact ex_fieldAddr hE R ho h
  | field t x i => exact ex_field hE R ho h
  | indexAddr t x y => exact ex_indexAddr hE R ho h
  | index t x y => exact ex_index hE R ho h
  | load t x => exact ex_load hE R ho h
  | extract x i => exact ex_extract R ho h
  | makeFunc f fs cs => exact ex_makeFunc R ho h
  | build t parts => exact ex_build hE R ho h
  | slice t x lo hi mx =>
    cases mx with
    | none => exact ex_slice hE R ho h
    | some m =>
      cases hi with
      | none => simp [pv] at h
      | some hi => exact ex_slice3 hE R ho h
  | call c =>
    cases hcc : c.callee with
    | value f => simp [calls, hcc] at hc
    | invoke r m => simp only [pv, hcc] at h
    | builtin b =>
      cases b with
      | len => exact ex_len hE R ho hcc h
      | min => exact ex_min R ho (.inl hcc) h
      | max => exact ex_min R ho (.inr hcc) h
      | _ => simp only [pv, hcc] at h
  | _ => simp [pv] at h

variable {K : St → Prop} {next : Act → World → Prop} {Q : Exit → Act → World → Prop}

def Hold (X : Fix) (K : St → Prop) (next : Act → World → Prop) : Prop := ∀ ρ s a w, K s → RR X ρ s a w → next a w

theorem putF_next {n : Nat} {dst : Option Nat} {v : AV} {z : Value} (hn : n = X.nt) (h : putF n dst s v K) (R : RR X ρ s a w) (hv : VR (cx X ρ s.hp w) v z) : ∃ s', K s' ∧ RR X ρ s' (a.put dst z) w := by
  rw [putF_eq] at h
  exact ⟨_, h.2, R.put (fun d hd => by rw [← hn]; exact h.1 d hd) hv⟩

theorem RR.alias (R : RR X ρ s a w) {d : Nat} {v : AV} (hv : VR (cx X ρ s.hp w) v (a.tmps.getD d undef)) : RR X ρ (s.put (some d) v) a w := by
  refine ⟨R.size, R.defers, R.ok0, R.below, R.heap, R.inj, fun i => ?_, R.stk, R.sp, R.lim⟩
  show VR _ (lk ((d, v) :: s.fr) i) _
  rw [lk_cons]
  by_cases h : d = i
  · subst h; rw [if_pos rfl]; exact hv
  · rw [if_neg h]; exact R.fr i

theorem frz_ro {id te : Nat} {e : Ty} {xs : List e.den} {f : Bool} {fr : List (Nat × AV)} {hp : List (Nat × Blk)} {ks : Option Ks} (R : RR X ρ ⟨fr, hp, ks⟩ a w) (hb : lkb hp id = .row te e xs f) :
    Ext (fun _ => False) (cx X ρ hp w) (cx X ρ ((id, .row te e xs true) :: hp) w) ∧ RR X ρ ⟨fr, (id, .row te e xs true) :: hp, ks⟩ a w ∧ ∀ vs, CR (cx X ρ hp w) (.own id) vs → CR (cx X ρ ((id, .row te e xs true) :: hp) w) (.ro e xs) vs := by
  have hz : fzs hp [id] = (id, .row te e xs true) :: hp := by simp only [fzs, hb, fzB]
  have hR := R.freezes [id]
  rw [show (⟨fr, hp, ks⟩ : St).hp = hp from rfl, hz] at hR
  refine ⟨hR.1, hR.2, fun vs h => ?_⟩
  have h2 := CR_ext hR.1 (.own id) vs (Free_no _) h
  have hb2 : lkb ((id, Blk.row te e xs true) :: hp) id = .row te e xs true := by rw [lkb_cons, if_pos rfl]
  refine own_sl (s := ⟨fr, (id, .row te e xs true) :: hp, ks⟩) hR.2 hb2 h2 (fun hne => ?_) (fun b hb => hb)
  refine ⟨.inr (hR.2.lt (by rw [hb2]; exact hne)).1, (hR.2.lt (by rw [hb2]; exact hne)).2, fun id' hl he => ?_⟩
  have := hR.2.inj id' id (liveW_live hl) (by rw [hb2]; exact hne) he
  subst this
  rw [hb2] at hl
  exact hl
theorem RR.frzS (R : RR X ρ s a w) (d : Nat) : RR X ρ (frzS d s) a w := by
  obtain ⟨fr, hp, ks⟩ := s
  unfold Go.Proofs.YtejedlpnejjnbaaV.frzS
  split
  rename_i heq
  cases heq
  split
  · rename_i id hd
    split
    · rename_i te e xs f hb
      obtain ⟨_, R1, h1⟩ := frz_ro R hb
      have hx := R.fr d
      rw [show (⟨fr, hp, ks⟩ : St).fr = fr from rfl, hd] at hx
      exact R1.alias (d := d) (v := .ro e xs) ⟨h1 _ hx.1, hx.2⟩
    · exact R
  · exact R
theorem put_hp (s : St) (d : Option Nat) (v : AV) : (s.put d v).hp = s.hp := by cases d <;> rfl
theorem putF_next2 {n : Nat} {dst : Option Nat} {v : AV} {z : Value} (hn : n = X.nt) (h : putF n dst s v K) (R : RR X ρ s a w) (hv : VR (cx X ρ s.hp w) v z) : K (s.put dst v) ∧ RR X ρ (s.put dst v) (a.put dst z) w := by
  rw [putF_eq] at h
  exact ⟨h.2, R.put (fun d hd => by rw [← hn]; exact h.1 d hd) hv⟩
end
end Go.Proofs.YtejedlpnejjnbaaV
