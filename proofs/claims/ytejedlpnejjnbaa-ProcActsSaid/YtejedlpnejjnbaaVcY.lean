/- What is known of arguments; environments. -/
import Derived.Test.YtejedlpnejjnbaaVcX
set_option linter.unusedVariables false
set_option linter.unusedSimpArgs false
namespace Go.Proofs.YtejedlpnejjnbaaV
open Go.RowKit

/-- Data within what their types hold. -/
def wfD : (e : Ty) → e.den → Prop
  | .int k, n => (Lit.int k n).wf = true
  | .bool, _ => True
  | .str, s => s.size ≤ 9223372036854775807
  | .unit, _ => True
  | .pair a b, x => wfD a x.1 ∧ wfD b x.2
  | .sl e, xs => xs.length ≤ 140737488355328 ∧ ∀ x ∈ xs, wfD e x
  | .arr n e, xs => xs.length = n ∧ ∀ x ∈ xs, wfD e x
  | .opq _, _ => True
mutual
def wfAV : AV → Prop
  | .int k n => (Lit.int k n).wf = true
  | .str s => s.size ≤ 9223372036854775807
  | .ro e xs => wfD (.sl e) xs
  | .arr n e xs => wfD (.arr n e) xs
  | .agg l => wfs l
  | _ => True
def wfs : List AV → Prop
  | [] => True
  | v :: l => wfAV v ∧ wfs l
end

theorem EncL_all {α : Type} {E : α → List Value → Prop} {Q : α → Prop} (h : ∀ x vs, E x vs → Q x) : ∀ (xs : List α) (vs : List Value), EncL E xs vs → ∀ x ∈ xs, Q x
  | [], vs, _, x, hx => by cases hx
  | y :: xs, vs, e, x, hx => by
    obtain ⟨u, v, _, h1, h2⟩ := e
    cases hx with
    | head => exact h _ _ h1
    | tail _ hx => exact EncL_all h xs v h2 x hx
theorem Enc_wf {ok : Nat → Prop} {w : World} : ∀ (e : Ty) (x : e.den) (vs : List Value), Enc ok w e x vs → wfD e x
  | .int k, n, vs, h => h.2
  | .bool, _, _, _ => trivial
  | .str, s, vs, h => h.2
  | .unit, _, _, _ => trivial
  | .pair a b, x, vs, h => by
    obtain ⟨u, v, _, h1, h2⟩ := h
    exact ⟨Enc_wf a _ _ h1, Enc_wf b _ _ h2⟩
  | .sl e, xs, vs, h => by
    obtain ⟨A, c, _, h1, h2, h3, h4, h5⟩ := h
    refine ⟨h3, fun x hx => ?_⟩
    have hne : xs ≠ [] := fun h0 => by rw [h0] at hx; cases hx
    obtain ⟨b, o, _, _, h6⟩ := h5 hne
    obtain ⟨i, hi, rfl⟩ := List.getElem_of_mem hx
    obtain ⟨cs, _, _, h7⟩ := h6 i hi
    exact Enc_wf e _ _ h7
  | .arr n e, xs, vs, h => ⟨h.1, EncL_all (fun x vs h => Enc_wf e x vs h) xs vs h.2⟩
  | .opq _, _, _, h => h.elim
mutual
theorem CR_wf {c : Cx} : ∀ (v : AV) (l : List Value), CR c v l → wfAV v
  | .int k n, l, h => h.2
  | .str s, l, h => h.2
  | .ro e xs, l, h => Enc_wf (.sl e) xs l h
  | .arr n e xs, l, h => Enc_wf (.arr n e) xs l h
  | .agg r, l, h => CRs_wf r l h
  | .bool _, _, _ => trivial
  | .own _, _, _ => trivial
  | .ptr _ _, _, _ => trivial
  | .vsl _ _, _, _ => trivial
  | .rop _ _, _, _ => trivial
  | .con _, _, _ => trivial
  | .fn _ _ _, _, _ => trivial
  | .tup _, _, _ => trivial
  | .und, _, _ => trivial
  | .dead, _, _ => trivial
theorem CRs_wf {c : Cx} : ∀ (r : List AV) (l : List Value), CRs c r l → wfs r
  | [], _, _ => trivial
  | v :: r, l, h => by
    obtain ⟨a, b, _, h1, h2⟩ := h
    exact ⟨CR_wf v a h1, CRs_wf r b h2⟩
end
theorem CVs_wf {c : Cx} : ∀ (r : List AV) (l : List Value), CVs c r l → wfs r
  | [], _, _ => trivial
  | v :: r, l, h => by
    obtain ⟨x, ys, _, h1, _, h2⟩ := h
    exact ⟨CR_wf v _ h1, CVs_wf r ys h2⟩

theorem wf_i64 {n : Int} (h : (Lit.int .i64 n).wf = true) : -9223372036854775808 ≤ n ∧ n ≤ 9223372036854775807 := by
  simp [Lit.wf, IntKind.min, IntKind.max, IntKind.signed, IntKind.bits] at h
  omega

open Classical in
/-- A function of data, with what is known of its arguments. -/
theorem fn_con_wf {P : Program} {E : Env} {g : FuncId} {fn : Func} {c : Code} {nt : Nat} {rs : List ResultVar} {ts : List Nat} {F : List AV → Option AV} (hE : EnvC E P) (hP : PrOk P) (hf : P.funcs[g]? = some fn) (hb : fn.body = some c) (hnm : (fn.name == "runtime.NumGoroutine") = false) (hnt : fn.ntmps = nt) (hrs : fn.results.toList = rs)
    (hF : ∀ as r, wfs as → F as = some r → pureR r = true ∧ fnVC E nt rs ts c as r) : PCon P g F := by
  intro ok0 w as xs r h1 hg h2 h3 h4
  have hw := CVs_wf _ _ h4
  refine fn_con (ts := ts) (F := fun as => if wfs as then F as else none) hE hP hf hb hnm hnt hrs (fun as r h => ?_) ok0 w as xs r h1 hg (by show (if wfs as then F as else none) = _; rw [if_pos hw]; exact h2) h3 h4
  have h : (if wfs as then F as else none) = some r := h
  by_cases hw : wfs as
  · rw [if_pos hw] at h; exact hF as r hw h
  · rw [if_neg hw] at h; cases h

/-! ### Environments, function by function -/
def FnsOk (P : Program) (l : List (Nat × (List AV → Option AV))) : Prop := ∀ g F, lkF l g = some F → PCon P g F
def ItsOk (P : Program) (l : List (Nat × (Nat → (List Nat → Proc) → Proc))) : Prop := ∀ g I, lkI l g = some I → ICon P g I
theorem ItsOk.nil (P : Program) : ItsOk P [] := fun g F h => by cases h
theorem ItsOk.cons {P : Program} {l : List (Nat × (Nat → (List Nat → Proc) → Proc))} {g : Nat} {T : Nat → (List Nat → Proc) → Proc} (h1 : ICon P g T) (h2 : ItsOk P l) : ItsOk P ((g, T) :: l) := fun g' T' h => by
  simp only [lkI] at h
  cases hk : Nat.beq g g' with
  | true =>
    rw [hk] at h
    have := Nat.eq_of_beq_eq_true hk
    subst this
    have h : some T = some T' := h
    cases h; exact h1
  | false => rw [hk] at h; exact h2 g' T' h
def PrsOk (P : Program) (l : List (Nat × Proc)) : Prop := ∀ g T, lkP l g = some T → SCon P g T
theorem FnsOk.nil (P : Program) : FnsOk P [] := fun g F h => by cases h
theorem PrsOk.nil (P : Program) : PrsOk P [] := fun g F h => by cases h
theorem FnsOk.cons {P : Program} {l : List (Nat × (List AV → Option AV))} {g : Nat} {F : List AV → Option AV} (h1 : PCon P g F) (h2 : FnsOk P l) : FnsOk P ((g, F) :: l) := fun g' F' h => by
  simp only [lkF] at h
  cases hk : Nat.beq g g' with
  | true =>
    rw [hk] at h
    have := Nat.eq_of_beq_eq_true hk
    subst this
    have h : some F = some F' := h
    cases h; exact h1
  | false => rw [hk] at h; exact h2 g' F' h
theorem PrsOk.cons {P : Program} {l : List (Nat × Proc)} {g : Nat} {T : Proc} (h1 : SCon P g T) (h2 : PrsOk P l) : PrsOk P ((g, T) :: l) := fun g' T' h => by
  simp only [lkP] at h
  cases hk : Nat.beq g g' with
  | true =>
    rw [hk] at h
    have := Nat.eq_of_beq_eq_true hk
    subst this
    have h : some T = some T' := h
    cases h; exact h1
  | false => rw [hk] at h; exact h2 g' T' h
end Go.Proofs.YtejedlpnejjnbaaV
