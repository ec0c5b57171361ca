/- The operations of the VC evaluator that write nothing: what the machine does at them. -/
import Derived.Test.YtejedlpnejjnbaaVcC
import Derived.WalkKit
import Derived.WalkSpells
import Derived.WalkLawsBesides
set_option linter.unusedVariables false
set_option linter.unusedSimpArgs false
namespace Go.Proofs.YtejedlpnejjnbaaV
open Go.RowKit

/-! ### Types -/
def zcs : Ty → List Value
  | .int k => [.int k 0]
  | .bool => [.bool false]
  | .str => [.string ⟨#[]⟩]
  | .sl _ => [.slice none 0 0]
  | .unit => []
  | .pair a b => zcs a ++ zcs b
  | .arr n e => (List.replicate n (zcs e)).flatten
  | .opq 0 => [.pointer none]
  | .opq 1 => [.nilFunc]
  | .opq _ => [.nilIface]
def aggTy : Ty → Bool
  | .unit | .pair _ _ | .arr _ _ => true
  | _ => false
def zval (e : Ty) : Value := if aggTy e then .agg (zcs e).toArray else (zcs e).headD undef

/-- The block that an operation reads. -/
def loadB (a : Act) : Op → Option Nat
  | .load _ x => match a.eval x with
    | .pointer (some A) => some A.block
    | _ => none
  | _ => none
/-- It yields this in this world, and in each in which the block that it reads holds the same. -/
def Up (P : Program) (a : Act) (o : Oper) (z : Value) (w : World) : Prop := ∀ w', (∀ b, loadB a o.op = some b → b < w.heap.size → w'.heap[b]? = w.heap[b]?) → (execOp a.eval o).run P w' = .ok (.value z) w'
theorem Up.now {P : Program} {a : Act} {o : Oper} {z : Value} {w : World} (h : Up P a o z w) : (execOp a.eval o).run P w = .ok (.value z) w := h w (fun _ _ _ => rfl)
def TyBase0 (P : Program) (e : Ty) (t : TypeId) : Prop := ∃ i, P.info? t = some i ∧ i.size = e.size ∧ i.zero = some (zval e) ∧ i.bytes ≤ 32768

def TyBase (P : Program) (e : Ty) (t : TypeId) : Prop := TyBase0 P e t ∧ (aggTy e = true → P.eqGuardType P.depth t = false)

mutual
def TyOk (P : Program) : Ty → TypeId → Prop
  | .int k, t => TyBase P (.int k) t ∧ P.underlying t = some (.int k)
  | .bool, t => TyBase P .bool t ∧ P.underlying t = some .bool
  | .str, t => TyBase P .str t ∧ P.underlying t = some .string
  | .sl e, t => TyBase P (.sl e) t ∧ ∃ te, P.underlying t = some (.slice te) ∧ TyOk P e te
  | .arr n e, t => TyBase P (.arr n e) t ∧ ∃ te, P.underlying t = some (.array n te) ∧ TyOk P e te
  | .unit, t => TyBase P .unit t ∧ ∃ fs, P.underlying t = some (.struct fs) ∧ fs.toList = [] ∧ P.stoodInHeld t = false
  | .pair a b, t => TyBase P (.pair a b) t ∧ ∃ fs, P.underlying t = some (.struct fs) ∧ P.stoodInHeld t = false ∧
      ∃ f r, fs.toList = f :: r ∧ f.offset = 0 ∧ f.name ≠ "_" ∧ TyOk P a f.type ∧ FsOk P b r a.size
  | .opq z, t => TyBase P (.opq z) t ∧ ∃ d, P.underlying t = some d ∧ d.isRow = false ∧ (z = 0 → ∃ u, d = .pointer u) ∧ (z = 1 → ∃ a b c, d = .func a b c)
def FsOk (P : Program) : Ty → List Field → Nat → Prop
  | .pair a b, fs, off => ∃ f r, fs = f :: r ∧ f.offset = off ∧ f.name ≠ "_" ∧ TyOk P a f.type ∧ FsOk P b r (off + a.size)
  | .unit, fs, _ => fs = []
  | _, _, _ => False
end
theorem TyOk.base {P : Program} : ∀ {e : Ty} {t : TypeId}, TyOk P e t → TyBase0 P e t := by
  intro e t h; cases e <;> exact h.1.1
theorem TyOk.guard {P : Program} : ∀ {e : Ty} {t : TypeId}, TyOk P e t → aggTy e = true → P.eqGuardType P.depth t = false := by
  intro e t h; cases e <;> exact h.1.2
theorem TyOk.row {P : Program} : ∀ {e : Ty} {t : TypeId}, TyOk P e t → ∃ d, P.underlying t = some d ∧ d.isRow = aggTy e := by
  intro e t h
  cases e with
  | int k => exact ⟨_, h.2, rfl⟩
  | bool => exact ⟨_, h.2, rfl⟩
  | str => exact ⟨_, h.2, rfl⟩
  | sl e => obtain ⟨_, te, h2, _⟩ := h; exact ⟨_, h2, rfl⟩
  | arr n e => obtain ⟨_, te, h2, _⟩ := h; exact ⟨_, h2, rfl⟩
  | unit => obtain ⟨_, fs, h2, _⟩ := h; exact ⟨_, h2, rfl⟩
  | pair a b => obtain ⟨_, fs, h2, _⟩ := h; exact ⟨_, h2, rfl⟩
  | opq z => obtain ⟨_, d, h2, h3, _⟩ := h; exact ⟨_, h2, h3⟩

/-! ### Whole numbers -/
theorem wf_wrap (k : IntKind) (n : Int) : (Lit.int k (k.wrap n)).wf = true := by
  cases k <;> simp only [Lit.wf, IntKind.wrap, IntKind.min, IntKind.max, IntKind.bits, IntKind.signed] <;> simp <;> omega

theorem run_eqGuard_no {P : Program} (w : World) (op : BinOp) (t : TypeId) (x y : Operand) (a b : Value)
    (h : ∀ p q, ¬ (a = .agg p ∧ b = .agg q)) (h' : ¬ (a = .nilIface ∧ b = .nilIface)) : (eqGuard op t x y a b).run P w = .ok () w := by
  unfold eqGuard
  cases op <;> (try rfl) <;>
  · cases a <;> cases b <;> first | rfl | exact absurd ⟨rfl, rfl⟩ h' | exact absurd ⟨rfl, rfl⟩ (h _ _)

theorem tmod_wf (k : IntKind) (a b : Int) (ha : (Lit.int k a).wf = true) (hb : (Lit.int k b).wf = true) (h : b ≠ 0) : (Lit.int k (a.tmod b)).wf = true := by
  have h1 : (a.tmod b).natAbs ≤ a.natAbs := by rw [Int.natAbs_tmod]; exact Nat.mod_le _ _
  have h2 : 0 ≤ a → 0 ≤ a.tmod b := fun h => Int.tmod_nonneg b h
  have h3 : a ≤ 0 → a.tmod b ≤ 0 := fun h => by
    have := Int.tmod_nonneg b (show 0 ≤ -a by omega)
    rw [Int.neg_tmod] at this; omega
  cases k <;> simp [Lit.wf, IntKind.min, IntKind.max, IntKind.bits, IntKind.signed] at ha ⊢ <;> omega

theorem fdiv_wf (k : IntKind) (a : Int) (n : Nat) (ha : (Lit.int k a).wf = true) : (Lit.int k (a.fdiv (2 ^ n))).wf = true := by
  have hp : (0 : Int) < 2 ^ n := Int.pow_pos (by decide)
  have he : a.fdiv (2 ^ n) = a / 2 ^ n := Int.fdiv_eq_ediv_of_nonneg _ (Int.le_of_lt hp)
  rw [he]
  have h1 : 0 ≤ a → 0 ≤ a / 2 ^ n ∧ a / 2 ^ n ≤ a := fun h => ⟨Int.ediv_nonneg h (Int.le_of_lt hp), Int.ediv_le_self _ h⟩
  have h2 : a < 0 → a ≤ a / 2 ^ n ∧ a / 2 ^ n < 0 := fun h => by
    refine ⟨?_, Int.ediv_neg_of_neg_of_pos h hp⟩
    rw [Int.le_ediv_iff_mul_le hp]
    have : a * 2 ^ n ≤ a * 1 := Int.mul_le_mul_of_nonpos_left (by omega) (by omega)
    omega
  cases k <;> simp [Lit.wf, IntKind.min, IntKind.max, IntKind.bits, IntKind.signed] at ha ⊢ <;> omega

theorem run_intOp {P : Program} (w : World) (k : IntKind) (a b : Int) (op : BinOp) (t : TypeId) (C : AV → Prop) (c : Cx) (ha : (Lit.int k a).wf = true) (hb : (Lit.int k b).wf = true) (h : intOp k a b op C) :
    ∃ v x, C v ∧ (∀ w : World, (binOp op t (.int k a) (.int k b)).run P w = .ok x w) ∧ VR c v x := by
  cases op <;> simp only [intOp] at h
  case add => exact ⟨_, .int k (k.wrap (a + b)), h, fun w => by simp [binOp, Op.intArith], mkVR_int (wf_wrap _ _)⟩
  case sub => exact ⟨_, .int k (k.wrap (a - b)), h, fun w => by simp [binOp, Op.intArith], mkVR_int (wf_wrap _ _)⟩
  case mul => exact ⟨_, .int k (k.wrap (a * b)), h, fun w => by simp [binOp, Op.intArith], mkVR_int (wf_wrap _ _)⟩
  case quo => exact ⟨_, .int k (k.wrap (a.tdiv b)), h.2, fun w => by simp [binOp, Op.intDiv, h.1], mkVR_int (wf_wrap _ _)⟩
  case rem => exact ⟨_, .int k (a.tmod b), h.2, fun w => by simp [binOp, Op.intDiv, h.1], mkVR_int (tmod_wf k a b ha hb h.1)⟩
  case and => exact ⟨_, _, h, fun w => by simp [binOp, Op.intBits, bitsOp], mkVR_int (wf_wrap _ _)⟩
  case or => exact ⟨_, _, h, fun w => by simp [binOp, Op.intBits, bitsOp], mkVR_int (wf_wrap _ _)⟩
  case xor => exact ⟨_, _, h, fun w => by simp [binOp, Op.intBits, bitsOp], mkVR_int (wf_wrap _ _)⟩
  case andNot => exact ⟨_, _, h, fun w => by simp [binOp, Op.intBits, bitsOp], mkVR_int (wf_wrap _ _)⟩
  case eql => exact ⟨_, .bool (a == b), h, fun w => by simp [binOp, Op.intCmp], by rw [show (a == b) = decide (a = b) from rfl]; exact mkVR_bool _⟩
  case neq => exact ⟨_, .bool (a != b), h, fun w => by simp [binOp, Op.intCmp], by rw [show (a != b) = !decide (a = b) from rfl]; exact mkVR_bool _⟩
  case lss => exact ⟨_, .bool (decide (a < b)), h, fun w => by simp [binOp, Op.intCmp], mkVR_bool _⟩
  case leq => exact ⟨_, .bool (decide (a ≤ b)), h, fun w => by simp [binOp, Op.intCmp], mkVR_bool _⟩
  case gtr => exact ⟨_, .bool (decide (a > b)), h, fun w => by simp [binOp, Op.intCmp], mkVR_bool _⟩
  case geq => exact ⟨_, .bool (decide (a ≥ b)), h, fun w => by simp [binOp, Op.intCmp], mkVR_bool _⟩
  all_goals exact h.elim

theorem run_shiftOp {P : Program} (w : World) (k yk : IntKind) (a b : Int) (op : BinOp) (t : TypeId) (C : AV → Prop) (c : Cx) (ha : (Lit.int k a).wf = true) (h : shiftOp k a b op C) :
    ∃ v x, C v ∧ (∀ w : World, (binOp op t (.int k a) (.int yk b)).run P w = .ok x w) ∧ VR c v x := by
  cases op <;> simp only [shiftOp] at h
  case shl => exact ⟨_, _, h.2, fun w => by simp [binOp, Op.shift, show ¬ b < 0 by omega], mkVR_int (wf_wrap _ _)⟩
  case shr => exact ⟨_, _, h.2, fun w => by simp [binOp, Op.shift, show ¬ b < 0 by omega], mkVR_int (fdiv_wf _ _ _ ha)⟩
  all_goals exact h.elim

/-! ### The operations, one by one; R: the state tells the frame -/
section
variable {E : Env} {X : Fix} {ρ : Nat → Nat} {s : St} {a : Act} {w : World} {C : AV → Prop} {o : Oper}

theorem ex_move {x : Operand} (R : RR X ρ s a w) (ho : o.op = .move x ∨ o.op = .assign x) (h : C (opn s.fr x)) :
    ∃ v y, C v ∧ Up X.P a o y w ∧ VR (cx X ρ s.hp w) v y := by
  refine ⟨_, a.eval x, h, ?_, VR_opn R x⟩
  intro w' _
  rcases ho with ho | ho <;> simp [execOp, ho]

theorem ex_pick {c x y : Operand} (R : RR X ρ s a w) (ho : o.op = .pick c x y) (h : pv E s.hp (opn s.fr) (.pick c x y) C) :
    ∃ v z, C v ∧ Up X.P a o z w ∧ VR (cx X ρ s.hp w) v z := by
  simp only [pv] at h
  cases hc : opn s.fr c <;> rw [hc] at h <;> try exact h.elim
  rename_i t
  have ec : a.eval c = .bool t := VR_bool (by have := VR_opn R c; rw [hc] at this; exact this)
  refine ⟨_, if t then a.eval x else a.eval y, h, fun w' _ => by simp [execOp, ho, ec, asBool], ?_⟩
  have hx := VR_opn R x
  have hy := VR_opn R y
  unfold pickAV
  split
  · rename_i p q e1 e2
    rw [e1] at hx; rw [e2] at hy
    have := VR_bool hx; have h2 := VR_bool hy
    rw [this, h2]; cases t <;> exact mkVR_bool _
  · cases t
    · exact hy
    · exact hx

theorem ex_nilCheck {x : Operand} (R : RR X ρ s a w) (ho : o.op = .nilCheck x) (h : pv E s.hp (opn s.fr) (.nilCheck x) C) :
    ∃ v z, C v ∧ Up X.P a o z w ∧ VR (cx X ρ s.hp w) v z := by
  simp only [pv] at h
  have hx := VR_opn R x
  cases hc : opn s.fr x <;> rw [hc] at h hx <;> try exact h.elim
  · obtain ⟨off, t, _, e⟩ := VR_ptr hx
    exact ⟨_, a.eval x, h, fun w' _ => by simp [execOp, ho, e], hx⟩
  · obtain ⟨b, off, e, _⟩ := VR_rop hx
    exact ⟨_, a.eval x, h, fun w' _ => by simp [execOp, ho, e], hx⟩
  · rename_i f as ds
    cases f <;> try exact h.elim
    obtain ⟨a', d', e, _⟩ := VR_fn hx
    exact ⟨_, a.eval x, h, fun w' _ => by simp [execOp, ho, e], hx⟩

theorem ex_unOp {op : UnOp} {t : TypeId} {x : Operand} (R : RR X ρ s a w) (ho : o.op = .unOp op t x) (h : pv E s.hp (opn s.fr) (.unOp op t x) C) :
    ∃ v z, C v ∧ Up X.P a o z w ∧ VR (cx X ρ s.hp w) v z := by
  simp only [pv] at h
  have hx := VR_opn R x
  cases hc : opn s.fr x <;> rw [hc] at h hx <;> cases op <;> try exact h.elim
  · have e := (VR_int hx).1
    exact ⟨_, _, h, fun w' _ => by simp [execOp, ho, e, Op.unary, Op.intArith], mkVR_int (wf_wrap _ _)⟩
  · have e := (VR_int hx).1
    exact ⟨_, _, h, fun w' _ => by simp [execOp, ho, e, Op.unary, Op.intBits, bitsOp], mkVR_int (wf_wrap _ _)⟩
  · have e := VR_bool hx
    exact ⟨_, _, h, fun w' _ => by simp [execOp, ho, e, Op.unary], mkVR_bool _⟩

theorem ex_extract {x : Operand} {i : Nat} (R : RR X ρ s a w) (ho : o.op = .extract x i) (h : pv E s.hp (opn s.fr) (.extract x i) C) :
    ∃ v z, C v ∧ Up X.P a o z w ∧ VR (cx X ρ s.hp w) v z := by
  simp only [pv] at h
  have hx := VR_opn R x
  cases hc : opn s.fr x <;> rw [hc] at h hx <;> try exact h.elim
  rename_i l
  obtain ⟨xs, e1, e2⟩ := hx
  have key : ∀ (l : List AV) (ys : List Value) (i : Nat) (v : AV), CVs (cx X ρ s.hp w) l ys → l[i]? = some v → ∃ y, ys[i]? = some y ∧ VR (cx X ρ s.hp w) v y := by
    intro l
    induction l with
    | nil => intro ys i v _ h; simp at h
    | cons u l ih =>
      intro ys i v hv h
      obtain ⟨x, ys, rfl, h1, h2, h3⟩ := hv
      cases i with
      | zero =>
        simp at h; subst h
        refine ⟨x, rfl, ?_⟩
        cases u <;> first | exact ⟨h1, h2⟩ | exact trivial | exact h1.elim
      | succ i => exact ih ys i v h3 (by simpa using h)
  have h : (match l[i]? with | some v => C v | none => False) := h
  cases hl : l[i]? with
  | none => rw [hl] at h; exact h.elim
  | some v =>
    rw [hl] at h
    obtain ⟨y, h1, h2⟩ := key l _ i v e2 hl
    refine ⟨v, y, h, ?_, h2⟩
    have h1' : xs[i]? = some y := by simpa using h1
    intro w' _
    simp [execOp, ho, e1, Instr.extract, h1']

theorem ex_makeFunc {f : Fn} {fs cs : Array Operand} (R : RR X ρ s a w) (ho : o.op = .makeFunc f fs cs) (h : pv E s.hp (opn s.fr) (.makeFunc f fs cs) C) :
    ∃ v z, C v ∧ Up X.P a o z w ∧ VR (cx X ρ s.hp w) v z := by
  simp only [pv] at h
  have key : ∀ l : List Operand, okVs (l.map (opn s.fr)) = true → CVs (cx X ρ s.hp w) (l.map (opn s.fr)) (l.map a.eval) := by
    intro l
    induction l with
    | nil => intro _; rfl
    | cons x l ih =>
      intro hl
      simp only [List.map_cons, okVs, Bool.and_eq_true] at hl
      refine ⟨_, _, rfl, ?_, ?_, ih hl.2⟩ <;>
      · have h1 := hl.1
        have hx := VR_opn R x
        generalize opn s.fr x = v at hx h1
        cases v <;> first | exact hx.1 | exact hx.2 | cases h1
  cases hk : (okVs (fs.toList.map (opn s.fr)) && okVs (cs.toList.map (opn s.fr))) with
  | false => rw [hk] at h; exact h.elim
  | true =>
  rw [hk] at h
  rw [Bool.and_eq_true] at hk
  refine ⟨_, .func f (fs.map a.eval) (cs.map a.eval), h, fun w' _ => by simp [execOp, ho, Instr.makeFunc], ⟨⟨_, _, rfl, ?_, ?_⟩, rfl⟩⟩
  · have := key fs.toList hk.1; simpa using this
  · have := key cs.toList hk.2; simpa using this
end
end Go.Proofs.YtejedlpnejjnbaaV
