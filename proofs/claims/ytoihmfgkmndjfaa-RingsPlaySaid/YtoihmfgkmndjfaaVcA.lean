/- The VC evaluator: abstract values, abstract blocks, and what an operation, a region, a piece of code does to them. No theorem about Go stands here. -/
import Derived.Calls
import Derived.Tactics
import GoSem.Claim
import Derived.Orders
import Derived.Laws.BytesArg
set_option linter.unusedVariables false
set_option linter.unusedSimpArgs false
namespace Go.Proofs.YtoihmfgkmndjfaaV

/-! ### Types of data -/
inductive Ty where
  | int (k : IntKind)
  | bool
  | str
  | unit
  | pair (a b : Ty)
  | sl (e : Ty)
  | arr (n : Nat) (e : Ty)
  | opq (z : Nat)
  deriving DecidableEq, Inhabited

@[reducible] def Ty.den : Ty → Type
  | .int _ => Int
  | .bool => Bool
  | .str => ByteArray
  | .unit => Unit
  | .pair a b => a.den × b.den
  | .sl e => List e.den
  | .arr _ e => List e.den
  | .opq _ => Unit

/-- How many cells. -/
def Ty.size : Ty → Nat
  | .int _ | .bool | .str | .sl _ | .opq _ => 1
  | .unit => 0
  | .pair a b => a.size + b.size
  | .arr n e => n * e.size

/-- At most so many bytes; at least so many. -/
def Ty.ub : Ty → Nat
  | .int _ | .bool => 8
  | .str | .opq _ => 16
  | .sl _ => 24
  | .unit => 0
  | .pair a b => a.ub + b.ub
  | .arr n e => n * e.ub
def Ty.lb : Ty → Nat
  | .int .i64 | .int .u64 => 8
  | .str => 16
  | .sl _ => 24
  | .pair a b => a.lb + b.lb
  | .arr n e => n * e.lb
  | _ => 0

def Ty.dfl : (t : Ty) → t.den
  | .int _ => (0 : Int)
  | .bool => false
  | .str => (⟨#[]⟩ : ByteArray)
  | .unit => ()
  | .pair a b => (a.dfl, b.dfl)
  | .sl e => ([] : List e.den)
  | .arr n e => List.replicate n e.dfl
  | .opq _ => ()

/-! ### Values -/
inductive Step where
  | fld (i : Nat)
  | at (i : Int)

inductive AV where
  | int (k : IntKind) (n : Int)
  | bool (b : Bool)
  | str (s : ByteArray)
  | ro (e : Ty) (xs : List e.den)
  | arr (n : Nat) (e : Ty) (xs : List e.den)
  | agg (l : List AV)
  | own (id : Nat)
  | ptr (id : Nat) (p : List Step)
  | vsl (id n : Nat)
  | vw (id : Nat) (lo hi : Int)
  | rop (e : Ty) (x : e.den)
  | raw (b : Nat) (w : World)
  | con (v : Value)
  | fn (f : Fn) (first caps : List AV)
  | tup (l : List AV)
  | und
  | dead

/-- A block of the call's own: a variable (its type, what it holds), or a row of elements; fz: it isn't written any more. -/
inductive Blk where
  | none
  | var (e : Ty) (v : AV) (fz : Bool)
  | row (te : Nat) (e : Ty) (xs : List e.den) (fz : Bool)

abbrev Ks : Type := List Nat × Nat
/-- ks: for a call that is looked into: references to these blocks are gone from the callers' frames; and, of an iterator: by which jump the round that it called last was left (0: by none). none: there is no caller. -/
structure St where
  fr : List (Nat × AV)
  hp : List (Nat × Blk)
  ks : Option Ks

def lk : List (Nat × AV) → Nat → AV
  | [], _ => .dead
  | (k, v) :: t, d => cond (Nat.beq k d) v (lk t d)
def lkb : List (Nat × Blk) → Nat → Blk
  | [], _ => .none
  | (k, v) :: t, d => cond (Nat.beq k d) v (lkb t d)

def St.put (s : St) (d : Option Nat) (v : AV) : St :=
  match d with
  | some d => ⟨(d, v) :: s.fr, s.hp, s.ks⟩
  | none => s
def St.putb (s : St) (d : Nat) (b : Blk) : St := ⟨s.fr, (d, b) :: s.hp, s.ks⟩

def ofVal : Value → AV
  | .bool b => .bool b
  | .int k n => cond (Lit.int k n).wf (.int k n) .dead
  | .string s => cond (Nat.ble s.size 9223372036854775807) (.str s) .dead
  | .slice none 0 0 => .con (.slice none 0 0)
  | .pointer none => .con (.pointer none)
  | .nilFunc => .con .nilFunc
  | .nilIface => .con .nilIface
  | _ => .dead

/-- The type of strings.Builder, by its number. -/
def BT : Nat := 132
/-- The type of bytes; '.opq 4' marks a pointer to one. -/
def UB : Nat := 5
/-- '.opq 3' marks it. -/
def TagOk : Ty → Nat → Prop
  | .pair (.opq 3) _, T => T = BT
  | _, _ => True
def tagB : Ty → Nat → Bool
  | .pair (.opq 3) _, T => Nat.beq T BT
  | _, _ => true
def tagT : List (Nat × Ty) → Bool
  | [] => true
  | (k, e) :: t => tagB e k && tagT t
/-- Package-level variables that hold data, and aren't written: what they hold. -/
def GL : List (Nat × Sigma Ty.den) := []
def lkG : List (Nat × Sigma Ty.den) → Nat → Option (Sigma Ty.den)
  | [], _ => none
  | (k, v) :: t, d => cond (Nat.beq k d) (some v) (lkG t d)
def opn (fr : List (Nat × AV)) : Operand → AV
  | .tmp t => lk fr t
  | .const v => ofVal v
  | .global g => match lkG GL g with
    | some ⟨e, x⟩ => .rop e x
    | none => .dead
  | .func f => .fn (.func f) [] []

/-! ### Typed data as values, and back -/
mutual
def unpack : (e : Ty) → e.den → AV
  | .int k, n => .int k n
  | .bool, b => .bool b
  | .str, s => .str s
  | .unit, _ => .agg []
  | .pair a b, x => .agg (unpack a x.1 :: fieldsOf b x.2)
  | .sl e, xs => .ro e xs
  | .arr n e, xs => .arr n e xs
  | .opq _, _ => .dead
def fieldsOf : (e : Ty) → e.den → List AV
  | .pair a b, x => unpack a x.1 :: fieldsOf b x.2
  | _, _ => []
end

def castL {a b : Ty} (h : a = b) (xs : List a.den) : List b.den := h ▸ xs

mutual
/-- A value as typed data; hp: for slices over blocks of the call's own. -/
def pack (hp : List (Nat × Blk)) : (e : Ty) → AV → Option e.den
  | .int k, .int k' n => if k' = k then some n else none
  | .bool, .bool b => some b
  | .str, .str s => some s
  | .unit, .agg [] => some ()
  | .pair a b, .agg (v :: l) => match pack hp a v with
    | some x => match packs hp b l with
      | some y => some (x, y)
      | none => none
    | none => none
  | .sl e, .ro e' xs => if h : e' = e then some (castL h xs) else none
  | .sl e, .con (.slice none 0 0) => some []
  | .sl e, .own id => match lkb hp id with
    | .row _ e' xs true => if h : e' = e then some (castL h xs) else none
    | _ => none
  | .arr n e, .arr n' e' xs => if h : e' = e then (if n' = n then some (castL h xs) else none) else none
  | _, _ => none
def packs (hp : List (Nat × Blk)) : (e : Ty) → List AV → Option e.den
  | .pair a b, v :: l => match pack hp a v with
    | some x => match packs hp b l with
      | some y => some (x, y)
      | none => none
    | none => none
  | .unit, [] => some ()
  | _, _ => none
end

/-- A slice's (or a text's) elements, for whoever copies them. -/
def rowOf (hp : List (Nat × Blk)) (e : Ty) : AV → Option (List e.den)
  | .ro e' xs => if h : e' = e then some (castL h xs) else none
  | .con (.slice none 0 0) => some []
  | .own id => match lkb hp id with
    | .row _ e' xs _ => if h : e' = e then some (castL h xs) else none
    | _ => none
  | .vw id l hi => match lkb hp id with
    | .row _ e' xs _ => if h : e' = e then some ((castL h xs).take hi.toNat |>.drop l.toNat) else none
    | _ => none
  | _ => none

/-- A text's bytes, for whoever appends them. -/
def strOf (e : Ty) : AV → Option (List e.den)
  | .str s => if h : Ty.int .u8 = e then some (castL h (s.data.toList.map fun b => (b.toNat : Int))) else none
  | _ => none
/-- What is appended, by its type. -/
def srcOf (hp : List (Nat × Blk)) (e : Ty) (t : Option Ty) (v : AV) : Option (List e.den) :=
  match t with
  | some (.sl e2) => cond (decide (e2 = e)) (rowOf hp e v) none
  | some .str => strOf e v
  | _ => none

/-- A type's zero value. -/
def zeroAV : (e : Ty) → AV
  | .int k => .int k 0
  | .bool => .bool false
  | .str => .str ⟨#[]⟩
  | .sl _ => .con (.slice none 0 0)
  | .unit => .agg []
  | .pair a b => .agg (zeroAV a :: zeroFs b)
  | .arr n e => .arr n e (List.replicate n e.dfl)
  | .opq 0 => .con (.pointer none)
  | .opq 1 => .con .nilFunc
  | .opq 3 => .con (.pointer none)
  | .opq 4 => .con (.pointer none)
  | .opq _ => .dead
where zeroFs : Ty → List AV
  | .pair a b => zeroAV a :: zeroFs b
  | _ => []

/-! ### Paths -/
def getA : AV → List Step → Option AV
  | v, [] => some v
  | .agg l, .fld i :: p => match l[i]? with
    | some v => getA v p
    | none => none
  | .arr n e xs, .at i :: p => getA (unpack e (xs.getD i.toNat e.dfl)) p
  | _, _ => none
def getB : Blk → List Step → Option AV
  | .var _ v _, p => getA v p
  | .row _ e xs _, .at i :: p => getA (unpack e (xs.getD i.toNat e.dfl)) p
  | _, _ => none
def setA (hp : List (Nat × Blk)) : AV → List Step → AV → Option AV
  | _, [], w => some w
  | .agg l, .fld i :: p, w => match l[i]? with
    | some v => match setA hp v p w with
      | some v' => some (.agg (l.set i v'))
      | none => none
    | none => none
  | .arr n e xs, .at i :: p, w => match setA hp (unpack e (xs.getD i.toNat e.dfl)) p w with
    | some v' => match pack hp e v' with
      | some y => some (.arr n e (xs.set i.toNat y))
      | none => none
    | none => none
  | _, _, _ => none
def setB (hp : List (Nat × Blk)) : Blk → List Step → AV → Option Blk
  | .var e v false, p, w => match setA hp v p w with
    | some v' => some (.var e v' false)
    | none => none
  | .row te e xs false, .at i :: p, w => match setA hp (unpack e (xs.getD i.toNat e.dfl)) p w with
    | some v' => match pack hp e v' with
      | some y => some (.row te e (xs.set i.toNat y) false)
      | none => none
    | none => none
  | _, _, _ => none

/-- The type at a path's end, whatever the indices. -/
def ftyT : Ty → Nat → Option Ty
  | .pair a _, 0 => some a
  | .pair _ b, i + 1 => ftyT b i
  | _, _ => none
def ptyT : Ty → List Step → Option Ty
  | t, [] => some t
  | t, .fld i :: p => match ftyT t i with
    | some u => ptyT u p
    | none => none
  | .arr _ e, .at _ :: p => ptyT e p
  | _, .at _ :: _ => none
def ptyB : Blk → List Step → Option Ty
  | .var e _ _, p => ptyT e p
  | .row _ e _ _, .at _ :: p => ptyT e p
  | _, _ => none
/-- A field of typed data. -/
def prj : (e : Ty) → e.den → Nat → Option (Sigma Ty.den)
  | .pair a _, x, 0 => some ⟨a, x.1⟩
  | .pair _ b, x, i + 1 => prj b x.2 i
  | _, _, _ => none

/-! ### Does a value fit a type; what leads to a block -/
mutual
def fits : Ty → AV → Bool
  | .int k, .int k' _ => k == k'
  | .bool, .bool _ => true
  | .str, .str _ => true
  | .sl e, .ro e' _ => decide (e' = e)
  | .sl _, .con (.slice none 0 0) => true
  | .sl _, .own _ => true
  | .sl _, .vsl _ _ => true
  | .sl _, .vw _ _ _ => true
  | .unit, .agg [] => true
  | .pair a b, .agg (v :: l) => fits a v && fitss b l
  | .arr n e, .arr n' e' _ => n' == n && decide (e' = e)
  | .opq _, .ptr _ _ => true
  | .opq _, .fn _ _ _ => true
  | .opq _, .con _ => true
  | _, _ => false
def fitss : Ty → List AV → Bool
  | .pair a b, v :: l => fits a v && fitss b l
  | .unit, [] => true
  | _, _ => false
end
mutual
/-- No reference to this block any more. -/
def kill (id : Nat) : AV → AV
  | .own i => cond (Nat.beq i id) .dead (.own i)
  | .ptr i p => cond (Nat.beq i id) .dead (.ptr i p)
  | .vsl i n => cond (Nat.beq i id) .dead (.vsl i n)
  | .vw i l h => cond (Nat.beq i id) .dead (.vw i l h)
  | .agg l => .agg (kills id l)
  | .tup l => .tup (kills id l)
  | .fn f a c => .fn f (kills id a) (kills id c)
  | .int k n => .int k n
  | .bool b => .bool b
  | .str s => .str s
  | .ro e xs => .ro e xs
  | .arr n e xs => .arr n e xs
  | .rop e x => .rop e x
  | .raw e x => .raw e x
  | .con v => .con v
  | .und => .und
  | .dead => .dead
def kills (id : Nat) : List AV → List AV
  | [] => []
  | v :: l => kill id v :: kills id l
end
mutual
/-- The block j by another number. -/
def ren (j id : Nat) : AV → AV
  | .own i => cond (Nat.beq i j) (.own id) (.own i)
  | .ptr i p => cond (Nat.beq i j) (.ptr id p) (.ptr i p)
  | .vsl i n => cond (Nat.beq i j) (.vsl id n) (.vsl i n)
  | .vw i l h => cond (Nat.beq i j) (.vw id l h) (.vw i l h)
  | .agg l => .agg (rens j id l)
  | .tup l => .tup (rens j id l)
  | .fn f a c => .fn f (rens j id a) (rens j id c)
  | .int k n => .int k n
  | .bool b => .bool b
  | .str s => .str s
  | .ro e xs => .ro e xs
  | .arr n e xs => .arr n e xs
  | .rop e x => .rop e x
  | .raw e x => .raw e x
  | .con v => .con v
  | .und => .und
  | .dead => .dead
def rens (j id : Nat) : List AV → List AV
  | [] => []
  | v :: l => ren j id v :: rens j id l
end
def renB (j id : Nat) : Blk → Blk
  | .var e v f => .var e (ren j id v) f
  | .row te e xs f => .row te e xs f
  | .none => .none
def renF (j id : Nat) : List (Nat × AV) → List (Nat × AV)
  | [] => []
  | (d, v) :: l => (d, ren j id v) :: renF j id l
def renH (j id : Nat) : List (Nat × Blk) → List (Nat × Blk)
  | [] => []
  | (d, b) :: l => (d, renB j id b) :: renH j id l
def killF (id : Nat) : List (Nat × AV) → List (Nat × AV)
  | [] => []
  | (d, v) :: l => (d, kill id v) :: killF id l
def killH (id : Nat) : List (Nat × Blk) → List (Nat × Blk)
  | [] => []
  | (d, .var e v f) :: l => (d, .var e (kill id v) f) :: killH id l
  | (d, b) :: l => (d, b) :: killH id l
def consK (id : Nat) : Option Ks → Option Ks
  | none => none
  | some (l, p) => some (id :: l, p)
def St.kill (s : St) (id : Nat) : St := ⟨killF id s.fr, killH id s.hp, consK id s.ks⟩
/-- The block j gets another number, which no block has then. -/
def renS (j id : Nat) (s : St) : St := ⟨renF j id s.fr, (id, renB j id (lkb s.hp j)) :: (j, .none) :: renH j id s.hp, consK j s.ks⟩
def mvTo (j id : Nat) (s : St) : St := cond (Nat.beq j id) s (renS j id ((s.kill id).putb id .none))
/-- The same, where there is such a block. -/
def St.clr (s : St) (id : Nat) : St :=
  match lkb s.hp id with
  | .none => s
  | _ => s.kill id
def killAll : List Nat → AV → AV
  | [], v => v
  | k :: l, v => kill k (killAll l v)
def killAllF : List Nat → List (Nat × AV) → List (Nat × AV)
  | [], fr => fr
  | k :: l, fr => killF k (killAllF l fr)

/-- Own slices by their content, for whom reads alone. -/
def norm (hp : List (Nat × Blk)) : AV → AV
  | .own id => match lkb hp id with
    | .row _ e xs _ => .ro e xs
    | _ => .dead
  | .agg l => .agg (norms l)
  | .tup l => .tup (norms l)
  | v => v
where norms : List AV → List AV
  | [] => []
  | v :: l => norm hp v :: norms l
def owns : AV → List Nat
  | .own id => [id]
  | .agg l => ownss l
  | .tup l => ownss l
  | .fn _ a c => ownss a ++ ownss c
  | _ => []
where ownss : List AV → List Nat
  | [] => []
  | v :: l => owns v ++ ownss l
/-- May it lead into memory that it shares. -/
def leads : AV → Bool
  | .ro _ _ | .rop _ _ | .raw _ _ | .arr _ _ _ | .fn _ _ _ | .own _ | .ptr _ _ | .vsl _ _ | .vw _ _ _ | .dead => true
  | .agg l => leadss l
  | .tup l => leadss l
  | _ => false
where leadss : List AV → Bool
  | [] => false
  | v :: l => leads v || leadss l
/-- What a function that is called by its contract may be given, and may give back. -/
def pureAV : AV → Bool
  | .int _ _ | .bool _ | .str _ | .ro _ _ | .arr _ _ _ | .con _ => true
  | .agg l => pures l
  | .fn _ a c => pures a && pures c
  | _ => false
where pures : List AV → Bool
  | [] => true
  | v :: l => pureAV v && pures l
def pureR : AV → Bool
  | .tup l => pureAV.pures l
  | v => pureAV v
def fzB : Blk → Blk
  | .row te e xs _ => .row te e xs true
  | .var e v _ => .var e v true
  | .none => .none
def fzs (hp : List (Nat × Blk)) : List Nat → List (Nat × Blk)
  | [] => hp
  | id :: l => fzs ((id, fzB (lkb hp id)) :: hp) l

/-- Rows that are written no more. -/
def allFz (hp : List (Nat × Blk)) : List Nat → Bool
  | [] => true
  | id :: l => (match lkb hp id with | .row _ _ _ true => true | _ => false) && allFz hp l

def plainTy : Ty → Bool
  | .opq _ => false
  | .pair a b => plainTy a && plainTy b
  | .arr _ e => plainTy e
  | _ => true
def zok : Ty → Bool
  | .pair a b => zok a && zok b
  | .arr _ e => plainTy e
  | _ => true

/-! ### Operations -/
/-- What a function does that is looked into at its call: where its blocks' numbers begin; the blocks; the arguments; for whom it returns. -/
def Proc : Type := Nat → List (Nat × Blk) → List AV → (List (Nat × Blk) → Option Ks → AV → Prop) → Prop
mutual
/-- In which order: one by one; or whichever comes, each with its own rest. -/
inductive Ord where
  | nil
  | one (i : Nat) (r : Ord)
  | alt (l : Alts)
inductive Alts where
  | nil
  | cons (i : Nat) (r : Ord) (l : Alts)
end
def Alts.ids : Alts → List Nat
  | .nil => []
  | .cons i _ l => i :: l.ids
structure Env where
  off : Nat
  nt : Nat
  et : List (Nat × Nat)
  tt : List (Nat × Ty)
  fns : List (Nat × (List AV → Option AV))
  prs : List (Nat × Proc)
  ords : List (Nat × Ord)
  keep : List (Nat × List Nat)
  yl : Option (Nat × (List Nat → Proc))
  its : List (Nat × (Nat → (List Nat → Proc) → Proc))
/-- The same for another call (by name: a term that isn't copied field by field). -/
def Env.for (E : Env) (off nt : Nat) : Env := { E with off := off, nt := nt }
def Env.noY (E : Env) : Env := { E with yl := none }
def Env.yld (E : Env) (l : Nat) (Y : List Nat → Proc) : Env := { E with yl := some (l, Y) }
def lkI : List (Nat × (Nat → (List Nat → Proc) → Proc)) → Nat → Option (Nat → (List Nat → Proc) → Proc)
  | [], _ => none
  | (k, v) :: t, d => cond (Nat.beq k d) (some v) (lkI t d)
/-- An evaluation stops here. -/
def eqP (l l' : Nat) (A : Prop) : Prop := l = l' ∧ A
theorem eqP_mk {l : Nat} {A : Prop} (h : A) : eqP l l A := ⟨rfl, h⟩
theorem eqP_out {l l' : Nat} {A : Prop} (h : eqP l l' A) : l = l' ∧ A := h
attribute [irreducible] eqP
def lkO : List (Nat × List Nat) → Nat → Option (List Nat)
  | [], _ => none
  | (k, v) :: t, d => cond (Nat.beq k d) (some v) (lkO t d)
def lkR : List (Nat × Ord) → Nat → Option Ord
  | [], _ => none
  | (k, v) :: t, d => cond (Nat.beq k d) (some v) (lkR t d)
def lkP : List (Nat × Proc) → Nat → Option Proc
  | [], _ => none
  | (k, v) :: t, d => cond (Nat.beq k d) (some v) (lkP t d)
def lkE : List (Nat × Nat) → Nat → Option Nat
  | [], _ => none
  | (k, v) :: t, d => cond (Nat.beq k d) (some v) (lkE t d)
def lkT : List (Nat × Ty) → Nat → Option Ty
  | [], _ => none
  | (k, v) :: t, d => cond (Nat.beq k d) (some v) (lkT t d)
def lkF : List (Nat × (List AV → Option AV)) → Nat → Option (List AV → Option AV)
  | [], _ => none
  | (k, v) :: t, d => cond (Nat.beq k d) (some v) (lkF t d)

def bitsOp (op : BinOp) (k : IntKind) (x y : Int) : Int :=
  let a := BitVec.ofInt k.bits x
  let b := BitVec.ofInt k.bits y
  match op with
  | .and => k.wrap (a &&& b).toNat
  | .or => k.wrap (a ||| b).toNat
  | .xor => k.wrap (a ^^^ b).toNat
  | _ => k.wrap (a &&& ~~~b).toNat

def intOp (k : IntKind) (a b : Int) : BinOp → (AV → Prop) → Prop
  | .add, c => c (.int k (k.wrap (a + b)))
  | .sub, c => c (.int k (k.wrap (a - b)))
  | .mul, c => c (.int k (k.wrap (a * b)))
  | .quo, c => b ≠ 0 ∧ c (.int k (k.wrap (a.tdiv b)))
  | .rem, c => b ≠ 0 ∧ c (.int k (a.tmod b))
  | .and, c => c (.int k (bitsOp .and k a b))
  | .or, c => c (.int k (bitsOp .or k a b))
  | .xor, c => c (.int k (bitsOp .xor k a b))
  | .andNot, c => c (.int k (bitsOp .andNot k a b))
  | .eql, c => c (.bool (decide (a = b)))
  | .neq, c => c (.bool (!decide (a = b)))
  | .lss, c => c (.bool (decide (a < b)))
  | .leq, c => c (.bool (decide (a ≤ b)))
  | .gtr, c => c (.bool (decide (a > b)))
  | .geq, c => c (.bool (decide (a ≥ b)))
  | _, _ => False
def shiftOp (k : IntKind) (a b : Int) : BinOp → (AV → Prop) → Prop
  | .shl, c => 0 ≤ b ∧ c (.int k (k.wrap (a * 2 ^ min b.toNat k.bits)))
  | .shr, c => 0 ≤ b ∧ c (.int k (a.fdiv (2 ^ min b.toNat k.bits)))
  | _, _ => False

mutual
def eqAV : AV → AV → Option Bool
  | .int k a, .int k' b => if k = k' then some (decide (a = b)) else none
  | .bool a, .bool b => some (a == b)
  | .arr n (.int k) xs, .arr n' (.int k') ys => if k = k' ∧ n = n' then some (decide ((xs : List Int) = (ys : List Int))) else none
  | .agg l, .agg l' => eqAVs l l'
  | _, _ => none
def eqAVs : List AV → List AV → Option Bool
  | [], [] => some true
  | a :: l, b :: l' => match eqAV a b, eqAVs l l' with
    | some p, some q => some (p && q)
    | _, _ => none
  | _, _ => none
end

def depthT : Ty → Nat
  | .pair a b => max (depthT a + 1) (depthT b)
  | .arr _ e => depthT e + 1
  | _ => 0
/-- '==' of structs and arrays of one type. -/
def eqOp (t : Option Ty) (a b : AV) (k : Bool → Prop) : Prop :=
  match t, eqAV a b with
  | some e, some r => cond (fits e a && fits e b && Nat.ble (depthT e) 100) (k r) False
  | _, _ => False

def pickAV (t : Bool) : AV → AV → AV
  | .bool p, .bool q => .bool (cond t p q)
  | a, b => cond t a b

def boolOp (p q : Bool) : BinOp → (AV → Prop) → Prop
  | .eql, k => k (.bool (p == q))
  | .neq, k => k (.bool (!(p == q)))
  | _, _ => False
def strOp (p q : ByteArray) : BinOp → (AV → Prop) → Prop
  | .add, k => p.size + q.size ≤ 140737488355328 ∧ k (.str (p ++ q))
  | .eql, k => k (.bool (p.toList == q.toList))
  | .neq, k => k (.bool (!(p.toList == q.toList)))
  | _, _ => False
def isSl : Option Ty → Bool
  | some (.sl _) => true
  | _ => false
def isFnT : Option Ty → Bool
  | some (.opq 1) => true
  | _ => false
def isPt : Option Ty → Bool
  | some (.opq 0) => true
  | _ => false
def binAV (t : Option Ty) (op : BinOp) : AV → AV → (AV → Prop) → Prop
  | .int ka m, .int kb n, k => match op with
    | .shl => shiftOp ka m n .shl k
    | .shr => shiftOp ka m n .shr k
    | op => cond (decide (ka = kb)) (intOp ka m n op k) False
  | .bool p, .bool q, k => match t with
    | some .bool => boolOp p q op k
    | _ => False
  | .str p, .str q, k => strOp p q op k
  | .agg l, .agg l', k => match op with
    | .eql => eqOp t (.agg l) (.agg l') fun r => k (.bool r)
    | .neq => eqOp t (.agg l) (.agg l') fun r => k (.bool (!r))
    | _ => False
  | .arr n e xs, .arr n' e' ys, k => match op with
    | .eql => eqOp t (.arr n e xs) (.arr n' e' ys) fun r => k (.bool r)
    | .neq => eqOp t (.arr n e xs) (.arr n' e' ys) fun r => k (.bool (!r))
    | _ => False
  | .ro _ xs, .con (.slice none 0 0), k => cond (isSl t) (match op with
    | .eql => ∀ b : Bool, (xs ≠ [] → b = false) → k (.bool b)
    | .neq => ∀ b : Bool, (xs ≠ [] → b = true) → k (.bool b)
    | _ => False) False
  | .con (.slice none 0 0), .con (.slice none 0 0), k => cond (isSl t) (match op with
    | .eql => k (.bool true)
    | .neq => k (.bool false)
    | _ => False) False
  | .ptr _ _, .con (.pointer none), k => cond (isPt t) (match op with
    | .eql => k (.bool false)
    | .neq => k (.bool true)
    | _ => False) False
  | .con (.pointer none), .con (.pointer none), k => cond (isPt t) (match op with
    | .eql => k (.bool true)
    | .neq => k (.bool false)
    | _ => False) False
  | .fn _ _ _, .con .nilFunc, k => cond (isFnT t) (match op with
    | .eql => k (.bool false)
    | .neq => k (.bool true)
    | _ => False) False
  | _, _, _ => False

def lenTy : Ty → Bool
  | .sl _ | .str => true
  | .arr n _ => Nat.ble n 65536
  | _ => false
/-- How long a slice, a text, an array is. -/
def lenAV (hp : List (Nat × Blk)) : AV → Option Int
  | .ro _ xs => some xs.length
  | .own id => match lkb hp id with
    | .row _ _ xs _ => some xs.length
    | _ => none
  | .con (.slice none 0 0) => some 0
  | .str s => some s.size
  | .arr n _ _ => some n
  | .vsl _ n => some n
  | .vw _ l h => some (h - l)
  | _ => none

def okVs : List AV → Bool
  | [] => true
  | v :: l => (match v with | .tup _ | .und | .dead => false | _ => true) && okVs l

def putParts (e : Ty) : List AV → List (Nat × AV) → Option (List AV)
  | l, [] => some l
  | l, (i, v) :: r => match ftyT e i, l[i]? with
    | some t, some _ => cond (fits t v) (putParts e (l.set i v) r) none
    | _, _ => none
def arrParts (hp : List (Nat × Blk)) (e : Ty) : List e.den → List (Nat × AV) → Option (List e.den)
  | xs, [] => some xs
  | xs, (i, v) :: r => match pack hp e v with
    | some y => cond (Nat.ble (i + 1) xs.length) (arrParts hp e (xs.set i y) r) none
    | none => none
def buildS (e : Ty) (parts : List (Nat × AV)) (k : AV → Prop) : Prop :=
  cond (zok e) (match zeroAV e with
    | .agg l => (match putParts e l parts with
      | some l' => k (.agg l')
      | none => False)
    | _ => False) False
/-- A struct or an array out of parts. -/
def buildAV (hp : List (Nat × Blk)) (t : Option Ty) (parts : List (Nat × AV)) (k : AV → Prop) : Prop :=
  match t with
  | some (.arr n e) => cond (plainTy e) (match arrParts hp e (List.replicate n e.dfl) parts with
    | some xs => k (.arr n e xs)
    | none => False) False
  | some (.pair a b) => buildS (.pair a b) parts k
  | some .unit => buildS .unit parts k
  | _ => False
mutual
/-- By the type: a slice that is nil has no elements. -/
def canT : Ty → AV → AV
  | .sl e, .con (.slice none 0 0) => .ro e []
  | .pair a b, .agg (v :: l) => .agg (canT a v :: canTs b l)
  | _, v => v
def canTs : Ty → List AV → List AV
  | .pair a b, v :: l => canT a v :: canTs b l
  | _, l => l
end
def canAs (tt : List (Nat × Ty)) : List AV → List Nat → List AV
  | v :: l, t :: ts => (match lkT tt t with | some e => canT e v | none => v) :: canAs tt l ts
  | l, _ => l
def canR (tt : List (Nat × Ty)) (ts : List Nat) (v : AV) : AV :=
  match v, ts with
  | .tup l, ts => .tup (canAs tt l ts)
  | v, [t] => (match lkT tt t with | some e => canT e v | none => v)
  | v, _ => v
def callArgs (tt : List (Nat × Ty)) (hp : List (Nat × Blk)) (fs as cs : List AV) (ts : List Nat) : List AV :=
  fs.map (norm hp) ++ canAs tt (as.map (norm hp)) ts ++ cs.map (norm hp)
/-- What a function of data answers; an evaluation stops here, the kernel's too. -/
theorem callK_ex (o : Option AV) (k : AV → Prop) : ∃ p : Prop, p = (match o with
  | some r => k r
  | none => False) := ⟨_, rfl⟩
noncomputable def callK (o : Option AV) (k : AV → Prop) : Prop := Classical.choose (callK_ex o k)
theorem callK_eq (o : Option AV) (k : AV → Prop) : callK o k = (match o with
  | some r => k r
  | none => False) := Classical.choose_spec (callK_ex o k)
theorem callK_elim {o : Option AV} {k : AV → Prop} (h : callK o k) : ∃ r, o = some r ∧ k r := by
  rw [callK_eq] at h
  cases o with
  | none => exact h.elim
  | some r => exact ⟨r, rfl, h⟩
theorem callK_mk {o : Option AV} {k : AV → Prop} {r : AV} (ho : o = some r) (h : k r) : callK o k := by
  subst ho; rw [callK_eq]; exact h
attribute [irreducible] callK
def isFz : Blk → Bool
  | .var _ _ f => f
  | .row _ _ _ f => f
  | .none => false
/-- A row of pointers. -/
def opqs : Nat → Ty
  | 0 => .unit
  | n + 1 => .pair (.opq 0) (opqs n)
/-- A number that is known. -/
def natLit (n : Int) (k : Nat → Prop) : Prop := match n with
  | .ofNat 0 => k 0
  | .ofNat (m + 1) => k (m + 1)
  | .negSucc _ => False
theorem natLit_out {n : Int} {k : Nat → Prop} (h : natLit n k) : ∃ m : Nat, n = (m : Int) ∧ k m := by
  cases n with
  | ofNat m => cases m with
    | zero => exact ⟨0, rfl, h⟩
    | succ m => exact ⟨m + 1, rfl, h⟩
  | negSucc m => exact h.elim
/-- The operations that write nothing. -/
def pv (E : Env) (hp : List (Nat × Blk)) (x : Operand → AV) : Op → (AV → Prop) → Prop
  | .move a, k | .assign a, k => k (x a)
  | .pick c a b, k => match x c with
    | .bool t => k (pickAV t (x a) (x b))
    | _ => False
  | .nilCheck a, k => match x a with
    | .ptr id p => k (.ptr id p)
    | .rop e y => k (.rop e y)
    | .fn (.func g) a c => k (.fn (.func g) a c)
    | _ => False
  | .binOp op t a b _, k => binAV (lkT E.tt t) op (x a) (x b) k
  | .unOp op _ a, k => match op, x a with
    | .neg, .int ka n => k (.int ka (ka.wrap (0 - n)))
    | .xor, .int ka n => k (.int ka (bitsOp .xor ka (if ka.signed then -1 else ka.max) n))
    | .not, .bool b => k (.bool !b)
    | _, _ => False
  | .convert src dst a, k => match lkT E.tt src, lkT E.tt dst, x a with
    | some (.int _), some (.int kd), .int _ n => k (.int kd (kd.wrap n))
    | some .str, some .str, .str s => k (.str s)
    | _, _, _ => False
  | .fieldAddr t a i, k => match x a, lkT E.tt t with
    | .ptr id p, some e => match ptyB (lkb hp id) p, ftyT e i with
      | some e', some u => cond (decide (e' = e) && !Nat.beq u.size 0) (k (.ptr id (p ++ [.fld i]))) False
      | _, _ => False
    | .rop e' y, some e => match prj e' y i with
      | some ⟨u, z⟩ => cond (decide (e' = e) && !Nat.beq u.size 0) (k (.rop u z)) False
      | none => False
    | _, _ => False
  | .field t a i, k => match x a, lkT E.tt t with
    | .agg l, some e => match l[i]? with
      | some v => cond (fits e (.agg l)) (k v) False
      | none => False
    | _, _ => False
  | .indexAddr t a i, k => match x a, x i with
    | .own id, .int _ n => match lkb hp id, lkT E.tt t with
      | .row _ e xs _, some (.sl e') => cond (decide (e' = e)) ((0 ≤ n ∧ n < xs.length) ∧ k (.ptr id [.at n])) False
      | _, _ => False
    | .ro e xs, .int _ n => match lkT E.tt t with
      | some (.sl e') => cond (decide (e' = e)) ((0 ≤ n ∧ n < xs.length) ∧ k (.rop e (xs.getD n.toNat e.dfl))) False
      | _ => False
    | .ptr id p, .int _ n => match lkT E.tt t, ptyB (lkb hp id) p with
      | some (.arr m e), some e' => cond (decide (e' = .arr m e)) ((0 ≤ n ∧ n < m) ∧ k (.ptr id (p ++ [.at n]))) False
      | _, _ => False
    | .rop (.arr m e) xs, .int _ n => match lkT E.tt t with
      | some e' => cond (decide (e' = .arr m e)) ((0 ≤ n ∧ n < m) ∧ k (.rop e (xs.getD n.toNat e.dfl))) False
      | _ => False
    | .vsl id m, .int _ n => match lkb hp id, lkT E.tt t with
      | .var e _ _, some (.sl e') => cond (decide (e' = .opq 0) && decide (e = opqs m)) (natLit n fun j => cond (Nat.ble (j + 1) m) (k (.ptr id [.fld j])) False) False
      | _, _ => False
    | _, _ => False
  | .index t a i, k => match x a, x i with
    | .str s, .int _ n => cond (match lkT E.tt t with | some .str => true | _ => false) ((0 ≤ n ∧ n < s.size) ∧ k (.int .u8 (s.data.toList.getD n.toNat 0).toNat)) False
    | .arr m e xs, .int _ n => match lkT E.tt t with
      | some e' => cond (decide (e' = .arr m e)) ((0 ≤ n ∧ n < m) ∧ k (unpack e (xs.getD n.toNat e.dfl))) False
      | _ => False
    | _, _ => False
  | .load t a, k => match x a with
    | .ptr id p => match getB (lkb hp id) p with
      | some v => match lkT E.tt t with
        | some e => cond (fits e v) (k v) False
        | none => False
      | none => False
    | .rop e y => match lkT E.tt t with
      | some e' => cond (decide (e' = e)) (k (unpack e y)) False
      | none => False
    | _ => False
  | .extract a i, k => match x a with
    | .tup l => match l[i]? with
      | some v => k v
      | none => False
    | _ => False
  | .build t parts, k => buildAV hp (lkT E.tt t) (parts.toList.map fun p => (p.1, x p.2)) k
  | .makeFunc f a c, k => cond (okVs (a.toList.map x) && okVs (c.toList.map x)) (k (.fn f (a.toList.map x) (c.toList.map x))) False
  | .slice t a lo hi none, k => match x a with
    | .str s => match lkT E.tt t, (match lo with | some l => x l | none => .int .i64 0), (match hi with | some h => x h | none => .int .i64 s.size) with
      | some .str, .int _ l, .int _ h => (0 ≤ l ∧ l ≤ h ∧ h ≤ s.size) ∧ k (.str (s.extract l.toNat h.toNat))
      | _, _, _ => False
    | .ro e xs => match lkT E.tt t, (match lo with | some l => x l | none => .int .i64 0), (match hi with | some h => x h | none => .int .i64 xs.length) with
      | some (.sl e'), .int _ l, .int _ h => cond (decide (e' = e)) ((0 ≤ l ∧ l ≤ h ∧ h ≤ xs.length) ∧ k (.ro e ((xs.take h.toNat).drop l.toNat))) False
      | _, _, _ => False
    | .own id => match lkb hp id with
      | .row _ e xs _ => (match lkT E.tt t, (match lo with | some l => x l | none => .int .i64 0), (match hi with | some h => x h | none => .int .i64 xs.length) with
        | some (.sl e'), .int _ l, .int _ h => cond (decide (e' = e)) ((0 ≤ l ∧ l ≤ h ∧ h ≤ xs.length) ∧ k (.vw id l h)) False
        | _, _, _ => False)
      | _ => False
    | .ptr id p => match lkT E.tt t, getB (lkb hp id) p with
      | some (.arr n' e'), some (.arr n e xs) => match (match lo with | some l => x l | none => .int .i64 0), (match hi with | some h => x h | none => .int .i64 n) with
        | .int _ l, .int _ h => cond (isFz (lkb hp id) && decide (e' = e) && Nat.beq n' n && Nat.ble n 65536) ((0 ≤ l ∧ l ≤ h ∧ h ≤ n) ∧ k (.ro e ((xs.take h.toNat).drop l.toNat))) False
        | _, _ => False
      | _, _ => False
    | .rop (.arr n e) xs => match lkT E.tt t with
      | some (.arr n' e') => match (match lo with | some l => x l | none => .int .i64 0), (match hi with | some h => x h | none => .int .i64 n) with
        | .int _ l, .int _ h => cond (decide (e' = e) && Nat.beq n' n && Nat.ble n 65536) ((0 ≤ l ∧ l ≤ h ∧ h ≤ n) ∧ k (.ro e ((xs.take h.toNat).drop l.toNat))) False
        | _, _ => False
      | _ => False
    | _ => False
  | .slice t a lo (some hi) (some mx), k => match x a with
    | .ro e xs => match lkT E.tt t, (match lo with | some l => x l | none => .int .i64 0), x hi, x mx with
      | some (.sl e'), .int _ l, .int _ h, .int _ m => cond (decide (e' = e)) ((0 ≤ l ∧ l ≤ h ∧ h ≤ m ∧ m ≤ xs.length) ∧ k (.ro e ((xs.take h.toNat).drop l.toNat))) False
      | _, _, _, _ => False
    | .own id => match lkb hp id with
      | .row _ e xs _ => (match lkT E.tt t, (match lo with | some l => x l | none => .int .i64 0), x hi, x mx with
        | some (.sl e'), .int _ l, .int _ h, .int _ m => cond (decide (e' = e)) ((0 ≤ l ∧ l ≤ h ∧ h ≤ m ∧ m ≤ xs.length) ∧ k (.vw id l h)) False
        | _, _, _, _ => False)
      | _ => False
    | _ => False
  | .call c, k => match c.callee with
    | .builtin .len => match c.args.toList, c.argTypes.toList with
      | [a], [t] => match lenAV hp (x a), lkT E.tt t with
        | some n, some e => cond (fits e (x a) && lenTy e) (k (.int .i64 n)) False
        | _, _ => False
      | _, _ => False
    | .builtin .unsafeSliceData => match c.args.toList with
      | [a] => match x a with
        | .own id => match lkb hp id with
          | .row _ _ xs _ => 0 < xs.length ∧ k (.ptr id [.at 0])
          | _ => False
        | _ => False
      | _ => False
    | .builtin .min => match c.args.toList with
      | [a, b] => match x a, x b with
        | .int ka m, .int kb n => cond (decide (ka = kb)) (k (.int ka (min m n))) False
        | _, _ => False
      | _ => False
    | .builtin .max => match c.args.toList with
      | [a, b] => match x a, x b with
        | .int ka m, .int kb n => cond (decide (ka = kb)) (k (.int ka (max m n))) False
        | _, _ => False
      | _ => False
    | .value f => match x f with
      | .fn (.func g) fs cs => match lkF E.fns g with
        | some F => callK (F (callArgs E.tt hp fs (c.args.toList.map x) cs c.argTypes.toList)) fun r =>
            cond (pureAV.pures ((fs ++ c.args.toList.map x ++ cs).map (norm hp)) && pureR r && (!leads r || allFz hp (owns.ownss (fs ++ c.args.toList.map x ++ cs)))) (k r) False
        | none => False
      | _ => False
    | _ => False
  | _, _ => False

def packAll (hp : List (Nat × Blk)) (e : Ty) : List AV → Option (List e.den)
  | [] => some []
  | v :: l => match pack hp e v with
    | some y => match packAll hp e l with
      | some ys => some (y :: ys)
      | none => none
    | none => none

/-- The same value, looked at: for whoever reckons with it. -/
def force : AV → (AV → Prop) → Prop
  | .int k n, c => c (.int k n)
  | .bool b, c => c (.bool b)
  | .str s, c => c (.str s)
  | .ro e xs, c => c (.ro e xs)
  | .arr n e xs, c => c (.arr n e xs)
  | .agg l, c => c (.agg l)
  | .own id, c => c (.own id)
  | .ptr id p, c => c (.ptr id p)
  | .vsl id n, c => c (.vsl id n)
  | .vw id l h, c => c (.vw id l h)
  | .rop e x, c => c (.rop e x)
  | .raw e x, c => c (.raw e x)
  | .con v, c => c (.con v)
  | .fn f a b, c => c (.fn f a b)
  | .tup l, c => c (.tup l)
  | .und, c => c .und
  | .dead, c => c .dead
theorem force_eq (v : AV) (c : AV → Prop) : force v c = c v := by cases v <;> rfl
mutual
/-- The same, all the way down. -/
def forceD : AV → (AV → Prop) → Prop
  | .agg l, c => forceDs l fun l => c (.agg l)
  | .tup l, c => forceDs l fun l => c (.tup l)
  | .int k n, c => c (.int k n)
  | .bool b, c => c (.bool b)
  | .str s, c => c (.str s)
  | .ro e xs, c => c (.ro e xs)
  | .arr n e xs, c => c (.arr n e xs)
  | .own id, c => c (.own id)
  | .ptr id p, c => c (.ptr id p)
  | .vsl id n, c => c (.vsl id n)
  | .vw id l h, c => c (.vw id l h)
  | .rop e x, c => c (.rop e x)
  | .raw e x, c => c (.raw e x)
  | .con v, c => c (.con v)
  | .fn f a b, c => c (.fn f a b)
  | .und, c => c .und
  | .dead, c => c .dead
def forceDs : List AV → (List AV → Prop) → Prop
  | [], c => c []
  | v :: l, c => forceD v fun v => forceDs l fun l => c (v :: l)
end
mutual
theorem forceD_eq : ∀ (v : AV) (c : AV → Prop), forceD v c = c v
  | .agg l, c => forceDs_eq l _
  | .tup l, c => forceDs_eq l _
  | .int k n, c => rfl
  | .bool b, c => rfl
  | .str s, c => rfl
  | .ro e xs, c => rfl
  | .arr n e xs, c => rfl
  | .own id, c => rfl
  | .ptr id p, c => rfl
  | .vsl id n, c => rfl
  | .vw id l h, c => rfl
  | .rop e x, c => rfl
  | .raw e x, c => rfl
  | .con v, c => rfl
  | .fn f a b, c => rfl
  | .und, c => rfl
  | .dead, c => rfl
theorem forceDs_eq : ∀ (l : List AV) (c : List AV → Prop), forceDs l c = c l
  | [], c => rfl
  | v :: l, c => by
    show forceD v _ = _
    rw [forceD_eq v, forceDs_eq l]
end
/-- The same block, looked at. -/
def forceB : Blk → (Blk → Prop) → Prop
  | .var e v f, c => forceD v fun v => c (.var e v f)
  | .row te e xs f, c => c (.row te e xs f)
  | .none, c => c .none
theorem forceB_eq (b : Blk) (c : Blk → Prop) : forceB b c = c b := by
  cases b <;> first | rfl | (simp only [forceB, forceD_eq])
def forceF : List (Nat × AV) → (List (Nat × AV) → Prop) → Prop
  | [], c => c []
  | (d, v) :: l, c => forceD v fun v => forceF l fun l => c ((d, v) :: l)
theorem forceF_eq : ∀ (l : List (Nat × AV)) (c : List (Nat × AV) → Prop), forceF l c = c l
  | [], c => rfl
  | (d, v) :: l, c => by
    show forceD v _ = _
    rw [forceD_eq, forceF_eq l]
def forceH : List (Nat × Blk) → (List (Nat × Blk) → Prop) → Prop
  | [], c => c []
  | (d, b) :: l, c => forceB b fun b => forceH l fun l => c ((d, b) :: l)
theorem forceH_eq : ∀ (l : List (Nat × Blk)) (c : List (Nat × Blk) → Prop), forceH l c = c l
  | [], c => rfl
  | (d, b) :: l, c => by
    show forceB b _ = _
    rw [forceB_eq, forceH_eq l]
universe u
mutual
/-- The same, all the way down. -/
def fcD {α : Sort u} : AV → (AV → α) → α
  | .agg l, c => fcDs l fun l => c (.agg l)
  | .tup l, c => fcDs l fun l => c (.tup l)
  | .int k n, c => c (.int k n)
  | .bool b, c => c (.bool b)
  | .str s, c => c (.str s)
  | .ro e xs, c => c (.ro e xs)
  | .arr n e xs, c => c (.arr n e xs)
  | .own id, c => c (.own id)
  | .ptr id p, c => c (.ptr id p)
  | .vsl id n, c => c (.vsl id n)
  | .vw id l h, c => c (.vw id l h)
  | .rop e x, c => c (.rop e x)
  | .raw e x, c => c (.raw e x)
  | .con v, c => c (.con v)
  | .fn f a b, c => c (.fn f a b)
  | .und, c => c .und
  | .dead, c => c .dead
def fcDs {α : Sort u} : List AV → (List AV → α) → α
  | [], c => c []
  | v :: l, c => fcD v fun v => fcDs l fun l => c (v :: l)
end
mutual
theorem fcD_eq {α : Sort u} : ∀ (v : AV) (c : AV → α), fcD v c = c v
  | .agg l, c => fcDs_eq l _
  | .tup l, c => fcDs_eq l _
  | .int k n, c => rfl
  | .bool b, c => rfl
  | .str s, c => rfl
  | .ro e xs, c => rfl
  | .arr n e xs, c => rfl
  | .own id, c => rfl
  | .ptr id p, c => rfl
  | .vsl id n, c => rfl
  | .vw id l h, c => rfl
  | .rop e x, c => rfl
  | .raw e x, c => rfl
  | .con v, c => rfl
  | .fn f a b, c => rfl
  | .und, c => rfl
  | .dead, c => rfl
theorem fcDs_eq {α : Sort u} : ∀ (l : List AV) (c : List AV → α), fcDs l c = c l
  | [], c => rfl
  | v :: l, c => by
    show fcD v _ = _
    rw [fcD_eq v, fcDs_eq l]
end
/-- The same block, looked at. -/
def fcB {α : Sort u} : Blk → (Blk → α) → α
  | .var e v f, c => fcD v fun v => c (.var e v f)
  | .row te e xs f, c => c (.row te e xs f)
  | .none, c => c .none
theorem fcB_eq {α : Sort u} (b : Blk) (c : Blk → α) : fcB b c = c b := by
  cases b <;> first | rfl | (simp only [fcB, fcD_eq])
def fcF {α : Sort u} : List (Nat × AV) → (List (Nat × AV) → α) → α
  | [], c => c []
  | (d, v) :: l, c => fcD v fun v => fcF l fun l => c ((d, v) :: l)
theorem fcF_eq {α : Sort u} : ∀ (l : List (Nat × AV)) (c : List (Nat × AV) → α), fcF l c = c l
  | [], c => rfl
  | (d, v) :: l, c => by
    show fcD v _ = _
    rw [fcD_eq, fcF_eq l]
def fcH {α : Sort u} : List (Nat × Blk) → (List (Nat × Blk) → α) → α
  | [], c => c []
  | (d, b) :: l, c => fcB b fun b => fcH l fun l => c ((d, b) :: l)
theorem fcH_eq {α : Sort u} : ∀ (l : List (Nat × Blk)) (c : List (Nat × Blk) → α), fcH l c = c l
  | [], c => rfl
  | (d, b) :: l, c => by
    show fcB b _ = _
    rw [fcB_eq, fcH_eq l]
/-- St.clr, and go on. -/
def clrK (s : St) (id : Nat) (c : St → Prop) : Prop :=
  match s with
  | ⟨fr, hp, ks⟩ => match lkb hp id with
    | .none => c ⟨fr, hp, ks⟩
    | _ => forceF (killF id fr) fun fr => forceH (killH id hp) fun hp => c ⟨fr, hp, consK id ks⟩
theorem clrK_eq (s : St) (id : Nat) (c : St → Prop) : clrK s id c = c (s.clr id) := by
  obtain ⟨fr, hp, ks⟩ := s
  unfold clrK St.clr
  cases h : lkb hp id <;> simp only [h, forceF_eq, forceH_eq, St.kill]
/-- St.putb, and go on. -/
def putbK (s : St) (id : Nat) (b : Blk) (c : St → Prop) : Prop :=
  match s with
  | ⟨fr, hp, ks⟩ => forceB b fun b => c ⟨fr, (id, b) :: hp, ks⟩
theorem putbK_eq (s : St) (id : Nat) (b : Blk) (c : St → Prop) : putbK s id b c = c (s.putb id b) := by
  obtain ⟨fr, hp, ks⟩ := s
  simp only [putbK, forceB_eq, St.putb]
/-- Blocks written no more, and go on. -/
def frzK (s : St) (l : List Nat) (c : St → Prop) : Prop :=
  match s, l with
  | s, [] => c s
  | ⟨fr, hp, ks⟩, l => forceH (fzs hp l) fun hp => c ⟨fr, hp, ks⟩
theorem frzK_eq (s : St) (l : List Nat) (c : St → Prop) : frzK s l c = c ⟨s.fr, fzs s.hp l, s.ks⟩ := by
  obtain ⟨fr, hp, ks⟩ := s
  cases l <;> simp only [frzK, forceH_eq, fzs]

/-- So many elements have room: by number; where that's told, by bytes, too. -/
def roomK (o : Option (List Nat)) (e : Ty) (n : Nat) (A : Prop) : Prop := match o with
  | none => n ≤ 4294967296 ∧ A
  | some _ => (n ≤ 4294967296 ∨ n * e.ub ≤ 140737488355328) ∧ A
theorem roomK_out {o : Option (List Nat)} {e : Ty} {n : Nat} {A : Prop} (h : roomK o e n A) : (n ≤ 4294967296 ∨ n * e.ub ≤ 140737488355328) ∧ A := by
  cases o with
  | none => exact ⟨.inl h.1, h.2⟩
  | some _ => exact h
def ptrsOk : List AV → Bool
  | [] => true
  | v :: l => (match v with | .ptr _ _ => true | .con (.pointer none) => true | _ => false) && ptrsOk l
/-- What makes a block, whose id is the slot that is written; what appends. -/
def av (E : Env) (s : St) (x : Operand → AV) (d : Nat) : Op → (St → AV → Prop) → Prop
  | .alloc t, k => match lkT E.tt t with
    | some e => cond (zok e) (clrK s d fun s => putbK s d (.var e (zeroAV e) false) fun s => k s (.ptr d [])) False
    | none => False
  | .box t a, k => match lkT E.tt t with
    | some e => cond (fits e (x a)) (clrK s d fun s => putbK s d (.var e (kill d (x a)) false) fun s => k s (.ptr d [])) False
    | none => False
  | .makeSlice t l c, k => match lkT E.tt t, lkE E.et t, x l, x c with
    | some (.sl e), some te, .int _ n, .int _ m => cond (Nat.ble 1 e.size && plainTy e) ((n = m ∧ 0 ≤ n ∧ n ≤ 4294967296) ∧ clrK s d fun s => putbK s d (.row te e (List.replicate n.toNat e.dfl) false) fun s => k s (.own d)) False
    | _, _, _, _ => False
  | .buildSlice t len parts, k => match lkT E.tt t, lkE E.et t with
    | some (.sl e), some te => match packAll (fzs s.hp (owns.ownss (parts.toList.map fun p => x p.2))) e (parts.toList.map fun p => x p.2) with
      | some xs => cond (decide (parts.toList.map (·.1) = List.range len) && Nat.ble (len * e.size) 65536 && Nat.ble 1 e.size) (frzK s (owns.ownss (parts.toList.map fun p => x p.2)) fun s => clrK s d fun s => putbK s d (.row te e xs false) fun s => k s (.own d)) False
      | none => cond (decide (e = .opq 0)) (cond (decide (parts.toList.map (·.1) = List.range len) && Nat.ble 1 len && Nat.ble len 65536 && ptrsOk (parts.toList.map fun p => x p.2)) (clrK s d fun s => putbK s d (.var (opqs len) (.agg (kills d (parts.toList.map fun p => x p.2))) false) fun s => k s (.vsl d len)) False) False
    | _, _ => False
  | .call c, k => match c.callee, c.args.toList, c.argTypes.toList with
    | .builtin .append, [a, b], [t, t2] => match lkT E.tt t, lkE E.et t with
      | some (.sl e), some te => match srcOf s.hp e (lkT E.tt t2) (x b) with
        | some ys => cond (Nat.ble 1 e.size) (match x a with
          | .con (.slice none 0 0) => roomK (lkO E.keep 40000000) e ys.length (clrK s d fun s => putbK s d (.row te e ys false) fun s => k s (.own d))
          | .own id => match lkb s.hp id with
            | .row te' e' xs false => match rowOf s.hp e (.own id) with
              | some zs => cond (Nat.beq te' te) (roomK (lkO E.keep 40000000) e (zs.length + ys.length) (clrK s id fun s => putbK s id (.row te e (zs ++ ys) false) fun s => k s (.own id))) False
              | none => False
            | _ => False
          | _ => False) False
        | none => False
      | _, _ => False
    | _, _, _ => False
  | _, _ => False

/-- What writes into a block that is there. -/
def wv (E : Env) (s : St) (x : Operand → AV) : Op → (St → AV → Prop) → Prop
  | .store t a v, k => match x a with
    | .ptr id p => match lkT E.tt t with
      | some e => match setB s.hp (lkb s.hp id) p (x v) with
        | some b => cond (fits e (x v) && decide (ptyB (lkb s.hp id) p = some e)) (putbK s id b fun s => k s .dead) False
        | none => False
      | none => False
    | _ => False
  | .call c, k => match c.callee, c.args.toList, c.argTypes.toList with
    | .builtin .copy, [a, b], [t, t2] => match lkT E.tt t, lkT E.tt t2 with
      | some (.sl e), some (.sl e2) => match x a, rowOf s.hp e (x b) with
        | .own id, some ys => match lkb s.hp id with
          | .row te' e' xs false => match rowOf s.hp e (.own id) with
            | some zs => cond (decide (e2 = e)) (putbK s id (.row te' e (ys.take zs.length ++ zs.drop ys.length) false) fun s => k s (.int .i64 (min (ys.length : Int) (zs.length : Int)))) False
            | none => False
          | _ => False
        | _, _ => False
      | _, _ => False
    | .builtin .clear, [a], [t] => match lkT E.tt t with
      | some (.sl e) => match x a with
        | .own id => match lkb s.hp id with
          | .row te' e' xs false => match rowOf s.hp e (.own id) with
            | some zs => cond (plainTy e && Nat.ble 1 e.size) (putbK s id (.row te' e (List.replicate zs.length e.dfl) false) fun s => k s .dead) False
            | none => False
          | _ => False
        | _ => False
      | _ => False
    | _, _, _ => False
  | _, _ => False

/-- Which of the three it is: 0 writes nothing and reads no block, 1 writes nothing, 2 makes a block, 3 writes. -/
def cls (o : Oper) : Nat :=
  match o.op with
  | .load _ _ => 1
  | .alloc _ | .box _ _ | .makeSlice _ _ _ | .buildSlice _ _ _ => 2
  | .store _ _ _ => 3
  | .call c => match c.callee with
    | .builtin .append => match c.args.toList with
      | .const _ :: _ => 2
      | _ => 3
    | .builtin .copy | .builtin .clear | .builtin .unsafeString => 3
    | .builtin .len => 1
    | .builtin _ => 0
    | _ => 4
  | .indexAddr _ _ _ | .fieldAddr _ _ _ => 1
  | _ => 0

def forceN (n : Nat) (k : Nat → Prop) : Prop := match n with
  | 0 => k 0
  | m + 1 => k (m + 1)
theorem forceN_eq (n : Nat) (k : Nat → Prop) : forceN n k = k n := by cases n <;> rfl
/-- The same: what is to be put into a state, with the state itself looked at; n: how many slots there are. -/
def putF (n : Nat) (dst : Option Nat) (s : St) (v : AV) (K : St → Prop) : Prop :=
  match dst, s with
  | some d, ⟨fr, hp, ks⟩ => forceN n fun n => cond (Nat.ble (d + 1) n) (forceD v fun v => K ⟨(d, v) :: fr, hp, ks⟩) False
  | none, ⟨fr, hp, ks⟩ => K ⟨fr, hp, ks⟩
theorem putF_eq (n : Nat) (dst : Option Nat) (s : St) (v : AV) (K : St → Prop) : putF n dst s v K = ((∀ d, dst = some d → d < n) ∧ K (s.put dst v)) := by
  cases s; cases dst with
  | none => simp [putF, St.put]
  | some d =>
    simp only [putF, St.put, forceD_eq, forceN_eq, Option.some.injEq, forall_eq']
    by_cases h : d < n
    · have : Nat.ble (d + 1) n = true := by rw [Nat.ble_eq]; exact h
      rw [this]; simp [h]
    · have : Nat.ble (d + 1) n = false := by
        cases e : Nat.ble (d + 1) n with
        | false => rfl
        | true => exact absurd (Nat.lt_of_succ_le (Nat.le_of_ble_eq_true e)) h
      rw [this]; simp [h]

def br (b : Bool) (A B : Prop) : Prop := match b with
  | true => A
  | false => B
theorem br_and {b : Bool} {A B : Prop} (h : br b A B) : (b = true → A) ∧ (b = false → B) := by
  cases b with
  | true => exact ⟨fun _ => h, fun h => by cases h⟩
  | false => exact ⟨(fun h => by cases h), fun _ => h⟩

/-! ### What is kept behind a region, and cuts -/
def memN : List Nat → Nat → Bool
  | [], _ => false
  | k :: l, d => cond (Nat.beq k d) true (memN l d)
def subN : List Nat → List Nat → Bool
  | [], _ => true
  | k :: l, m => memN m k && subN l m
def outK (mb : List Nat) : List (Nat × Blk) → List Nat
  | [] => []
  | (k, _) :: t => cond (memN mb k) (outK mb t) (k :: outK mb t)
def dropK : List Nat → St → St
  | [], s => s
  | k :: l, s => dropK l (match lkb s.hp k with
    | .none => s
    | _ => (s.kill k).putb k .none)
def pickF : List Nat → List (Nat × AV) → List (Nat × AV)
  | [], _ => []
  | d :: l, fr => (d, lk fr d) :: pickF l fr
def pickH : List Nat → List (Nat × Blk) → List (Nat × Blk)
  | [], _ => []
  | d :: l, hp => (d, lkb hp d) :: pickH l hp
def subK : Option Ks → List Nat → Bool
  | none, _ => true
  | some (l, _), kl => subN l kl
def setK : Option Ks → List Nat → Option Ks
  | none, _ => none
  | some (_, p), kl => some (kl, p)
def outL (mb : List Nat) (full : List (Nat × Blk)) : List (Nat × Blk) → Bool
  | [] => true
  | (k, _) :: t => (memN mb k || (match lkb full k with | .none => true | _ => false)) && outL mb full t
/-- Blocks go, and go on. -/
def dropT {α : Sort u} : List Nat → St → (St → α) → α
  | [], s, c => c s
  | k :: l, s, c => match s with
    | ⟨fr, hp, ks⟩ => match lkb hp k with
      | .none => dropT l ⟨fr, hp, ks⟩ c
      | _ => fcF (killF k fr) fun fr => fcH (killH k hp) fun hp => dropT l ⟨fr, (k, .none) :: hp, consK k ks⟩ c
theorem dropT_eq {α : Sort u} : ∀ (l : List Nat) (s : St) (c : St → α), dropT l s c = c (dropK l s)
  | [], s, c => rfl
  | k :: l, s, c => by
    obtain ⟨fr, hp, ks⟩ := s
    unfold dropT dropK
    simp only
    cases h : lkb hp k with
    | none => simp only [h]; exact dropT_eq l _ c
    | var e v f => simp only [h, fcF_eq, fcH_eq]; exact dropT_eq l _ c
    | row te e xs f => simp only [h, fcF_eq, fcH_eq]; exact dropT_eq l _ c
def lookT {α : Sort u} (s : St) (c : St → α) : α := match s with
  | ⟨fr, hp, ks⟩ => fcF fr fun fr => fcH hp fun hp => c ⟨fr, hp, ks⟩
theorem lookT_eq {α : Sort u} (s : St) (c : St → α) : lookT s c = c s := by
  obtain ⟨fr, hp, ks⟩ := s
  simp only [lookT, fcF_eq, fcH_eq]
/-- Behind a region: the blocks that are gone from the callers' frames, as told. -/
def pruneS (E : Env) (id : Nat) (K : St → Prop) (s : St) : Prop :=
  forceN E.off fun o => forceN (o * 100000000 + (6000000 + id)) fun key => match lkO E.keep key, s with
  | some kl, ⟨fr, hp, ks⟩ => cond (subK ks kl) (K ⟨fr, hp, setK ks kl⟩) False
  | none, s => K s
mutual
/-- Is the block named. -/
def usesV (id : Nat) : AV → Bool
  | .own i => Nat.beq i id
  | .ptr i _ => Nat.beq i id
  | .vsl i _ => Nat.beq i id
  | .vw i _ _ => Nat.beq i id
  | .agg l => usesL id l
  | .tup l => usesL id l
  | .fn _ a c => usesL id a || usesL id c
  | _ => false
def usesL (id : Nat) : List AV → Bool
  | [] => false
  | v :: l => usesV id v || usesL id l
end
def usesF (id : Nat) : List (Nat × AV) → Bool
  | [] => false
  | (_, v) :: l => usesV id v || usesF id l
def usesH (id : Nat) : List (Nat × Blk) → Bool
  | [] => false
  | (_, .var _ v _) :: l => usesV id v || usesH id l
  | _ :: l => usesH id l
def outU (fr : List (Nat × AV)) (hp : List (Nat × Blk)) : List Nat → List Nat
  | [] => []
  | id :: l => cond (usesF id fr || usesH id hp) (outU fr hp l) (id :: outU fr hp l)
/-- Blocks that go, too, where nothing names them. -/
def outC (E : Env) (id : Nat) (ks : Option Ks) (fr : List (Nat × AV)) (hp : List (Nat × Blk)) (l : List Nat) : List Nat :=
  match ks, lkO E.keep (14000000 + id) with
  | none, some c => outU fr hp c ++ l
  | _, _ => l
/-- Behind a region: only the slots that are told; and only the blocks that are told. -/
def pruneH (E : Env) (id : Nat) (s : St) (K : St → Prop) : Prop :=
  forceN E.off fun o => forceN (o * 100000000 + (4000000 + id)) fun key => match lkO E.keep key with
  | none => K s
  | some mb => match s with
    | ⟨fr, hp, ks⟩ => dropT (outC E id ks fr hp (outK mb hp)) ⟨fr, hp, ks⟩ fun s => match s with
      | ⟨fr, hp, ks⟩ => cond (outL mb hp hp) (lookT ⟨fr, pickH mb hp, ks⟩ (pruneS E id K)) False
def pruneK (E : Env) (id : Nat) (K : St → Prop) (s : St) : Prop :=
  match lkO E.keep id, s with
  | some m, ⟨fr, hp, ks⟩ => forceF (pickF m fr) fun fr => pruneH E id ⟨fr, hp, ks⟩ K
  | none, s => K s
/-- What is behind is gone through once, whatever order came. -/
def cutI (A : (St → Prop) → Prop) (K : St → Prop) : Prop := ∃ J : St → Prop, A J ∧ ∀ s, J s → K s
theorem cutI_mk {A : (St → Prop) → Prop} {K : St → Prop} (J : St → Prop) (h : A J) (h2 : ∀ s, J s → K s) : cutI A K := ⟨J, h, h2⟩
theorem cutI_out {A : (St → Prop) → Prop} {K : St → Prop} (h : cutI A K) : ∃ J : St → Prop, A J ∧ ∀ s, J s → K s := h
attribute [irreducible] cutI
def cutP (c : Bool) (A : (St → Prop) → Prop) (K : St → Prop) : Prop := match c with
  | false => A K
  | true => cutI A K
def cutQ (E : Env) (id : Nat) : Bool := match lkO E.keep (5000000 + id) with
  | some _ => true
  | none => false
def appK : Option Ks → Option Ks → Option Ks
  | some (l, _), some (l', p) => some (l ++ l', p)
  | _, _ => none
/-- Behind a round. -/
def appY : Option Ks → Option Ks → Option Ks
  | some (l, p), some (l', _) => some (l ++ l', p)
  | _, _ => none
def getK : Option Ks → List Nat
  | some (l, _) => l
  | none => []
/-- Where the numbers of a call's blocks begin. -/
def offP (o : Nat) (dst : Option Nat) : Nat := (o + match dst with | some d => d + 1 | none => 0) * 1024
def offO (E : Env) (dst : Option Nat) : Nat := offP E.off dst
def offK (E : Env) (dst : Option Nat) (k : Nat → Prop) : Prop := forceN E.off fun o => forceN (offP o dst) k
theorem offK_eq (E : Env) (dst : Option Nat) (k : Nat → Prop) : offK E dst k = k (offO E dst) := by
  unfold offK offO
  rw [forceN_eq, forceN_eq]
/-- A cut behind a call: its number. -/
def cutN (dst : Option Nat) : Nat := 20000000 + match dst with | some d => d | none => 9999
/-- A call: of a function that is looked into, or by its contract. -/
def callV (E : Env) (dst : Option Nat) (fr : List (Nat × AV)) (hp : List (Nat × Blk)) (ks : Option Ks) (c : Call) (f : Operand) (K : St → Prop) : Prop :=
  match opn fr f with
  | .fn (.func g) fs cs => match lkP E.prs g with
    | some T => cond (okVs (fs ++ c.args.toList.map (opn fr) ++ cs)) (cutP (cutQ E (cutN dst)) (fun J => offK E dst fun o => T o hp (fs ++ c.args.toList.map (opn fr) ++ cs) fun hp' ks' r =>
        forceF (killAllF (getK ks') fr) fun fr => putF E.nt dst ⟨fr, hp', appK ks' ks⟩ r (pruneK E (cutN dst) J)) K) False
    | none => match lkR E.ords (1000000 + g) with
      | none => pv E hp (opn fr) (.call c) fun v => putF E.nt dst ⟨fr, hp, ks⟩ v K
      | some _ => frzK ⟨fr, hp, ks⟩ (owns.ownss (fs ++ c.args.toList.map (opn fr) ++ cs)) fun s => match s with
        | ⟨fr, hp, ks⟩ => pv E hp (opn fr) (.call c) fun v => putF E.nt dst ⟨fr, hp, ks⟩ v K
  | .fn (.yield l) [] [] => match E.yl with
    | some (l', Y) => eqP l l' (match ks with
      | some (S, 0) => cond (okVs (c.args.toList.map (opn fr))) (offK E dst fun o => Y S o hp (c.args.toList.map (opn fr)) fun hp' ks' r =>
          forceF (killAllF (getK ks') fr) fun fr => putF E.nt dst ⟨fr, hp', appY ks' (some (S, 0))⟩ r K) False
      | _ => False)
    | none => False
  | _ => False
def pvP (E : Env) (dst : Option Nat) (op : Op) (fr : List (Nat × AV)) (hp : List (Nat × Blk)) (ks : Option Ks) (K : St → Prop) : Prop :=
  pv E hp (opn fr) op fun v => putF E.nt dst ⟨fr, hp, ks⟩ v K
def avP (E : Env) (dst : Option Nat) (op : Op) (fr : List (Nat × AV)) (hp : List (Nat × Blk)) (ks : Option Ks) (K : St → Prop) : Prop :=
  match dst with
  | some d => forceN E.off fun o => forceN (o + d) fun o => av E ⟨fr, hp, ks⟩ (opn fr) o op fun s' v => putF E.nt (some d) s' v K
  | none => False
theorem avP_some (E : Env) (d : Nat) (op : Op) (fr : List (Nat × AV)) (hp : List (Nat × Blk)) (ks : Option Ks) (K : St → Prop) : avP E (some d) op fr hp ks K = av E ⟨fr, hp, ks⟩ (opn fr) (E.off + d) op fun s' v => putF E.nt (some d) s' v K := by
  unfold avP
  simp only [forceN_eq]
def wvP (E : Env) (dst : Option Nat) (op : Op) (fr : List (Nat × AV)) (hp : List (Nat × Blk)) (ks : Option Ks) (K : St → Prop) : Prop :=
  wv E ⟨fr, hp, ks⟩ (opn fr) op fun s' v => putF E.nt dst s' v K
/-- A slice of its own is written no more. -/
def frzS (d : Nat) (s : St) : St :=
  match s with
  | ⟨fr, hp, ks⟩ => match lk fr d with
    | .own id => match lkb hp id with
      | .row te e xs _ => ⟨(d, .ro e xs) :: fr, (id, .row te e xs true) :: hp, ks⟩
      | _ => ⟨fr, hp, ks⟩
    | _ => ⟨fr, hp, ks⟩
/-- A part of a slice: where that's a slice of its own, it's written no more. -/
def sliceP (E : Env) (dst : Option Nat) (t : TypeId) (x : Operand) (lo hi mx : Option Operand) (fr : List (Nat × AV)) (hp : List (Nat × Blk)) (ks : Option Ks) (K : St → Prop) : Prop :=
  match x with
  | .tmp d => match lk fr d with
    | .own _ => (match lkO E.keep 30000000 with
      | some _ => pvP E dst (.slice t (.tmp d) lo hi mx) fr hp ks K
      | none => (match frzS d ⟨fr, hp, ks⟩ with
        | ⟨fr, hp, ks⟩ => forceH hp fun hp => pvP E dst (.slice t (.tmp d) lo hi mx) fr hp ks K))
    | .ptr id _ => frzK ⟨fr, hp, ks⟩ [id] fun s => (match s with
      | ⟨fr, hp, ks⟩ => pvP E dst (.slice t (.tmp d) lo hi mx) fr hp ks K)
    | _ => pvP E dst (.slice t (.tmp d) lo hi mx) fr hp ks K
  | x => pvP E dst (.slice t x lo hi mx) fr hp ks K
/-- A text of bytes. -/
def cvP (E : Env) (dst : Option Nat) (src dt : TypeId) (x : Operand) (fr : List (Nat × AV)) (hp : List (Nat × Blk)) (ks : Option Ks) (K : St → Prop) : Prop :=
  match lkT E.tt src, lkT E.tt dt with
  | some (.sl (.int .u8)), some .str => match rowOf hp (.int .u8) (opn fr x) with
    | some xs => putF E.nt dst ⟨fr, hp, ks⟩ (.str (strOfNums xs)) K
    | none => False
  | _, _ => pvP E dst (.convert src dt x) fr hp ks K
/-- A text of a row's bytes, all of them: nobody writes into that row any more; it is gone. -/
def usP (E : Env) (dst : Option Nat) (c : Call) (fr : List (Nat × AV)) (hp : List (Nat × Blk)) (ks : Option Ks) (K : St → Prop) : Prop :=
  match c.args.toList, c.argTypes.toList with
  | [a, n], [t, _] => match opn fr a, opn fr n with
    | .ptr id [.at (.ofNat 0)], .int .i64 m => match lkb hp id, lkT E.tt t with
      | .row te (.int .u8) xs false, some (.opq 4) => cond (Nat.beq te UB) ((0 < xs.length ∧ m = (xs.length : Int)) ∧ forceF (killF id fr) fun fr => forceH (killH id hp) fun hp => putF E.nt dst ⟨fr, (id, .none) :: hp, consK id ks⟩ (.str (strOfNums xs)) K) False
      | _, _ => False
    | _, _ => False
  | _, _ => False
def vcOp (E : Env) (dst : Option Nat) (op : Op) (fr : List (Nat × AV)) (hp : List (Nat × Blk)) (ks : Option Ks) (K : St → Prop) : Prop :=
  match op with
  | .call c => match c.callee with
    | .value f => callV E dst fr hp ks c f K
    | .builtin .append => avP E dst (.call c) fr hp ks K
    | .builtin .copy => wvP E dst (.call c) fr hp ks K
    | .builtin .clear => wvP E dst (.call c) fr hp ks K
    | .builtin .unsafeString => usP E dst c fr hp ks K
    | _ => pvP E dst (.call c) fr hp ks K
  | .alloc t => avP E dst (.alloc t) fr hp ks K
  | .box t x => avP E dst (.box t x) fr hp ks K
  | .makeSlice t l c => avP E dst (.makeSlice t l c) fr hp ks K
  | .buildSlice t l c => avP E dst (.buildSlice t l c) fr hp ks K
  | .store t x y => wvP E dst (.store t x y) fr hp ks K
  | .slice t x lo hi mx => sliceP E dst t x lo hi mx fr hp ks K
  | .convert src dt x => cvP E dst src dt x fr hp ks K
  | op => pvP E dst op fr hp ks K
/-- One operation. -/
def vc1 (E : Env) (o : Oper) (s : St) (K : St → Prop) : Prop :=
  match o, s with
  | ⟨dst, op, _, _, _, _⟩, ⟨fr, hp, ks⟩ => vcOp E dst op fr hp ks K

def guardSlot (ops : List Oper) (g : Nat) : Option Nat := match ops[g]? with | some o => o.dst | none => none
def vcOps (E : Env) (all : List Oper) : List Oper → St → (St → Prop) → Prop
  | [], s, K => K s
  | o :: rest, s, K => match o.guard with
    | none => vc1 E o s fun s' => vcOps E all rest s' K
    | some (g, want) => match guardSlot all g with
      | some c => match lk s.fr c with
        | .bool t => br t
          (putF E.nt (some c) s (.bool true) fun s => cond want (vc1 E o s fun s' => vcOps E all rest s' K) (putF E.nt o.dst s .und fun s' => vcOps E all rest s' K))
          (putF E.nt (some c) s (.bool false) fun s => cond want (putF E.nt o.dst s .und fun s' => vcOps E all rest s' K) (vc1 E o s fun s' => vcOps E all rest s' K))
        | .und => putF E.nt o.dst s .und fun s' => vcOps E all rest s' K
        | _ => False
      | none => False

/-! ### A loop's head -/
/-- m: the slots that are kept. mb: the blocks that are kept. cs: slots (slot, block, slice type) whose nil counts as a row without elements. cb: the same within blocks. kl: what may be gone from the callers' frames. -/
structure Msk where
  m : List Nat
  mb : List Nat
  cs : List (Nat × Nat × Nat)
  cb : List (Nat × List Nat × Nat × Nat)
  kl : List Nat
  ct : List (Nat × Nat)
  cbt : List Nat
  fs : List Nat
  fb : List (Nat × List Nat)
  mv : List (Nat × Nat)
  mvb : List (Nat × List Nat × Nat)

def getF : AV → List Nat → AV
  | v, [] => v
  | .agg l, i :: p => match l[i]? with
    | some v => getF v p
    | none => .und
  | _, _ => .und
def setF : AV → List Nat → AV → AV
  | _, [], w => w
  | .agg l, i :: p, w => match l[i]? with
    | some v => .agg (l.set i (setF v p w))
    | none => .agg l
  | v, _, _ => v
def convS (E : Env) (d id t : Nat) (s : St) : St :=
  match lk s.fr d, lkT E.tt t, lkE E.et t with
  | .con (.slice none 0 0), some (.sl e), some te => match (s.clr id).putb id (.row te e [] false) with
    | ⟨fr, hp, ks⟩ => ⟨(d, .own id) :: fr, hp, ks⟩
  | _, _, _ => s
def ftyP : Ty → List Nat → Option Ty
  | t, [] => some t
  | t, i :: p => match ftyT t i with
    | some u => ftyP u p
    | none => none
def convB (E : Env) (b : Nat) (p : List Nat) (id t : Nat) (s : St) : St :=
  match lkT E.tt t, lkE E.et t with
  | some (.sl e), some te => match (s.clr id).putb id (.row te e [] false) with
    | ⟨fr, hp, ks⟩ => match lkb hp b with
      | .var e' v f => match getF v p, ftyP e' p with
        | .con (.slice none 0 0), some (.sl e0) => cond (decide (e0 = e)) ⟨fr, (b, .var e' (setF v p (.own id)) f) :: hp, ks⟩ s
        | _, _ => s
      | _ => s
  | _, _ => s
def convSs (E : Env) : List (Nat × Nat × Nat) → St → St
  | [], s => s
  | (d, id, t) :: l, s => convSs E l (convS E d id t s)
def convBs (E : Env) : List (Nat × List Nat × Nat × Nat) → St → St
  | [], s => s
  | (b, p, id, t) :: l, s => convBs E l (convB E b p id t s)
/-- A slice that is nil counts as a row without elements: in a slot; within a block. -/
def canS (E : Env) (d t : Nat) (s : St) : St :=
  match lkT E.tt t, s with
  | some e, ⟨fr, hp, ks⟩ => ⟨(d, canT e (lk fr d)) :: fr, hp, ks⟩
  | none, s => s
def canB (b : Nat) (s : St) : St :=
  match s with
  | ⟨fr, hp, ks⟩ => match lkb hp b with
    | .var e v f => ⟨fr, (b, .var e (canT e v) f) :: hp, ks⟩
    | _ => ⟨fr, hp, ks⟩
def frzB (b : Nat) (p : List Nat) (s : St) : St :=
  match s with
  | ⟨fr, hp, ks⟩ => match lkb hp b with
    | .var e' v f => match getF v p, ftyP e' p with
      | .own id, some (.sl e0) => match lkb hp id with
        | .row te e xs _ => cond (decide (e0 = e) && !Nat.beq id b) ⟨fr, (b, .var e' (setF v p (.ro e xs)) f) :: (id, .row te e xs true) :: hp, ks⟩ ⟨fr, hp, ks⟩
        | _ => ⟨fr, hp, ks⟩
      | _, _ => ⟨fr, hp, ks⟩
    | _ => ⟨fr, hp, ks⟩
/-- A row's number at a loop's head: as a slot, a field has it. -/
def mvS (d id : Nat) (s : St) : St :=
  match lk s.fr d with
  | .own j => mvTo j id s
  | _ => s
def mvB (b : Nat) (p : List Nat) (id : Nat) (s : St) : St :=
  match lkb s.hp b with
  | .var _ v _ => (match getF v p with
    | .own j => mvTo j id s
    | _ => s)
  | _ => s
def mvSs : List (Nat × Nat) → St → St
  | [], s => s
  | (d, id) :: l, s => mvSs l (mvS d id s)
def mvBs : List (Nat × List Nat × Nat) → St → St
  | [], s => s
  | (b, p, id) :: l, s => mvBs l (mvB b p id s)
def canSs (E : Env) : List (Nat × Nat) → St → St
  | [], s => s
  | (d, t) :: l, s => canSs E l (canS E d t s)
def canBs : List Nat → St → St
  | [], s => s
  | b :: l, s => canBs l (canB b s)
def frzSs : List Nat → St → St
  | [], s => s
  | d :: l, s => frzSs l (frzS d s)
def frzBs : List (Nat × List Nat) → St → St
  | [], s => s
  | (b, p) :: l, s => frzBs l (frzB b p s)
def Msk.pre0 (E : Env) (M : Msk) (s : St) : St := canBs M.cbt (canSs E M.ct (frzBs M.fb (frzSs M.fs (mvBs M.mvb (mvSs M.mv ⟨pickF M.m s.fr, s.hp, s.ks⟩)))))
def Msk.pre (E : Env) (M : Msk) (s : St) : St := convBs E M.cb (convSs E M.cs (match M.pre0 E s with | ⟨fr, hp, ks⟩ => dropK (outK M.mb hp) ⟨fr, hp, ks⟩))
def Msk.fin (M : Msk) (s : St) : St := ⟨pickF M.m s.fr, pickH M.mb s.hp, setK s.ks M.kl⟩
/-- At a loop's head: all but what is kept goes. -/
def maskC {α : Sort u} (no : α) (E : Env) (M : Msk) (s : St) (c : St → α) : α :=
  lookT (M.pre0 E s) fun s => match s with
  | ⟨fr, hp, ks⟩ => dropT (outK M.mb hp) ⟨fr, hp, ks⟩ fun s => lookT (convBs E M.cb (convSs E M.cs s)) fun s => match s with
    | ⟨fr, hp, ks⟩ => cond (subK ks M.kl && outL M.mb hp hp) (lookT (M.fin ⟨fr, hp, ks⟩) c) no
theorem maskC_eq {α : Sort u} (no : α) (E : Env) (M : Msk) (s : St) (c : St → α) : maskC no E M s c = match M.pre E s with
  | ⟨fr, hp, ks⟩ => cond (subK ks M.kl && outL M.mb hp hp) (c (M.fin ⟨fr, hp, ks⟩)) no := by
  unfold maskC Msk.pre
  rw [lookT_eq]
  generalize M.pre0 E s = s0
  obtain ⟨fr, hp, ks⟩ := s0
  simp only [dropT_eq, lookT_eq]
/-- Then the state is to be as K says. -/
def maskK (E : Env) (M : Msk) (s : St) (K : St → Prop) : Prop := maskC False E M s K
/-- The same, as a function. -/
def maskS (E : Env) (M : Msk) (s : St) : Option St := maskC none E M s some
theorem maskS_K {E : Env} {M : Msk} {s s' : St} {K : St → Prop} (h : maskS E M s = some s') (hK : K s') : maskK E M s K := by
  unfold maskS at h
  unfold maskK
  rw [maskC_eq] at h ⊢
  generalize M.pre E s = s1 at h
  obtain ⟨fr, hp, ks⟩ := s1
  simp only at h ⊢
  cases hc : (subK ks M.kl && outL M.mb hp hp) with
  | false => rw [hc] at h; cases h
  | true => rw [hc] at h; cases h; exact hK

/-! ### Regions that draw -/
def pureO (o : Oper) : Bool := match cls o with | 0 | 1 => true | _ => false
def callO (o : Oper) : Bool :=
  match o.op with
  | .call c => (match c.callee with | .value _ => true | _ => false)
  | _ => false
def newO (o : Oper) : Bool := Nat.beq (cls o) 2
/-- What an operation waits for. -/
def afterN (ops : Array Oper) (i : Nat) : List Nat := match ops[i]? with
  | some o => (o.after.toList.filter fun e => Region.binds .any e).map (·.on)
  | none => []
def addN : List Nat → List Nat → List Nat
  | [], S => S
  | k :: l, S => addN l (cond (memN S k) S (k :: S))
def reachN (ops : Array Oper) : List Nat → List Nat → List Nat
  | [], S => S
  | k :: l, S => reachN ops l (cond (memN S k) (addN (afterN ops k) S) S)
def downN : Nat → List Nat
  | 0 => []
  | n + 1 => n :: downN n
def inN (L : Array Bool) (R : List Nat) : List Nat → Bool
  | [] => true
  | k :: l => cond (L.getD k false) (memN R k) true && inN L R l
/-- It waits for all that is listed, by way of others or itself. -/
def barO (ops : Array Oper) (L : Array Bool) (i : Nat) : Bool := inN L (reachN ops (downN ops.size) (addN (afterN ops i) [])) (downN ops.size)
def isBar (i : Nat) : Bool := Nat.ble 100000 i
def isLone (i : Nat) : Bool := Nat.ble 200000 i
def idxO (i : Nat) : Nat := cond (isLone i) (i - 200000) (cond (isBar i) (i - 100000) i)
mutual
/-- n operations, in this order: what is pure may be taken first; a call, or what makes a block, is all that may come; so is anything else (100000 + its number), if it waits for all that was listed, or (200000 + its number) if that's told by the mode; or whichever comes. -/
def drawFrom (ops : Array Oper) : Ord → Nat → Array Bool → Bool
  | .nil, n, L => Nat.beq n 0 && (Region.ready .any ops L).isEmpty
  | .one i r, n, L => match n with
    | 0 => false
    | n + 1 => (match ops[idxO i]? with
      | some o => (Region.ready .any ops L).contains (idxO i) && cond (isLone i) (decide (Region.ready .any ops L = [idxO i])) (cond (isBar i) (decide (Region.ready .any ops L = [idxO i]) && barO ops L (idxO i)) (cond (pureO o) (Region.free .any ops L (idxO i)) ((callO o || newO o) && decide (Region.ready .any ops L = [idxO i]))))
      | none => false) && drawFrom ops r n (L.setIfInBounds (idxO i) true)
  | .alt l, n, L => match n with
    | 0 => false
    | n + 1 => decide (Region.ready .any ops L = l.ids) && Nat.ble 1 l.ids.length && altsFrom ops l n L
def altsFrom (ops : Array Oper) : Alts → Nat → Array Bool → Bool
  | .nil, _, _ => true
  | .cons i r l, n, L => drawFrom ops r n (L.setIfInBounds i true) && altsFrom ops l n L
end
def drawOk (ops : List Oper) (ord : Ord) : Bool := Region.noSelect ops.toArray && drawFrom ops.toArray ord ops.length (Array.replicate ops.length false)
/-- b: variables are written in whatever order: ids were there, F come to be in the region. c: anything may be done, in all orders; nothing that reads memory is taken first. -/
structure Md where
  b : Bool
  ids : List Nat
  F : List Nat
  c : Bool
def notLoad : Op → Bool
  | .load _ _ => false
  | _ => true
/-- It reads none of these blocks. f: nothing but pure operations has come. -/
def rdOk (md : Md) (f : Bool) (fr : List (Nat × AV)) (op : Op) : Bool := !md.b || match op with
  | .load _ x => (match opn fr x with
    | .ptr id _ => !memN md.ids id && !memN md.F id
    | .rop _ _ => f
    | _ => true)
  | _ => true
/-- One operation, by contract if it's a call; whatever it is, if it waits for all others, or if it's all that may come (z). -/
def vcD (E : Env) (md : Md) (f : Bool) (b z : Bool) (o : Oper) (s : St) (K : St → Prop) : Prop :=
  match o, s with
  | ⟨dst, op, ty, pos, after, guard⟩, ⟨fr, hp, ks⟩ => cond md.c (cond z (vcOp E dst op fr hp ks K) (cond (!b && notLoad op) (pvP E dst op fr hp ks K) False)) (cond z False (cond (b || newO ⟨dst, op, ty, pos, after, guard⟩) (cond md.b False (vcOp E dst op fr hp ks K)) (cond (rdOk md f fr op) (pvP E dst op fr hp ks K) False)))
/-- One of those that come in whatever order; G: what the region has made. -/
def vcS (E : Env) (md : Md) (G : List Nat) (o : Oper) (s : St) (K : List Nat → St → Prop) : Prop :=
  cond md.c False (match o, s with
  | ⟨dst, op, ty, pos, after, guard⟩, ⟨fr, hp, ks⟩ => match guard, op with
    | none, .store t x y => (match opn fr x with
      | .ptr id _ => cond (md.b && (memN md.ids id || memN G id)) (wvP E dst (.store t x y) fr hp ks (K G)) False
      | _ => False)
    | none, .alloc t => cond md.b (match dst with
      | some d => cond (memN md.F (E.off + d) && !memN md.ids (E.off + d)) (avP E (some d) (.alloc t) fr hp ks (K ((E.off + d) :: G))) False
      | none => False) (vcOp E dst (.alloc t) fr hp ks (K G))
    | none, op => cond (newO ⟨dst, op, ty, pos, after, none⟩) (cond md.b False (vcOp E dst op fr hp ks (K G))) (cond (callO ⟨dst, op, ty, pos, after, none⟩) (pvP E dst op fr hp ks (K G)) False)
    | _, _ => False)
/-- The same, with its guard. -/
def vcSG (E : Env) (all : List Oper) (md : Md) (G : List Nat) (o : Oper) (s : St) (K : List Nat → St → Prop) : Prop :=
  match o.guard with
  | none => vcS E md G o s K
  | some (g, want) => match guardSlot all g with
    | some c => match lk s.fr c with
      | .bool t => br t
        (putF E.nt (some c) s (.bool true) fun s => cond want (vcS E md G ⟨o.dst, o.op, o.type, o.pos, o.after, none⟩ s K) (putF E.nt o.dst s .und (K G)))
        (putF E.nt (some c) s (.bool false) fun s => cond want (putF E.nt o.dst s .und (K G)) (vcS E md G ⟨o.dst, o.op, o.type, o.pos, o.after, none⟩ s K))
      | .und => putF E.nt o.dst s .und (K G)
      | _ => False
    | none => False
/-- Whatever it is, with its guard. -/
def vcW (E : Env) (all : List Oper) (o : Oper) (s : St) (K : St → Prop) : Prop :=
  match o.guard with
  | none => vc1 E o s K
  | some (g, want) => match guardSlot all g with
    | some c => match lk s.fr c with
      | .bool t => br t
        (putF E.nt (some c) s (.bool true) fun s => cond want (vc1 E o s K) (putF E.nt o.dst s .und K))
        (putF E.nt (some c) s (.bool false) fun s => cond want (putF E.nt o.dst s .und K) (vc1 E o s K))
      | .und => putF E.nt o.dst s .und K
      | _ => False
    | none => False
def bothP (A B : Prop) : Prop := A ∧ B
theorem both_mk {A B : Prop} (h1 : A) (h2 : B) : bothP A B := ⟨h1, h2⟩
theorem both_out {A B : Prop} (h : bothP A B) : A ∧ B := h
attribute [irreducible] bothP
def conj2 (l : Alts) (A B : Prop) : Prop := match l with
  | .nil => A
  | .cons _ _ _ => bothP A B
mutual
def vcOrd (E : Env) (all : List Oper) (md : Md) : Ord → Bool → List Nat → St → (St → Prop) → Prop
  | .nil, _, _, s, K => K s
  | .one i rest, f, G, s, K => match all[idxO i]? with
    | none => False
    | some o => match o.guard with
      | none => vcD E md f (isBar i) (isLone i) o s fun s' => vcOrd E all md rest (f && pureO o) G s' K
      | some (g, want) => match guardSlot all g with
        | some c => match lk s.fr c with
          | .bool t => br t
            (putF E.nt (some c) s (.bool true) fun s => cond want (vcD E md f (isBar i) (isLone i) o s fun s' => vcOrd E all md rest (f && pureO o) G s' K) (putF E.nt o.dst s .und fun s' => vcOrd E all md rest (f && pureO o) G s' K))
            (putF E.nt (some c) s (.bool false) fun s => cond want (putF E.nt o.dst s .und fun s' => vcOrd E all md rest (f && pureO o) G s' K) (vcD E md f (isBar i) (isLone i) o s fun s' => vcOrd E all md rest (f && pureO o) G s' K))
          | .und => putF E.nt o.dst s .und fun s' => vcOrd E all md rest (f && pureO o) G s' K
          | _ => False
        | none => False
  | .alt l, _, G, s, K => vcAlts E all md l G s K
def vcAlts (E : Env) (all : List Oper) (md : Md) : Alts → List Nat → St → (St → Prop) → Prop
  | .nil, _, _, _ => True
  | .cons i r l, G, s, K => conj2 l (match all[i]? with
    | some o => cond md.c (vcW E all o s fun s' => vcOrd E all md r false G s' K) (vcSG E all md G o s fun G' s' => vcOrd E all md r false G' s' K)
    | none => False) (vcAlts E all md l G s K)
end
/-- How a region is gone through. -/
def mdOf (E : Env) (id : Nat) : Md := match lkO E.keep (2000000 + id), lkO E.keep (3000000 + id) with
  | some m, some m' => ⟨true, m.map fun d => E.off + d, m'.map fun d => E.off + d, false⟩
  | _, _ => ⟨false, [], [], (match lkO E.keep (5000000 + id) with | some _ => true | none => false)⟩
def isVar : Blk → Bool
  | .var _ _ false => true
  | _ => false
def idsOk (F : List Nat) (hp : List (Nat × Blk)) : List Nat → Bool
  | [] => true
  | id :: l => isVar (lkb hp id) && !memN F id && idsOk F hp l
def vcDraw (E : Env) (id : Nat) (l : List Oper) (s : St) (K : St → Prop) : Prop :=
  match lkR E.ords id with
  | some ord => drawOk l ord = true ∧ match mdOf E id with
    | ⟨b, ids, F, c⟩ => cond (idsOk F s.hp ids) (cutP c (fun J => vcOrd E l ⟨b, ids, F, c⟩ ord true [] s (pruneK E id J)) K) False
  | none => False

/-- A loop, round by round. -/
def unr (f : St → (Exit → St → Prop) → Prop) : Nat → St → (Exit → St → Prop) → Prop
  | 0, _, _ => False
  | n + 1, s, K => f s fun e s' => match e with
    | .normal => unr f n s' K
    | e => K e s'
/-- What a round's body may be made of. -/
def roundOk : Code → Bool
  | .skip | .exit _ | .ret => true
  | .region _ _ d => !d
  | .seq a b => roundOk a && roundOk b
  | .cond _ a b => roundOk a && roundOk b
  | .block _ c => roundOk c
  | .loop c => roundOk c
  | _ => false
def setPs : List Nat → List AV → List (Nat × AV) → List (Nat × AV)
  | p :: ps, v :: vs, fr => setPs ps vs ((p, v) :: fr)
  | _, _, fr => fr
def allLt (n : Nat) : List Nat → Bool
  | [] => true
  | p :: ps => Nat.ble (p + 1) n && allLt n ps
/-- Behind a round's body. -/
def rndK (k : List (Nat × Blk) → Option Ks → AV → Prop) (e : Exit) (s2 : St) : Prop := match s2 with
  | ⟨_, hp2, some (k2, 0)⟩ => (match e with
    | .normal => k hp2 (some (k2, 0)) (.bool true)
    | .ret => k hp2 (some (k2, 1)) (.bool false)
    | .exit i => k hp2 (some (k2, i + 2)) (.bool false)
    | _ => False)
  | _ => False
/-- Behind the assignments. -/
def rndA (vb : St → (Exit → St → Prop) → Prop) (k : List (Nat × Blk) → Option Ks → AV → Prop) (e : Exit) (s1 : St) : Prop := match e, s1 with
  | .normal, ⟨fr1, hp1, some (k1, 0)⟩ => vb ⟨fr1, hp1, some (k1, 0)⟩ (rndK k)
  | _, _ => False
/-- A round: what the function that is ranged over calls. va, vb: what the assignments and the body do. -/
def bodyY (E : Env) (ps : List Nat) (fr : List (Nat × AV)) (va vb : St → (Exit → St → Prop) → Prop) : List Nat → Proc := fun S _ hp as k =>
  cond (Nat.beq as.length ps.length && allLt E.nt ps) (forceF (setPs ps as (killAllF S fr)) fun fr => va ⟨fr, hp, some ([], 0)⟩ (rndA vb k)) False
/-- Behind a range over a function: the jump by which its last round was left. -/
def afterY (fr : List (Nat × AV)) (ks : Option Ks) (K : Exit → St → Prop) (hp' : List (Nat × Blk)) (ks' : Option Ks) : Prop := match ks' with
  | some (S, p) => forceF (killAllF S fr) fun fr => (match p with
    | 0 => K .normal ⟨fr, hp', appK (some (S, 0)) ks⟩
    | 1 => K .ret ⟨fr, hp', appK (some (S, 0)) ks⟩
    | i + 2 => K (.exit i) ⟨fr, hp', appK (some (S, 0)) ks⟩)
  | none => False
def slotOf : Operand → Option Nat
  | .tmp d => some d
  | _ => none
/-- Behind a block. -/
def blkK (E : Env) (id : Nat) (K : Exit → St → Prop) (J : St → Prop) (e : Exit) (s' : St) : Prop := match e with
  | .exit i => cond (Nat.beq i id) (pruneK E (7000000 + id) J s') (K (.exit i) s')
  | .normal => pruneK E (7000000 + id) J s'
  | e => K e s'
/-- The same, where nothing is cut: a term that has K once. -/
def blkN (E : Env) (id : Nat) (K : Exit → St → Prop) (e : Exit) (s' : St) : Prop := blkK E id K (K .normal) e s'
def blkP (c : Bool) (E : Env) (id : Nat) (f : St → (Exit → St → Prop) → Prop) (s : St) (K : Exit → St → Prop) : Prop := match c with
  | false => f s (blkN E id K)
  | true => cutI (fun J => f s (blkK E id K J)) (K .normal)
theorem blkP_eq (c : Bool) (E : Env) (id : Nat) (f : St → (Exit → St → Prop) → Prop) (s : St) (K : Exit → St → Prop) : blkP c E id f s K = cutP c (fun J => f s (blkK E id K J)) (K .normal) := by cases c <;> rfl
/-- Behind the first of two. -/
def seqK (f : St → (Exit → St → Prop) → Prop) (K : Exit → St → Prop) (e : Exit) (s' : St) : Prop := match e with
  | .normal => f s' K
  | e => K e s'
def isLab : Code → Bool
  | .label _ => true
  | _ => false
def labN : Code → Nat
  | .label l => l
  | _ => 0
def noLab (c : Code) (l : Nat) : Bool := match findLabel c l with
  | some _ => false
  | none => true
theorem noLab_none {c : Code} {l : Nat} (h : noLab c l = true) : findLabel c l = none := by
  unfold noLab at h
  split at h
  · cases h
  · assumption
theorem isLab_some {c : Code} (h : isLab c = true) : c = .label (labN c) := by
  cases c <;> first | rfl | cases h
/-- No way out by a jump. -/
def noJump (K : Exit → St → Prop) (e : Exit) (s : St) : Prop := match e with
  | .goto _ => False
  | e => K e s
/-- From a label on, to which what is behind jumps back. -/
def jumpI (E : Env) (l : Nat) (A : St → (Exit → St → Prop) → Prop) (s : St) (K : Exit → St → Prop) : Prop :=
  ∃ (I : St → Prop) (μ : St → Nat) (M : Msk), maskK E M s I ∧ ∀ s', I s' → A s' fun e s'' => match e with
    | .goto l' => cond (Nat.beq l' l) (maskK E M s'' fun s3 => I s3 ∧ μ s3 < μ s') False
    | e => K e s''
theorem jumpI_mk {E : Env} {l : Nat} {A : St → (Exit → St → Prop) → Prop} {s : St} {K : Exit → St → Prop} (h : ∃ (I : St → Prop) (μ : St → Nat) (M : Msk), maskK E M s I ∧ ∀ s', I s' → A s' fun e s'' => match e with
    | .goto l' => cond (Nat.beq l' l) (maskK E M s'' fun s3 => I s3 ∧ μ s3 < μ s') False
    | e => K e s'') : jumpI E l A s K := h
theorem jumpI_out {E : Env} {l : Nat} {A : St → (Exit → St → Prop) → Prop} {s : St} {K : Exit → St → Prop} (h : jumpI E l A s K) : ∃ (I : St → Prop) (μ : St → Nat) (M : Msk), maskK E M s I ∧ ∀ s', I s' → A s' fun e s'' => match e with
    | .goto l' => cond (Nat.beq l' l) (maskK E M s'' fun s3 => I s3 ∧ μ s3 < μ s') False
    | e => K e s'' := h
attribute [irreducible] jumpI
def vc (E : Env) : Code → St → (Exit → St → Prop) → Prop
  | .skip, s, K => K .normal s
  | .region id ops dr, s, K => match ops with
    | ⟨l⟩ => cond dr (vcDraw E.noY id l s (K .normal)) (cutP (cutQ E id) (fun J => vcOps E l l s (pruneK E id J)) (K .normal))
  | .seq a b, s, K => vc E a s (seqK (vc E b) K)
  | .cond c a b, s, K => match opn s.fr c with
    | .bool t => br t
      (putF E.nt (slotOf c) s (.bool true) fun s => vc E a s K)
      (putF E.nt (slotOf c) s (.bool false) fun s => vc E b s K)
    | _ => False
  | .block id c, s, K => blkP (cutQ E (7000000 + id)) E id (vc E c) s K
  | .loop c, s, K => (∃ (I : St → Prop) (μ : St → Nat) (M : Msk), maskK E M s I ∧ ∀ s', I s' → vc E c s' fun e s'' => match e with
    | .normal => maskK E M s'' fun s3 => I s3 ∧ μ s3 < μ s'
    | e => K e s'') ∨ ∃ n, unr (fun s K => vc E c s K) n s K
  | .rangeFunc g ps asg body, s, K => match s with
    | ⟨fr, hp, ks⟩ => (match opn fr g, E.yl with
      | .fn (.func gf) [] cs, none => (match lkI E.its gf with
        | some I => cond (okVs cs && roundOk asg && roundOk body) (∀ l : Nat, forceN E.off fun o => forceN ((o + 999) * 1024) fun o => I l (bodyY E ps.toList fr (fun s K => vc E asg s K) (fun s K => vc E body s K)) o hp (.fn (.yield l) [] [] :: cs) fun hp' ks' _ => afterY fr ks K hp' ks') False
        | none => False)
      | _, _ => False)
  | .exit id, s, K => K (.exit id) s
  | .ret, s, K => K .ret s
  | .goto l, s, K => K (.goto l) s
  | .label _, s, K => K .normal s
  | .scope c, s, K => match c with
    | .seq a c1 => cond (isLab a) (vc E c1 s (noJump K)) (match c1 with
      | .seq b c2 => (match c2 with
        | .seq d c3 => (match c3 with
          | .seq x r => cond (isLab x && noLab a (labN x) && noLab b (labN x) && noLab d (labN x)) (vc E a s fun e s1 => match e with
              | .normal => vc E b s1 fun e s2 => match e with
                | .normal => vc E d s2 fun e s3 => match e with
                  | .normal => jumpI E (labN x) (fun s K => vc E r s K) s3 K
                  | e => noJump K e s3
                | e => noJump K e s2
              | e => noJump K e s1) False
          | _ => False)
        | _ => False)
      | _ => False)
    | _ => False
  | _, _, _ => False

/-! ### A function -/
def initF : Nat → List AV → List (Nat × AV)
  | _, [] => []
  | i, v :: l => (i, v) :: initF (i + 1) l
def resV (E : Env) (s : St) : List ResultVar → Option (List AV)
  | [] => some []
  | .tmp t :: l => match resV E s l with
    | some r => some (lk s.fr t :: r)
    | none => none
  | .cell d t :: l => match lk s.fr d with
    | .ptr id p => match getB (lkb s.hp id) p, lkT E.tt t, resV E s l with
      | some v, some e, some r => cond (fits e v) (some (v :: r)) none
      | _, _, _ => none
    | _ => none
def tupOf : List AV → AV
  | [v] => v
  | l => .tup l
def resP (E : Env) (rs : List ResultVar) (s : St) (k : AV → Prop) : Prop :=
  match resV E s rs with
  | some l => cond (okVs l) (k (tupOf l)) False
  | none => False
def isRet : Exit → Bool
  | .normal | .ret => true
  | _ => false
/-- Behind a function that's looked into. -/
def retK (E : Env) (rs : List ResultVar) (k : List (Nat × Blk) → Option Ks → AV → Prop) (e : Exit) (s : St) : Prop :=
  cond (isRet e) (resP E rs s fun r => match s.ks with | some ks => k s.hp (some ks) r | none => False) False
/-- What a function does, for whom looks into it. -/
def procOf (E : Env) (nt : Nat) (rs : List ResultVar) (c : Code) : Proc := fun off hp as k =>
  cond (Nat.ble as.length nt) (vc (E.for off nt) c ⟨initF 0 as, hp, some ([], 0)⟩ (retK E rs k)) False
/-- What an iterator does. -/
def itOf (E : Env) (nt : Nat) (rs : List ResultVar) (c : Code) : Nat → (List Nat → Proc) → Proc := fun l Y => procOf (E.yld l Y) nt rs c
/-- What is to be shown of a function of data. -/
def fnVC (E : Env) (nt : Nat) (rs : List ResultVar) (ts : List Nat) (c : Code) (as : List AV) (r : AV) : Prop :=
  cond (Nat.ble as.length nt) (vc (E.noY.for 0 nt) c ⟨initF 0 as, [], none⟩ fun e s => match e with
    | .normal | .ret => resP E rs s fun v => forceD (canR E.tt ts (norm s.hp v)) fun v => v = r
    | _ => False) False
end Go.Proofs.YtoihmfgkmndjfaaV
