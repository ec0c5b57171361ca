import Derived.Test.YtoihmfgkmndjfaaVcMt
namespace Go.Proofs.YtoihmfgkmndjfaaV
set_option linter.unusedVariables false
def rings_Ring_int_ok (x : Bool × (List Int) × Int × Int × Unit) : Option ((Bool × (List Int) × Int × Int × Unit) × (Bool × Unit)) :=
  some (x, (x.1, ()))
def rings_Ring_int_Push_C1 (r1 : (Bool × (List Int) × Int × Int × Unit) × (Bool × Unit)) (a0 : Int) (k1 : (Bool × Int × Int × List Int) → Option ((Bool × (List Int) × Int × Int × Unit) × (Int × Unit))) : Option ((Bool × (List Int) × Int × Int × Unit) × (Int × Unit)) :=
  chk ((r1.1.2.1.length : Int) ≠ 0) <|
  letv (Int.tmod (IntKind.i64.wrap (r1.1.2.2.1 + r1.1.2.2.2.1)) (r1.1.2.1.length : Int)) fun v2 =>
  chk (0 ≤ v2 ∧ v2 < (r1.1.2.1.length : Int)) <|
  k1 (r1.1.1, r1.1.2.2.1, r1.1.2.2.2.1, r1.1.2.1.set v2.toNat a0)
def rings_Ring_int_Push_R1 (x1 : Bool × Int × Int × List Int) : Option ((Bool × (List Int) × Int × Int × Unit) × (Int × Unit)) :=
  some ((x1.1, x1.2.2.2, x1.2.1, IntKind.i64.wrap (x1.2.2.1 + 1), ()), (0, ()))
def rings_Ring_int_Push (x : Bool × (List Int) × Int × Int × Unit) (a0 : Int) : Option ((Bool × (List Int) × Int × Int × Unit) × (Int × Unit)) :=
  Option.bind (rings_Ring_int_ok x) fun r1 =>
  bif !r1.2.1 then
    some (r1.1, (2, ()))
  else
    letv (decide (r1.1.2.2.2.1 = (r1.1.2.1.length : Int))) fun v1 =>
    bif v1 then
      some (r1.1, (10, ()))
    else
      cutv 1 (rings_Ring_int_Push_C1 r1 a0) rings_Ring_int_Push_R1
def rings_Ring_int_Pop_C1 (r1 : (Bool × (List Int) × Int × Int × Unit) × (Bool × Unit)) (k1 : (Int × Int × Bool × Int × Int × List Int) → Option ((Bool × (List Int) × Int × Int × Unit) × (Int × Int × Unit))) : Option ((Bool × (List Int) × Int × Int × Unit) × (Int × Int × Unit)) :=
  chk (((r1.1.2.1.set r1.1.2.2.1.toNat 0).length : Int) ≠ 0) <|
  letv (Int.tmod (IntKind.i64.wrap (r1.1.2.2.1 + 1)) ((r1.1.2.1.set r1.1.2.2.1.toNat 0).length : Int)) fun v1 =>
  k1 (r1.1.2.1.getD r1.1.2.2.1.toNat 0, v1, r1.1.1, r1.1.2.2.1, r1.1.2.2.2.1, r1.1.2.1.set r1.1.2.2.1.toNat 0)
def rings_Ring_int_Pop_R1 (x1 : Int × Int × Bool × Int × Int × List Int) : Option ((Bool × (List Int) × Int × Int × Unit) × (Int × Int × Unit)) :=
  some ((x1.2.2.1, x1.2.2.2.2.2, x1.2.1, IntKind.i64.wrap (x1.2.2.2.2.1 - 1), ()), (x1.1, 0, ()))
def rings_Ring_int_Pop (x : Bool × (List Int) × Int × Int × Unit) : Option ((Bool × (List Int) × Int × Int × Unit) × (Int × Int × Unit)) :=
  Option.bind (rings_Ring_int_ok x) fun r1 =>
  bif !r1.2.1 then
    some (r1.1, (0, 2, ()))
  else
    bif decide (r1.1.2.2.2.1 = 0) then
      some (r1.1, (0, 11, ()))
    else
      chk (0 ≤ r1.1.2.2.1 ∧ r1.1.2.2.1 < (r1.1.2.1.length : Int)) <|
      chk (0 ≤ r1.1.2.2.1 ∧ r1.1.2.2.1 < (r1.1.2.1.length : Int)) <|
      cutv 1 (rings_Ring_int_Pop_C1 r1) rings_Ring_int_Pop_R1
def rings_Ring_int_Len (x : Bool × (List Int) × Int × Int × Unit) : Option ((Bool × (List Int) × Int × Int × Unit) × (Int × Unit)) :=
  Option.bind (rings_Ring_int_ok x) fun r1 =>
  bif !r1.2.1 then
    some (r1.1, (0, ()))
  else
    some (r1.1, (r1.1.2.2.2.1, ()))
def rings_Ring_int_Room (x : Bool × (List Int) × Int × Int × Unit) : Option ((Bool × (List Int) × Int × Int × Unit) × (Int × Unit)) :=
  Option.bind (rings_Ring_int_ok x) fun r1 =>
  bif !r1.2.1 then
    some (r1.1, (0, ()))
  else
    some (r1.1, ((r1.1.2.1.length : Int), ()))
def rings_Ring_int_At_C1 (r1 : (Bool × (List Int) × Int × Int × Unit) × (Bool × Unit)) (a0 : Int) (k1 : (Int × Bool × Int × Int × List Int) → Option ((Bool × (List Int) × Int × Int × Unit) × (Int × Int × Unit))) : Option ((Bool × (List Int) × Int × Int × Unit) × (Int × Int × Unit)) :=
  chk ((r1.1.2.1.length : Int) ≠ 0) <|
  letv (Int.tmod (IntKind.i64.wrap (r1.1.2.2.1 + a0)) (r1.1.2.1.length : Int)) fun v1 =>
  chk (0 ≤ v1 ∧ v1 < (r1.1.2.1.length : Int)) <|
  k1 (r1.1.2.1.getD v1.toNat 0, r1.1.1, r1.1.2.2.1, r1.1.2.2.2.1, r1.1.2.1)
def rings_Ring_int_At_R1 (x1 : Int × Bool × Int × Int × List Int) : Option ((Bool × (List Int) × Int × Int × Unit) × (Int × Int × Unit)) :=
  some ((x1.2.1, x1.2.2.2.2, x1.2.2.1, x1.2.2.2.1, ()), (x1.1, 0, ()))
def rings_Ring_int_At (x : Bool × (List Int) × Int × Int × Unit) (a0 : Int) : Option ((Bool × (List Int) × Int × Int × Unit) × (Int × Int × Unit)) :=
  Option.bind (rings_Ring_int_ok x) fun r1 =>
  bif !r1.2.1 then
    some (r1.1, (0, 2, ()))
  else
    bif decide (a0 < 0) then
      some (r1.1, (0, 8, ()))
    else
      bif decide (a0 ≥ r1.1.2.2.2.1) then
        some (r1.1, (0, 8, ()))
      else
        cutv 1 (rings_Ring_int_At_C1 r1 a0) rings_Ring_int_At_R1
def rings_Ring_int_List (x : Bool × (List Int) × Int × Int × Unit) : Option ((Bool × (List Int) × Int × Int × Unit) × ((List Int) × Unit)) :=
  Option.bind (rings_Ring_int_ok x) fun r1 =>
  bif !r1.2.1 then
    some (r1.1, ([], ()))
  else
    bif decide (r1.1.2.2.2.1 = 0) then
      some (r1.1, ([], ()))
    else
      letv (min (IntKind.i64.wrap (r1.1.2.2.1 + r1.1.2.2.2.1)) (r1.1.2.1.length : Int)) fun v1 =>
      chk (0 ≤ r1.1.2.2.1 ∧ r1.1.2.2.1 ≤ v1 ∧ v1 ≤ v1 ∧ v1 ≤ (r1.1.2.1.length : Int)) <|
      chk (((r1.1.2.1.take v1.toNat).drop r1.1.2.2.1.toNat).length ≤ 4294967296) <|
      letv ((r1.1.2.1.take v1.toNat).drop r1.1.2.2.1.toNat) fun l1 =>
      chk (0 ≤ (0 : Int) ∧ (0 : Int) ≤ (IntKind.i64.wrap (r1.1.2.2.2.1 - (v1 - r1.1.2.2.1))) ∧ (IntKind.i64.wrap (r1.1.2.2.2.1 - (v1 - r1.1.2.2.1))) ≤ (r1.1.2.1.length : Int)) <|
      chk (l1.length + ((r1.1.2.1.take (IntKind.i64.wrap (r1.1.2.2.2.1 - (v1 - r1.1.2.2.1))).toNat).drop (0 : Int).toNat).length ≤ 4294967296) <|
      letv (l1 ++ ((r1.1.2.1.take (IntKind.i64.wrap (r1.1.2.2.2.1 - (v1 - r1.1.2.2.1))).toNat).drop (0 : Int).toNat)) fun l2 =>
      some (r1.1, (l2, ()))
def rings_Ring_int_Clear (x : Bool × (List Int) × Int × Int × Unit) : Option ((Bool × (List Int) × Int × Int × Unit) × Unit) :=
  Option.bind (rings_Ring_int_ok x) fun r1 =>
  bif r1.2.1 then
    some ((r1.1.1, List.replicate r1.1.2.1.length 0, 0, 0, ()), ())
  else
    some (r1.1, ())
end Go.Proofs.YtoihmfgkmndjfaaV
