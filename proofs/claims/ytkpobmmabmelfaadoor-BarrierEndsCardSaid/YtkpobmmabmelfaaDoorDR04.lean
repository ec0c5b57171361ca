import Derived.Test.YtkpobmmabmelfaaDoorVcG1
namespace Go.Proofs.YtkpobmmabmelfaaDoorV
set_option linter.unusedVariables false
def R04_Has_J1 : Option Bool :=
  some false
def R04_Has_L1 (a0 : List Int) (a1 : Int) (k1 : Int → Option Bool) (x1 : Int) : Option Bool :=
  bif decide (x1 < (a0.length : Int)) then
    chk (0 ≤ x1 ∧ x1 < (a0.length : Int)) <|
    bif decide ((a0.getD x1.toNat 0) = a1) then
      some true
    else
      k1 (IntKind.i64.wrap (x1 + 1))
  else
    R04_Has_J1
def R04_Has (a0 : List Int) (a1 : Int) : Option Bool :=
  loop (R04_Has_L1 a0 a1) 0
def R04_Of_J1 (p1 : List Int) : Option (List Int) :=
  some p1
def R04_Of_L1 (a0 : List Int) (k1 : (Int × List Int) → Option (List Int)) (x1 : Int × List Int) : Option (List Int) :=
  bif decide (x1.1 ≤ 255) then
    Option.bind (R04_Has a0 x1.1) fun r1 =>
    bif r1 then
      chk (x1.2.length + ([x1.1] : List Int).length ≤ 4294967296) <|
      k1 (IntKind.i64.wrap (x1.1 + 1), x1.2 ++ [x1.1])
    else
      k1 (IntKind.i64.wrap (x1.1 + 1), x1.2)
  else
    R04_Of_J1 x1.2
def R04_Of (a0 : List Int) : Option (List Int) :=
  loop (R04_Of_L1 a0) (0, [])
def R04_fine (a0 : Int) : Option Bool :=
  bif decide (a0 ≥ 0) then
    some (decide (a0 ≤ 255))
  else
    some false
def R04_Words_J1 (p1 : List Int) (p2 : List Int) : Option (List Int) :=
  some p2
def R04_Words_L1 (a0 : List Int) (p3 : List Int) (k1 : (Int × List Int) → Option (List Int)) (x1 : Int × List Int) : Option (List Int) :=
  bif decide (x1.1 < (a0.length : Int)) then
    chk (0 ≤ x1.1 ∧ x1.1 < (a0.length : Int)) <|
    Option.bind (R04_fine (a0.getD x1.1.toNat 0)) fun r1 =>
    bif r1 then
      chk (0 ≤ x1.1 ∧ x1.1 < (a0.length : Int)) <|
      chk ((64 : Int) ≠ 0) <|
      chk (0 ≤ (IntKind.i64.wrap (Int.tdiv (a0.getD x1.1.toNat 0) 64)) ∧ (IntKind.i64.wrap (Int.tdiv (a0.getD x1.1.toNat 0) 64)) < (4 : Int)) <|
      chk (0 ≤ x1.1 ∧ x1.1 < (a0.length : Int)) <|
      chk ((64 : Int) ≠ 0) <|
      chk (0 ≤ (IntKind.u64.wrap (Int.tmod (a0.getD x1.1.toNat 0) 64))) <|
      chk (0 ≤ (IntKind.i64.wrap (Int.tdiv (a0.getD x1.1.toNat 0) 64)) ∧ (IntKind.i64.wrap (Int.tdiv (a0.getD x1.1.toNat 0) 64)) < (4 : Int)) <|
      k1 (IntKind.i64.wrap (x1.1 + 1), x1.2.set (IntKind.i64.wrap (Int.tdiv (a0.getD x1.1.toNat 0) 64)).toNat (bitsOp .or .u64 (x1.2.getD (IntKind.i64.wrap (Int.tdiv (a0.getD x1.1.toNat 0) 64)).toNat 0) (IntKind.u64.wrap (1 * 2 ^ min (IntKind.u64.wrap (Int.tmod (a0.getD x1.1.toNat 0) 64)).toNat 64))))
    else
      k1 (IntKind.i64.wrap (x1.1 + 1), x1.2)
  else
    R04_Words_J1 p3 x1.2
def R04_Words (a0 : List Int) : Option (List Int) :=
  loop (R04_Words_L1 a0 (List.replicate 4 0)) (0, (List.replicate 4 0))
def R04_Less_J1 (p1 : List Int) : Option (List Int) :=
  some p1
def R04_Less_L1 (a0 : List Int) (a1 : List Int) (k1 : (Int × List Int) → Option (List Int)) (x1 : Int × List Int) : Option (List Int) :=
  bif decide (x1.1 < (a0.length : Int)) then
    chk (0 ≤ x1.1 ∧ x1.1 < (a0.length : Int)) <|
    Option.bind (R04_Has a1 (a0.getD x1.1.toNat 0)) fun r1 =>
    bif !r1 then
      chk (0 ≤ x1.1 ∧ x1.1 < (a0.length : Int)) <|
      chk (x1.2.length + ([a0.getD x1.1.toNat 0] : List Int).length ≤ 4294967296) <|
      k1 (IntKind.i64.wrap (x1.1 + 1), x1.2 ++ [a0.getD x1.1.toNat 0])
    else
      k1 (IntKind.i64.wrap (x1.1 + 1), x1.2)
  else
    R04_Less_J1 x1.2
def R04_Less (a0 : List Int) (a1 : List Int) : Option (List Int) :=
  loop (R04_Less_L1 a0 a1) (0, [])
def R04_Add (a0 : List Int) (a1 : Int) : Option (List Int) :=
  chk (a0.length ≤ 4294967296) <|
  chk (a0.length + ([a1] : List Int).length ≤ 4294967296) <|
  Option.bind (R04_Of (a0 ++ [a1])) fun r1 =>
  some r1
def R04_Drop_J1 (p1 : List Int) : Option (List Int) :=
  some p1
def R04_Drop_L1 (a0 : List Int) (a1 : Int) (k1 : (Int × List Int) → Option (List Int)) (x1 : Int × List Int) : Option (List Int) :=
  bif decide (x1.1 < (a0.length : Int)) then
    chk (0 ≤ x1.1 ∧ x1.1 < (a0.length : Int)) <|
    bif !decide ((a0.getD x1.1.toNat 0) = a1) then
      chk (0 ≤ x1.1 ∧ x1.1 < (a0.length : Int)) <|
      chk (x1.2.length + ([a0.getD x1.1.toNat 0] : List Int).length ≤ 4294967296) <|
      k1 (IntKind.i64.wrap (x1.1 + 1), x1.2 ++ [a0.getD x1.1.toNat 0])
    else
      k1 (IntKind.i64.wrap (x1.1 + 1), x1.2)
  else
    R04_Drop_J1 x1.2
def R04_Drop (a0 : List Int) (a1 : Int) : Option (List Int) :=
  loop (R04_Drop_L1 a0 a1) (0, [])
end Go.Proofs.YtkpobmmabmelfaaDoorV
