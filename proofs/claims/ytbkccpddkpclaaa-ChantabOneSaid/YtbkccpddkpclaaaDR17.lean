import Derived.Test.YtbkccpddkpclaaaVcG1
namespace Go.Proofs.YtbkccpddkpclaaaV
set_option linter.unusedVariables false
def R17_At_J1 : Option Int :=
  some (-1)
def R17_At_L1 (a0 : List Int) (a1 : Int) (k1 : Int → Option Int) (x1 : Int) : Option Int :=
  bif decide (x1 < (a0.length : Int)) then
    chk (0 ≤ x1 ∧ x1 < (a0.length : Int)) <|
    bif decide ((a0.getD x1.toNat 0) = a1) then
      some x1
    else
      k1 (IntKind.i64.wrap (x1 + 1))
  else
    R17_At_J1
def R17_At (a0 : List Int) (a1 : Int) : Option Int :=
  loop (R17_At_L1 a0 a1) 0
def R17_Fine_J1 (a0 : Bool × (List Int) × Unit) : Option Bool :=
  bif a0.1 then
    some true
  else
    some (decide ((a0.2.1.length : Int) < 2))
def R17_Fine_L1 (a0 : Bool × (List Int) × Unit) (k1 : Int → Option Bool) (x1 : Int) : Option Bool :=
  bif decide (x1 < (a0.2.1.length : Int)) then
    chk (0 ≤ x1 ∧ x1 < (a0.2.1.length : Int)) <|
    bif decide ((a0.2.1.getD x1.toNat 0) < 0) then
      some false
    else
      chk (0 ≤ x1 ∧ x1 < (a0.2.1.length : Int)) <|
      bif decide ((a0.2.1.getD x1.toNat 0) > 15) then
        some false
      else
        chk (0 ≤ x1 ∧ x1 < (a0.2.1.length : Int)) <|
        Option.bind (R17_At a0.2.1 (a0.2.1.getD x1.toNat 0)) fun r1 =>
        bif !decide (r1 = x1) then
          some false
        else
          k1 (IntKind.i64.wrap (x1 + 1))
  else
    R17_Fine_J1 a0
def R17_Fine (a0 : Bool × (List Int) × Unit) : Option Bool :=
  loop (R17_Fine_L1 a0) 0
def R17_Leave (a0 : Bool × (List Int) × Unit) (a1 : Int) : Option ((Bool × (List Int) × Unit) × Bool × Unit) :=
  Option.bind (R17_At a0.2.1 a1) fun r1 =>
  Option.bind (R17_Fine a0) fun r2 =>
  bif !r2 then
    some (a0, false, ())
  else
    bif decide (r1 < 0) then
      some (a0, false, ())
    else
      chk (0 ≤ (0 : Int) ∧ (0 : Int) ≤ r1 ∧ r1 ≤ (a0.2.1.length : Int)) <|
      chk (0 ≤ (IntKind.i64.wrap (r1 + 1)) ∧ (IntKind.i64.wrap (r1 + 1)) ≤ (a0.2.1.length : Int) ∧ (a0.2.1.length : Int) ≤ (a0.2.1.length : Int)) <|
      chk (((a0.2.1.take r1.toNat).drop (0 : Int).toNat).length ≤ 4294967296) <|
      letv ((a0.2.1.take r1.toNat).drop (0 : Int).toNat) fun l1 =>
      chk (l1.length + ((a0.2.1.take (a0.2.1.length : Int).toNat).drop (IntKind.i64.wrap (r1 + 1)).toNat).length ≤ 4294967296) <|
      letv (l1 ++ ((a0.2.1.take (a0.2.1.length : Int).toNat).drop (IntKind.i64.wrap (r1 + 1)).toNat)) fun l2 =>
      some ((a0.1, l2, ()), true, ())
end Go.Proofs.YtbkccpddkpclaaaV
