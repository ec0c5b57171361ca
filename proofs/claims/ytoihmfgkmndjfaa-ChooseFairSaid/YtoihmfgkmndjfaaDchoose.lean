import Derived.Test.YtoihmfgkmndjfaaVcG1
namespace Go.Proofs.YtoihmfgkmndjfaaV
set_option linter.unusedVariables false
def choose_guard (a0 : Int) (a1 : Int) : Option Bool :=
  bif decide (a1 ≥ 1) then
    bif decide (a1 ≤ 6) then
      bif decide (a0 ≥ 0) then
        some (decide (a0 < a1))
      else
        some false
    else
      some false
  else
    some false
def choose_Fine_J1 : Option Bool :=
  some true
def choose_Fine_L1 (p1 : Int) (a0 : Int × Int × Int × (List Int) × Unit) (k1 : (Int × Int) → Option Bool) (x1 : Int × Int) : Option Bool :=
  bif decide (x1.2 < p1) then
    chk (0 ≤ x1.2 ∧ x1.2 < (a0.2.2.2.1.length : Int)) <|
    bif decide ((a0.2.2.2.1.getD x1.2.toNat 0) ≤ x1.1) then
      some false
    else
      Option.bind (choose_guard (a0.2.2.2.1.getD x1.2.toNat 0) a0.2.1) fun r2 =>
      bif !r2 then
        some false
      else
        k1 (a0.2.2.2.1.getD x1.2.toNat 0, IntKind.i64.wrap (x1.2 + 1))
  else
    choose_Fine_J1
def choose_Fine (a0 : Int × Int × Int × (List Int) × Unit) : Option Bool :=
  bif decide (a0.1 < 0) then
    some false
  else
    bif decide (a0.1 > 2) then
      some false
    else
      Option.bind (choose_guard a0.2.2.1 a0.2.1) fun r1 =>
      bif !r1 then
        some false
      else
        loop (choose_Fine_L1 (a0.2.2.2.1.length : Int) a0) ((-1), 0)
def choose_Choose_J1 (a0 : Int × Int × Int × (List Int) × Unit) : Option (Int × Int × Unit) :=
  chk (0 ≤ (0 : Int) ∧ (0 : Int) < (a0.2.2.2.1.length : Int)) <|
  some (a0.2.2.2.1.getD (0 : Int).toNat 0, 0, ())
def choose_Choose_J2 (a0 : Int × Int × Int × (List Int) × Unit) : Option (Int × Int × Unit) :=
  choose_Choose_J1 a0
def choose_Choose_L1 (p1 : Int) (a0 : Int × Int × Int × (List Int) × Unit) (k1 : Int → Option (Int × Int × Unit)) (x1 : Int) : Option (Int × Int × Unit) :=
  bif decide (x1 < p1) then
    chk (0 ≤ x1 ∧ x1 < (a0.2.2.2.1.length : Int)) <|
    bif decide ((a0.2.2.2.1.getD x1.toNat 0) ≥ a0.2.2.1) then
      some (a0.2.2.2.1.getD x1.toNat 0, 0, ())
    else
      k1 (IntKind.i64.wrap (x1 + 1))
  else
    choose_Choose_J2 a0
def choose_Choose (a0 : Int × Int × Int × (List Int) × Unit) (a1 : Int) : Option (Int × Int × Unit) :=
  Option.bind (choose_Fine a0) fun r1 =>
  bif !r1 then
    some (0, 1, ())
  else
    bif decide ((a0.2.2.2.1.length : Int) = 0) then
      some (0, 6, ())
    else
      bif decide (a0.1 = 1) then
        loop (choose_Choose_L1 (a0.2.2.2.1.length : Int) a0) 0
      else
        bif decide (a0.1 = 2) then
          chk ((a0.2.2.2.1.length : Int) ≠ 0) <|
          chk ((a0.2.2.2.1.length : Int) ≠ 0) <|
          chk (0 ≤ (Int.tmod (IntKind.i64.wrap ((Int.tmod a1 (a0.2.2.2.1.length : Int)) + (a0.2.2.2.1.length : Int))) (a0.2.2.2.1.length : Int)) ∧ (Int.tmod (IntKind.i64.wrap ((Int.tmod a1 (a0.2.2.2.1.length : Int)) + (a0.2.2.2.1.length : Int))) (a0.2.2.2.1.length : Int)) < (a0.2.2.2.1.length : Int)) <|
          letv (a0.2.2.2.1.getD (Int.tmod (IntKind.i64.wrap ((Int.tmod a1 (a0.2.2.2.1.length : Int)) + (a0.2.2.2.1.length : Int))) (a0.2.2.2.1.length : Int)).toNat 0) fun v1 =>
          some (v1, 0, ())
        else
          choose_Choose_J1 a0
def choose_Turn (a0 : Int) (a1 : Int) : Option Int :=
  Option.bind (choose_guard a0 a1) fun r1 =>
  bif !r1 then
    some 0
  else
    chk (a1 ≠ 0) <|
    some (Int.tmod (IntKind.i64.wrap (a0 + 1)) a1)
end Go.Proofs.YtoihmfgkmndjfaaV
