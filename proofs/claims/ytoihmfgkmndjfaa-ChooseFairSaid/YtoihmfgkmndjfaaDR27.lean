import Derived.Test.YtoihmfgkmndjfaaVcG1
namespace Go.Proofs.YtoihmfgkmndjfaaV
set_option linter.unusedVariables false
def R27_Fine_J1 : Option Bool :=
  some true
def R27_Fine_L1 (a0 : Int × Int × Int × (List Int) × Unit) (k1 : Int → Option Bool) (x1 : Int) : Option Bool :=
  bif decide (x1 < (a0.2.2.2.1.length : Int)) then
    chk (0 ≤ x1 ∧ x1 < (a0.2.2.2.1.length : Int)) <|
    bif decide ((a0.2.2.2.1.getD x1.toNat 0) < 0) then
      some false
    else
      chk (0 ≤ x1 ∧ x1 < (a0.2.2.2.1.length : Int)) <|
      bif decide ((a0.2.2.2.1.getD x1.toNat 0) ≥ a0.2.1) then
        some false
      else
        bif decide (x1 > 0) then
          chk (0 ≤ x1 ∧ x1 < (a0.2.2.2.1.length : Int)) <|
          chk (0 ≤ (IntKind.i64.wrap (x1 - 1)) ∧ (IntKind.i64.wrap (x1 - 1)) < (a0.2.2.2.1.length : Int)) <|
          bif decide ((a0.2.2.2.1.getD x1.toNat 0) ≤ (a0.2.2.2.1.getD (IntKind.i64.wrap (x1 - 1)).toNat 0)) then
            some false
          else
            k1 (IntKind.i64.wrap (x1 + 1))
        else
          k1 (IntKind.i64.wrap (x1 + 1))
  else
    R27_Fine_J1
def R27_Fine (a0 : Int × Int × Int × (List Int) × Unit) : Option Bool :=
  bif decide (a0.1 < 0) then
    some false
  else
    bif decide (a0.1 > 2) then
      some false
    else
      bif decide (a0.2.1 < 1) then
        some false
      else
        bif decide (a0.2.1 > 6) then
          some false
        else
          bif decide (a0.2.2.1 < 0) then
            some false
          else
            bif decide (a0.2.2.1 ≥ a0.2.1) then
              some false
            else
              loop (R27_Fine_L1 a0) 0
def R27_Choose_J1 (a0 : Int × Int × Int × (List Int) × Unit) (a1 : Int) (p1 : Int) : Option (Int × Int × Unit) :=
  bif decide (a0.1 = 2) then
    chk (p1 ≠ 0) <|
    bif decide ((Int.tmod a1 p1) < 0) then
      chk (0 ≤ (IntKind.i64.wrap ((Int.tmod a1 p1) + p1)) ∧ (IntKind.i64.wrap ((Int.tmod a1 p1) + p1)) < (a0.2.2.2.1.length : Int)) <|
      letv (a0.2.2.2.1.getD (IntKind.i64.wrap ((Int.tmod a1 p1) + p1)).toNat 0) fun v1 =>
      some (v1, 0, ())
    else
      chk (0 ≤ (Int.tmod a1 p1) ∧ (Int.tmod a1 p1) < (a0.2.2.2.1.length : Int)) <|
      some (a0.2.2.2.1.getD (Int.tmod a1 p1).toNat 0, 0, ())
  else
    chk (0 ≤ (0 : Int) ∧ (0 : Int) < (a0.2.2.2.1.length : Int)) <|
    some (a0.2.2.2.1.getD (0 : Int).toNat 0, 0, ())
def R27_Choose_L1 (p2 : Int) (a0 : Int × Int × Int × (List Int) × Unit) (a1 : Int) (k1 : Int → Option (Int × Int × Unit)) (x1 : Int) : Option (Int × Int × Unit) :=
  bif decide (x1 < p2) then
    chk (0 ≤ x1 ∧ x1 < (a0.2.2.2.1.length : Int)) <|
    bif decide ((a0.2.2.2.1.getD x1.toNat 0) ≥ a0.2.2.1) then
      chk (0 ≤ x1 ∧ x1 < (a0.2.2.2.1.length : Int)) <|
      some (a0.2.2.2.1.getD x1.toNat 0, 0, ())
    else
      k1 (IntKind.i64.wrap (x1 + 1))
  else
    R27_Choose_J1 a0 a1 p2
def R27_Choose (a0 : Int × Int × Int × (List Int) × Unit) (a1 : Int) : Option (Int × Int × Unit) :=
  Option.bind (R27_Fine a0) fun r1 =>
  bif !r1 then
    some (0, 1, ())
  else
    bif decide ((a0.2.2.2.1.length : Int) = 0) then
      some (0, 6, ())
    else
      bif decide (a0.1 = 1) then
        loop (R27_Choose_L1 (a0.2.2.2.1.length : Int) a0 a1) 0
      else
        bif decide (a0.1 = 2) then
          chk ((a0.2.2.2.1.length : Int) ≠ 0) <|
          bif decide ((Int.tmod a1 (a0.2.2.2.1.length : Int)) < 0) then
            letv (IntKind.i64.wrap ((Int.tmod a1 (a0.2.2.2.1.length : Int)) + (a0.2.2.2.1.length : Int))) fun v2 =>
            chk (0 ≤ v2 ∧ v2 < (a0.2.2.2.1.length : Int)) <|
            some (a0.2.2.2.1.getD v2.toNat 0, 0, ())
          else
            chk (0 ≤ (Int.tmod a1 (a0.2.2.2.1.length : Int)) ∧ (Int.tmod a1 (a0.2.2.2.1.length : Int)) < (a0.2.2.2.1.length : Int)) <|
            letv (a0.2.2.2.1.getD (Int.tmod a1 (a0.2.2.2.1.length : Int)).toNat 0) fun v3 =>
            some (v3, 0, ())
        else
          chk (0 ≤ (0 : Int) ∧ (0 : Int) < (a0.2.2.2.1.length : Int)) <|
          some (a0.2.2.2.1.getD (0 : Int).toNat 0, 0, ())
def R27_Turn (a0 : Int) (a1 : Int) : Option Int :=
  bif decide (a1 < 1) then
    some 0
  else
    bif decide (a1 > 6) then
      some 0
    else
      bif decide (a0 < 0) then
        some 0
      else
        bif decide (a0 ≥ a1) then
          some 0
        else
          bif decide (a0 = (IntKind.i64.wrap (a1 - 1))) then
            some 0
          else
            some (IntKind.i64.wrap (a0 + 1))
end Go.Proofs.YtoihmfgkmndjfaaV
