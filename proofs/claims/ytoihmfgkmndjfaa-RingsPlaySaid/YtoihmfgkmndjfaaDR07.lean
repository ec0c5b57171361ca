import Derived.Test.YtoihmfgkmndjfaaVcMt
namespace Go.Proofs.YtoihmfgkmndjfaaV
set_option linter.unusedVariables false
def R07_New (a0 : Int) : Option ((Int × (List Int) × Unit) × Int × Unit) :=
  bif decide (a0 < 0) then
    some ((0, [], ()), 1, ())
  else
    bif decide (a0 > 1024) then
      some ((0, [], ()), 1, ())
    else
      some ((a0, [], ()), 0, ())
def R07_Pop (a0 : Int × (List Int) × Unit) : Option ((Int × (List Int) × Unit) × Int × Int × Unit) :=
  bif decide ((a0.2.1.length : Int) = 0) then
    some (a0, 0, 11, ())
  else
    chk (0 ≤ (0 : Int) ∧ (0 : Int) < (a0.2.1.length : Int)) <|
    chk (0 ≤ (1 : Int) ∧ (1 : Int) ≤ (a0.2.1.length : Int) ∧ (a0.2.1.length : Int) ≤ (a0.2.1.length : Int)) <|
    some ((a0.1, (a0.2.1.take (a0.2.1.length : Int).toNat).drop (1 : Int).toNat, ()), a0.2.1.getD (0 : Int).toNat 0, 0, ())
def R07_Push (a0 : Int × (List Int) × Unit) (a1 : Int) : Option ((Int × (List Int) × Unit) × Int × Unit) :=
  bif decide ((a0.2.1.length : Int) = a0.1) then
    some (a0, 10, ())
  else
    chk (a0.2.1.length ≤ 4294967296) <|
    chk (a0.2.1.length + ([a1] : List Int).length ≤ 4294967296) <|
    some ((a0.1, a0.2.1 ++ [a1], ()), 0, ())
def R07_At (a0 : Int × (List Int) × Unit) (a1 : Int) : Option (Int × Int × Unit) :=
  bif decide (a1 < 0) then
    some (0, 8, ())
  else
    bif decide (a1 ≥ (a0.2.1.length : Int)) then
      some (0, 8, ())
    else
      chk (0 ≤ a1 ∧ a1 < (a0.2.1.length : Int)) <|
      some (a0.2.1.getD a1.toNat 0, 0, ())
end Go.Proofs.YtoihmfgkmndjfaaV
