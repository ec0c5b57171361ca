import Derived.Test.YtoihmfgkmndjfaaVcMt
namespace Go.Proofs.YtoihmfgkmndjfaaV
set_option linter.unusedVariables false
def R02_Same_J1 : Option Bool :=
  some true
def R02_Same_L1 (a0 : List Int) (a1 : List Int) (k1 : Int → Option Bool) (x1 : Int) : Option Bool :=
  bif decide (x1 < (a0.length : Int)) then
    chk (0 ≤ x1 ∧ x1 < (a0.length : Int)) <|
    chk (0 ≤ x1 ∧ x1 < (a1.length : Int)) <|
    bif !decide ((a0.getD x1.toNat 0) = (a1.getD x1.toNat 0)) then
      some false
    else
      k1 (IntKind.i64.wrap (x1 + 1))
  else
    R02_Same_J1
def R02_Same (a0 : List Int) (a1 : List Int) : Option Bool :=
  bif !decide ((a0.length : Int) = (a1.length : Int)) then
    some false
  else
    loop (R02_Same_L1 a0 a1) 0
end Go.Proofs.YtoihmfgkmndjfaaV
