import Derived.Test.YtejedlpnejjnbaaSVcMt
namespace Go.Proofs.YtejedlpnejjnbaaSV
set_option linter.unusedVariables false
def R15_SameGuards_J1 : Option Bool :=
  some true
def R15_SameGuards_L1 (a0 : List (Int × Int × Int × Int × Int × Unit)) (a1 : List (Int × Int × Int × Int × Int × Unit)) (k1 : Int → Option Bool) (x1 : Int) : Option Bool :=
  bif decide (x1 < (a0.length : Int)) then
    chk (0 ≤ x1 ∧ x1 < (a0.length : Int)) <|
    chk (0 ≤ x1 ∧ x1 < (a1.length : Int)) <|
    bif !((decide ((a0.getD x1.toNat (0, 0, 0, 0, 0, ())).1 = (a1.getD x1.toNat (0, 0, 0, 0, 0, ())).1)) && ((decide ((a0.getD x1.toNat (0, 0, 0, 0, 0, ())).2.1 = (a1.getD x1.toNat (0, 0, 0, 0, 0, ())).2.1)) && ((decide ((a0.getD x1.toNat (0, 0, 0, 0, 0, ())).2.2.1 = (a1.getD x1.toNat (0, 0, 0, 0, 0, ())).2.2.1)) && ((decide ((a0.getD x1.toNat (0, 0, 0, 0, 0, ())).2.2.2.1 = (a1.getD x1.toNat (0, 0, 0, 0, 0, ())).2.2.2.1)) && ((decide ((a0.getD x1.toNat (0, 0, 0, 0, 0, ())).2.2.2.2.1 = (a1.getD x1.toNat (0, 0, 0, 0, 0, ())).2.2.2.2.1)) && true))))) then
      some false
    else
      k1 (IntKind.i64.wrap (x1 + 1))
  else
    R15_SameGuards_J1
def R15_SameGuards (a0 : List (Int × Int × Int × Int × Int × Unit)) (a1 : List (Int × Int × Int × Int × Int × Unit)) : Option Bool :=
  bif !decide ((a0.length : Int) = (a1.length : Int)) then
    some false
  else
    loop (R15_SameGuards_L1 a0 a1) 0
end Go.Proofs.YtejedlpnejjnbaaSV
