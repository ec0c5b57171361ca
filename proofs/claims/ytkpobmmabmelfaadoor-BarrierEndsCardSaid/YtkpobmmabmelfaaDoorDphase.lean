import Derived.Test.YtkpobmmabmelfaaDoorVcG1
namespace Go.Proofs.YtkpobmmabmelfaaDoorV
set_option linter.unusedVariables false
def phase_Fine (a0 : Int) (a1 : Int) : Option Bool :=
  bif decide (a1 ≥ 1) then
    bif decide (a1 ≤ 65535) then
      bif decide (a0 ≥ 0) then
        some (decide (a0 ≤ a1))
      else
        some false
    else
      some false
  else
    some false
def phase_Left (a0 : Int) (a1 : Int) : Option Int :=
  Option.bind (phase_Fine a0 a1) fun r1 =>
  bif !r1 then
    some 0
  else
    some (IntKind.i64.wrap (a1 - a0))
def phase_Next (a0 : Int) (a1 : Int) : Option (Int × Int × Unit) :=
  Option.bind (phase_Fine a0 a1) fun r1 =>
  bif !r1 then
    some (0, 8, ())
  else
    bif decide (a0 = a1) then
      some (0, 14, ())
    else
      some (IntKind.i64.wrap (a0 + 1), 0, ())
end Go.Proofs.YtkpobmmabmelfaaDoorV
