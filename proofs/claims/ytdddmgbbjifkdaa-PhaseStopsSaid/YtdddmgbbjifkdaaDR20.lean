import Derived.Test.YtdddmgbbjifkdaaVcG1
namespace Go.Proofs.YtdddmgbbjifkdaaV
set_option linter.unusedVariables false
def R20_Fine (a0 : Int) (a1 : Int) : Option Bool :=
  bif decide (a1 ≥ 1) then
    bif decide (a1 ≤ 65535) then
      bif decide (a0 ≥ 0) then
        some (decide (a0 ≤ a1))
      else
        some false
    else
      some false
  else
    some false
def R20_Next (a0 : Int) (a1 : Int) : Option (Int × Int × Unit) :=
  Option.bind (R20_Fine a0 a1) fun r1 =>
  bif !r1 then
    some (0, 8, ())
  else
    bif decide (a0 = a1) then
      some (0, 14, ())
    else
      some (IntKind.i64.wrap (a0 + 1), 0, ())
def R20_Left (a0 : Int) (a1 : Int) : Option Int :=
  Option.bind (R20_Fine a0 a1) fun r1 =>
  bif !r1 then
    some 0
  else
    some (IntKind.i64.wrap (a1 - a0))
def R20_Goes (a0 : Int) (a1 : Int) (a2 : Int) : Option (Int × Int × Unit) :=
  Option.bind (R20_Left a0 a1) fun r1 =>
  Option.bind (R20_Fine a0 a1) fun r2 =>
  bif !r2 then
    some (0, 0, ())
  else
    letv (IntKind.i64.wrap (a0 + (max (0 : Int) (min a2 r1)))) fun v1 =>
    some (v1, max (0 : Int) (min a2 r1), ())
end Go.Proofs.YtdddmgbbjifkdaaV
