import Derived.Test.YtdddmgbbjifkdaaVcG1
namespace Go.Proofs.YtdddmgbbjifkdaaV
set_option linter.unusedVariables false
def R05_Fine (a0 : Int) : Option Bool :=
  bif decide (a0 ≥ 0) then
    some (decide (a0 ≤ 1099511627776))
  else
    some false
def R05_Tick (a0 : Int) (a1 : Int) : Option (Int × Int × Unit) :=
  Option.bind (R05_Fine a0) fun r1 =>
  bif !r1 then
    some (0, 8, ())
  else
    bif decide (a1 < 0) then
      some (0, 1, ())
    else
      bif decide (a1 > (IntKind.i64.wrap (1099511627776 - a0))) then
        some (1099511627776, 0, ())
      else
        some (IntKind.i64.wrap (a0 + a1), 0, ())
def R05_After (a0 : Int) (a1 : Int) : Option (Int × Int × Unit) :=
  Option.bind (R05_Fine a0) fun r1 =>
  bif !r1 then
    some (0, 8, ())
  else
    bif decide (a1 < 0) then
      some (a0, 0, ())
    else
      Option.bind (R05_Tick a0 a1) fun r2 =>
      some (r2.1, r2.2.1, ())
def R05_Due (a0 : Int) (a1 : Int) : Option Bool :=
  Option.bind (R05_Fine a0) fun r1 =>
  bif r1 then
    Option.bind (R05_Fine a1) fun r2 =>
    bif r2 then
      some (decide (a0 ≥ a1))
    else
      some false
  else
    some false
def R05_Left (a0 : Int) (a1 : Int) : Option Int :=
  Option.bind (R05_Fine a0) fun r1 =>
  bif !r1 then
    some 0
  else
    Option.bind (R05_Fine a1) fun r2 =>
    bif !r2 then
      some 0
    else
      bif decide (a1 < a0) then
        some 0
      else
        some (IntKind.i64.wrap (a1 - a0))
end Go.Proofs.YtdddmgbbjifkdaaV
