import Derived.Test.YtdddmgbbjifkdaaVcG1
namespace Go.Proofs.YtdddmgbbjifkdaaV
set_option linter.unusedVariables false
def clock_held_int (a0 : Int) (a1 : Int) (a2 : Int) : Option Int :=
  some (max a1 (min a0 a2))
def clock_Fine (a0 : Int) : Option Bool :=
  Option.bind (clock_held_int a0 0 1099511627776) fun r1 =>
  some (decide (r1 = a0))
def clock_later (a0 : Int) (a1 : Int) : Option Int :=
  Option.bind (clock_held_int a1 0 (IntKind.i64.wrap (1099511627776 - a0))) fun r1 =>
  some (IntKind.i64.wrap (a0 + r1))
def clock_Tick (a0 : Int) (a1 : Int) : Option (Int × Int × Unit) :=
  Option.bind (clock_Fine a0) fun r1 =>
  bif !r1 then
    some (0, 8, ())
  else
    bif decide (a1 < 0) then
      some (0, 1, ())
    else
      Option.bind (clock_later a0 a1) fun r2 =>
      some (r2, 0, ())
def clock_After (a0 : Int) (a1 : Int) : Option (Int × Int × Unit) :=
  Option.bind (clock_Fine a0) fun r1 =>
  bif !r1 then
    some (0, 8, ())
  else
    Option.bind (clock_later a0 a1) fun r2 =>
    some (r2, 0, ())
def clock_Due (a0 : Int) (a1 : Int) : Option Bool :=
  Option.bind (clock_Fine a0) fun r1 =>
  bif r1 then
    Option.bind (clock_Fine a1) fun r2 =>
    bif r2 then
      some (decide (a1 ≤ a0))
    else
      some false
  else
    some false
def clock_Left (a0 : Int) (a1 : Int) : Option Int :=
  Option.bind (clock_Fine a0) fun r1 =>
  bif !r1 then
    some 0
  else
    Option.bind (clock_Fine a1) fun r2 =>
    bif !r2 then
      some 0
    else
      Option.bind (clock_held_int (IntKind.i64.wrap (a1 - a0)) 0 a1) fun r3 =>
      some r3
end Go.Proofs.YtdddmgbbjifkdaaV
