import Derived.Test.YtbkccpddkpclaaaVcG1
namespace Go.Proofs.YtbkccpddkpclaaaV
set_option linter.unusedVariables false
def poison_Fine (a0 : Int) : Option Bool :=
  bif decide (a0 ≥ 0) then
    some (decide (a0 ≤ 255))
  else
    some false
def word_Fine (a0 : Int) : Option Bool :=
  bif decide (a0 ≥ (-2147483648)) then
    some (decide (a0 ≤ 2147483647))
  else
    some false
def poison_Hit (a0 : Int) (a1 : Int) : Option Bool :=
  Option.bind (poison_Fine a0) fun r1 =>
  bif r1 then
    Option.bind (poison_Fine a1) fun r2 =>
    bif r2 then
      some (decide (a0 > a1))
    else
      some false
  else
    some false
def R16_Fine (a0 : Int) : Option Bool :=
  bif decide (a0 ≥ 0) then
    some (decide (a0 ≤ 255))
  else
    some false
def R08_Fine (a0 : Int) : Option Bool :=
  bif decide (a0 ≥ (-2147483648)) then
    some (decide (a0 ≤ 2147483647))
  else
    some false
def R16_Hit (a0 : Int) (a1 : Int) : Option Bool :=
  Option.bind (R16_Fine a0) fun r1 =>
  bif r1 then
    Option.bind (R16_Fine a1) fun r2 =>
    bif r2 then
      some (decide (a1 < a0))
    else
      some false
  else
    some false
def poison_Raise (a0 : Int) (a1 : Int) : Option (Int × Int × Unit) :=
  Option.bind (poison_Fine a0) fun r1 =>
  bif !r1 then
    some (0, 8, ())
  else
    Option.bind (poison_Fine a1) fun r2 =>
    bif !r2 then
      some (0, 8, ())
    else
      bif decide (a1 = 0) then
        some (0, 8, ())
      else
        some (max a0 a1, 0, ())
def R16_Raise (a0 : Int) (a1 : Int) : Option (Int × Int × Unit) :=
  Option.bind (R16_Fine a0) fun r1 =>
  bif !r1 then
    some (0, 8, ())
  else
    bif decide (a1 < 1) then
      some (0, 8, ())
    else
      bif decide (a1 > 255) then
        some (0, 8, ())
      else
        bif decide (a1 > a0) then
          some (a1, 0, ())
        else
          some (a0, 0, ())
end Go.Proofs.YtbkccpddkpclaaaV
