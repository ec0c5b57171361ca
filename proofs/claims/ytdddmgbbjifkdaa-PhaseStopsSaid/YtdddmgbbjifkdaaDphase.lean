import Derived.Test.YtdddmgbbjifkdaaVcG1
namespace Go.Proofs.YtdddmgbbjifkdaaV
set_option linter.unusedVariables false
def phase_Fine (a0 : Int) (a1 : Int) : Option Bool :=
  bif decide (a1 ≥ 1) then
    bif decide (a1 ≤ 65535) then
      bif decide (a0 ≥ 0) then
        some (decide (a0 ≤ a1))
      else
        some false
    else
      some false
  else
    some false
def phase_Next (a0 : Int) (a1 : Int) : Option (Int × Int × Unit) :=
  Option.bind (phase_Fine a0 a1) fun r1 =>
  bif !r1 then
    some (0, 8, ())
  else
    bif decide (a0 = a1) then
      some (0, 14, ())
    else
      some (IntKind.i64.wrap (a0 + 1), 0, ())
def phase_Left (a0 : Int) (a1 : Int) : Option Int :=
  Option.bind (phase_Fine a0 a1) fun r1 =>
  bif !r1 then
    some 0
  else
    some (IntKind.i64.wrap (a1 - a0))
def phase_Goes_J1 (p1 : Int) (p2 : Int) : Option (Int × Int × Unit) :=
  some (p1, p2, ())
def phase_Goes_L1 (p3 : Int) (a1 : Int) (k1 : (Int × Int × Int) → Option (Int × Int × Unit)) (x1 : Int × Int × Int) : Option (Int × Int × Unit) :=
  bif decide (x1.2.2 < p3) then
    Option.bind (phase_Next x1.1 a1) fun r3 =>
    k1 (r3.1, IntKind.i64.wrap (x1.2.1 + 1), IntKind.i64.wrap (x1.2.2 + 1))
  else
    phase_Goes_J1 x1.1 x1.2.1
def phase_Goes (a0 : Int) (a1 : Int) (a2 : Int) : Option (Int × Int × Unit) :=
  Option.bind (phase_Fine a0 a1) fun r1 =>
  bif !r1 then
    some (0, 0, ())
  else
    Option.bind (phase_Left a0 a1) fun r2 =>
    loop (phase_Goes_L1 (max (0 : Int) (min a2 r2)) a1) (a0, 0, 0)
end Go.Proofs.YtdddmgbbjifkdaaV
