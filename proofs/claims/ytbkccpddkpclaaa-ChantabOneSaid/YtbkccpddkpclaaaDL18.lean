import Derived.Test.YtbkccpddkpclaaaVcG1
import Derived.Test.YtbkccpddkpclaaaDR02
namespace Go.Proofs.YtbkccpddkpclaaaV
set_option linter.unusedVariables false
def L18_To (a0 : (Int × Int × Int × Int × Unit) × Int × (List Int) × (Bool × (List Int) × Unit) × (List Int) × (Bool × (List Int) × Unit) × Unit) : Option ((Int × Int × Int × Int × Unit) × Int × (List Int) × (Bool × (List Int) × Unit) × (List Int) × (Bool × (List Int) × Unit) × Unit) :=
  some a0
def L18_Same (a0 : (Int × Int × Int × Int × Unit) × Int × (List Int) × (Bool × (List Int) × Unit) × (List Int) × (Bool × (List Int) × Unit) × Unit) (a1 : (Int × Int × Int × Int × Unit) × Int × (List Int) × (Bool × (List Int) × Unit) × (List Int) × (Bool × (List Int) × Unit) × Unit) : Option Bool :=
  bif (decide (a0.1.1 = a1.1.1)) && ((decide (a0.1.2.1 = a1.1.2.1)) && ((decide (a0.1.2.2.1 = a1.1.2.2.1)) && ((decide (a0.1.2.2.2.1 = a1.1.2.2.2.1)) && true))) then
    bif decide (a0.2.1 = a1.2.1) then
      Option.bind (R02_Same a0.2.2.1 a1.2.2.1) fun r1 =>
      bif r1 then
        bif a0.2.2.2.1.1 == a1.2.2.2.1.1 then
          Option.bind (R02_Same a0.2.2.2.1.2.1 a1.2.2.2.1.2.1) fun r2 =>
          bif r2 then
            Option.bind (R02_Same a0.2.2.2.2.1 a1.2.2.2.2.1) fun r3 =>
            bif r3 then
              bif a0.2.2.2.2.2.1.1 == a1.2.2.2.2.2.1.1 then
                Option.bind (R02_Same a0.2.2.2.2.2.1.2.1 a1.2.2.2.2.2.1.2.1) fun r4 =>
                some r4
              else
                some false
            else
              some false
          else
            some false
        else
          some false
      else
        some false
    else
      some false
  else
    some false
def L18_From (a0 : (Int × Int × Int × Int × Unit) × Int × (List Int) × (Bool × (List Int) × Unit) × (List Int) × (Bool × (List Int) × Unit) × Unit) : Option ((Int × Int × Int × Int × Unit) × Int × (List Int) × (Bool × (List Int) × Unit) × (List Int) × (Bool × (List Int) × Unit) × Unit) :=
  some a0
end Go.Proofs.YtbkccpddkpclaaaV
