import Derived.Test.YtoihmfgkmndjfaaVcG1
namespace Go.Proofs.YtoihmfgkmndjfaaV
set_option linter.unusedVariables false
def alt_Begin (a0 : Int) : Option ((Int × Int × Int × Int × Unit) × Int × Unit) :=
  bif decide (a0 < 1) then
    some ((0, 0, 0, 0, ()), 8, ())
  else
    bif decide (a0 > 6) then
      some ((0, 0, 0, 0, ()), 8, ())
    else
      some ((1, a0, 0, 0, ()), 0, ())
def alt_in (a0 : Int) (a1 : Int) : Option Bool :=
  bif decide (a0 ≥ 0) then
    some (decide (a0 < a1))
  else
    some false
def alt_Fine (a0 : Int × Int × Int × Int × Unit) : Option Bool :=
  bif (decide (a0.1 = 0)) && ((decide (a0.2.1 = 0)) && ((decide (a0.2.2.1 = 0)) && ((decide (a0.2.2.2.1 = 0)) && true))) then
    some true
  else
    bif decide (a0.2.1 < 1) then
      some false
    else
      bif decide (a0.2.1 > 6) then
        some false
      else
        bif decide (a0.1 = 1) then
          Option.bind (alt_in a0.2.2.1 a0.2.1) fun r1 =>
          bif r1 then
            some (decide (a0.2.2.2.1 = 0))
          else
            some false
        else
          bif decide (a0.1 = 2) then
            bif decide (a0.2.2.1 = a0.2.1) then
              some (decide (a0.2.2.2.1 = 0))
            else
              some false
          else
            bif decide (a0.1 = 3) then
              Option.bind (alt_in a0.2.2.2.1 a0.2.1) fun r2 =>
              bif r2 then
                Option.bind (alt_in a0.2.2.1 (IntKind.i64.wrap (a0.2.1 - 1))) fun r3 =>
                some r3
              else
                some false
            else
              some false
def alt_Left (a0 : Int × Int × Int × Int × Unit) : Option Int :=
  Option.bind (alt_Fine a0) fun r1 =>
  bif !r1 then
    some 0
  else
    bif decide (a0.1 = 1) then
      some (IntKind.i64.wrap (a0.2.1 - a0.2.2.1))
    else
      bif decide (a0.1 = 3) then
        letv (IntKind.i64.wrap ((IntKind.i64.wrap (a0.2.1 - 1)) - a0.2.2.1)) fun v1 =>
        some v1
      else
        some 0
def alt_asked (a0 : Int × Int × Int × Int × Unit) (a1 : Int) : Option Int :=
  Option.bind (alt_Fine a0) fun r1 =>
  bif !r1 then
    some 1
  else
    bif !decide (a0.1 = a1) then
      some 13
    else
      some 0
def alt_Put (a0 : Int × Int × Int × Int × Unit) : Option ((Int × Int × Int × Int × Unit) × Int × Int × Unit) :=
  Option.bind (alt_asked a0 1) fun r1 =>
  bif !decide (r1 = 0) then
    some (a0, 0, r1, ())
  else
    bif decide ((IntKind.i64.wrap (a0.2.2.1 + 1)) = a0.2.1) then
      some ((2, a0.2.1, IntKind.i64.wrap (a0.2.2.1 + 1), a0.2.2.2.1, ()), a0.2.2.1, 0, ())
    else
      some ((a0.1, a0.2.1, IntKind.i64.wrap (a0.2.2.1 + 1), a0.2.2.2.1, ()), a0.2.2.1, 0, ())
def alt_Take (a0 : Int × Int × Int × Int × Unit) (a1 : Int) : Option ((Int × Int × Int × Int × Unit) × Int × Unit) :=
  Option.bind (alt_asked a0 2) fun r1 =>
  bif !decide (r1 = 0) then
    some (a0, r1, ())
  else
    Option.bind (alt_in a1 a0.2.1) fun r2 =>
    bif !r2 then
      some (a0, 8, ())
    else
      bif decide (a0.2.1 = 1) then
        some ((0, 0, 0, 0, ()), 0, ())
      else
        some ((3, a0.2.1, 0, a1, ()), 0, ())
def alt_Withdraw (a0 : Int × Int × Int × Int × Unit) : Option ((Int × Int × Int × Int × Unit) × Int × Int × Unit) :=
  Option.bind (alt_asked a0 3) fun r1 =>
  bif !decide (r1 = 0) then
    some (a0, 0, r1, ())
  else
    letv (IntKind.i64.wrap ((IntKind.i64.wrap (a0.2.1 - 1)) - a0.2.2.1)) fun v1 =>
    bif decide (v1 ≤ a0.2.2.2.1) then
      bif decide ((IntKind.i64.wrap (a0.2.2.1 + 1)) = (IntKind.i64.wrap (a0.2.1 - 1))) then
        some ((0, 0, 0, 0, ()), IntKind.i64.wrap (v1 - 1), 0, ())
      else
        some ((a0.1, a0.2.1, IntKind.i64.wrap (a0.2.2.1 + 1), a0.2.2.2.1, ()), IntKind.i64.wrap (v1 - 1), 0, ())
    else
      bif decide ((IntKind.i64.wrap (a0.2.2.1 + 1)) = (IntKind.i64.wrap (a0.2.1 - 1))) then
        some ((0, 0, 0, 0, ()), v1, 0, ())
      else
        some ((a0.1, a0.2.1, IntKind.i64.wrap (a0.2.2.1 + 1), a0.2.2.2.1, ()), v1, 0, ())
end Go.Proofs.YtoihmfgkmndjfaaV
