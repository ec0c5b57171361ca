import Derived.Test.YtejedlpnejjnbaaSVcMt
namespace Go.Proofs.YtejedlpnejjnbaaSV
set_option linter.unusedVariables false
def R01_Make (a0 : Int) (a1 : Int) : Option (Int × Int × Unit) :=
  bif decide (a0 < 0) then
    some (0, 8, ())
  else
    bif decide (a0 > 4095) then
      some (0, 8, ())
    else
      bif decide (a1 < 1) then
        some (0, 8, ())
      else
        bif decide (a1 > 65535) then
          some (0, 8, ())
        else
          letv (IntKind.i64.wrap ((IntKind.i64.wrap (4096 * a1)) + a0)) fun v1 =>
          some (v1, 0, ())
def R01_Fine (a0 : Int) : Option Bool :=
  bif decide (a0 ≥ 4096) then
    some (decide (a0 ≤ 268435455))
  else
    some false
def R01_Slot (a0 : Int) : Option Int :=
  Option.bind (R01_Fine a0) fun r1 =>
  bif !r1 then
    some (-1)
  else
    chk ((4096 : Int) ≠ 0) <|
    letv (IntKind.i64.wrap (a0 - (IntKind.i64.wrap (4096 * (IntKind.i64.wrap (Int.tdiv a0 4096)))))) fun v1 =>
    some v1
end Go.Proofs.YtejedlpnejjnbaaSV
