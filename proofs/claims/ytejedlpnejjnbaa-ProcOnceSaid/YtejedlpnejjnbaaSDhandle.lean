import Derived.Test.YtejedlpnejjnbaaSVcMt
namespace Go.Proofs.YtejedlpnejjnbaaSV
set_option linter.unusedVariables false
def handle_within (a0 : Int) (a1 : Int) (a2 : Int) : Option Bool :=
  bif decide (a0 ≥ a1) then
    some (decide (a0 ≤ a2))
  else
    some false
def handle_Fine (a0 : Int) : Option Bool :=
  Option.bind (handle_within a0 4096 268435455) fun r1 =>
  some r1
def handle_Slot (a0 : Int) : Option Int :=
  Option.bind (handle_Fine a0) fun r1 =>
  bif !r1 then
    some (-1)
  else
    chk ((4096 : Int) ≠ 0) <|
    some (Int.tmod a0 4096)
def handle_Gen (a0 : Int) : Option Int :=
  Option.bind (handle_Fine a0) fun r1 =>
  bif !r1 then
    some 0
  else
    chk ((4096 : Int) ≠ 0) <|
    some (IntKind.i64.wrap (Int.tdiv a0 4096))
def handle_Make (a0 : Int) (a1 : Int) : Option (Int × Int × Unit) :=
  Option.bind (handle_within a0 0 4095) fun r1 =>
  bif !r1 then
    some (0, 8, ())
  else
    Option.bind (handle_within a1 1 65535) fun r2 =>
    bif !r2 then
      some (0, 8, ())
    else
      letv (IntKind.i64.wrap ((IntKind.i64.wrap (a1 * 4096)) + a0)) fun v1 =>
      some (v1, 0, ())
end Go.Proofs.YtejedlpnejjnbaaSV
