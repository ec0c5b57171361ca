import Derived.Test.YtdddmgbbjifkdaaDoorVcG1
import Derived.Test.YtdddmgbbjifkdaaDoorDL09
import Derived.Test.YtdddmgbbjifkdaaDoorDopcode
namespace Go.Proofs.YtdddmgbbjifkdaaDoorV
set_option linter.unusedVariables false
def L09_OpcodeBack (a0 : Int) (a1 : Int) : Option Bool :=
  chk ((48 : Int) ≠ 0) <|
  chk ((48 : Int) ≠ 0) <|
  Option.bind (opcode_Name (IntKind.i64.wrap (Int.tmod a0 48))) fun r1 =>
  Option.bind (opcode_Find r1) fun r2 =>
  bif r2.2.1 then
    bif decide (r2.1 = (IntKind.i64.wrap (Int.tmod a0 48))) then
      Option.bind (opcode_Form (IntKind.i64.wrap (Int.tmod a0 48))) fun r3 =>
      bif decide ((r3.size : Int) = 3) then
        Option.bind (opcode_Name (IntKind.i64.wrap (Int.tmod a0 48))) fun r4 =>
        Option.bind (opcode_Name (IntKind.i64.wrap (Int.tmod a1 48))) fun r5 =>
        bif (r4.toList == r5.toList) == (decide ((IntKind.i64.wrap (Int.tmod a0 48)) = (IntKind.i64.wrap (Int.tmod a1 48)))) then
          Option.bind (opcode_Name (IntKind.i64.wrap (Int.tmod a0 48))) fun r6 =>
          bif !(r6.toList == (⟨#[]⟩ : ByteArray).toList) then
            Option.bind (L09_alive) fun r7 =>
            some r7
          else
            some false
        else
          some false
      else
        some false
    else
      some false
  else
    some false
end Go.Proofs.YtdddmgbbjifkdaaDoorV
