import Derived.Test.YtdddmgbbjifkdaaDoorVcG1
import Derived.Test.YtdddmgbbjifkdaaDoorDL09
import Derived.Test.YtdddmgbbjifkdaaDoorDR09
import Derived.Test.YtdddmgbbjifkdaaDoorDopcode
namespace Go.Proofs.YtdddmgbbjifkdaaDoorV
set_option linter.unusedVariables false
def L09_OpcodeTells (a0 : Int) : Option Bool :=
  Option.bind (R09_Of a0) fun r1 =>
  Option.bind (opcode_Name a0) fun r2 =>
  bif r2.toList == r1.1.toList then
    Option.bind (opcode_Form a0) fun r3 =>
    bif r3.toList == r1.2.1.toList then
      Option.bind (opcode_Class a0) fun r4 =>
      bif decide (r4 = r1.2.2.1) then
        Option.bind (L09_alive) fun r5 =>
        some r5
      else
        some false
    else
      some false
  else
    some false
end Go.Proofs.YtdddmgbbjifkdaaDoorV
