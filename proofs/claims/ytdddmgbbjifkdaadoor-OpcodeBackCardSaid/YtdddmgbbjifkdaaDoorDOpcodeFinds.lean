import Derived.Test.YtdddmgbbjifkdaaDoorVcG1
import Derived.Test.YtdddmgbbjifkdaaDoorDL09
import Derived.Test.YtdddmgbbjifkdaaDoorDR09
import Derived.Test.YtdddmgbbjifkdaaDoorDopcode
namespace Go.Proofs.YtdddmgbbjifkdaaDoorV
set_option linter.unusedVariables false
def L09_OpcodeFinds (a0 : ByteArray) : Option Bool :=
  bif decide ((a0.size : Int) > 100) then
    Option.bind (L09_alive) fun r1 =>
    some r1
  else
    Option.bind (opcode_Find a0) fun r2 =>
    Option.bind (R09_Find a0) fun r3 =>
    bif decide (r2.1 = r3.1) then
      bif r2.2.1 == r3.2.1 then
        Option.bind (L09_alive) fun r4 =>
        some r4
      else
        some false
    else
      some false
end Go.Proofs.YtdddmgbbjifkdaaDoorV
