import Derived.Test.YtdddmgbbjifkdaaDoorVcG1
import Derived.Test.YtdddmgbbjifkdaaDoorDR09
import Derived.Test.YtdddmgbbjifkdaaDoorDopcode
namespace Go.Proofs.YtdddmgbbjifkdaaDoorV
set_option linter.unusedVariables false
def L09_alive : Option Bool :=
  Option.bind (opcode_Find (⟨#[97, 108, 116]⟩ : ByteArray)) fun r1 =>
  Option.bind (opcode_Find (⟨#[]⟩ : ByteArray)) fun r2 =>
  bif decide (r1.1 = 41) then
    bif r1.2.1 then
      bif !r2.2.1 then
        Option.bind (opcode_Name 41) fun r3 =>
        bif r3.toList == (⟨#[97, 108, 116]⟩ : ByteArray).toList then
          Option.bind (opcode_Form 30) fun r4 =>
          bif r4.toList == (⟨#[114, 112, 114]⟩ : ByteArray).toList then
            Option.bind (opcode_Class 1) fun r5 =>
            bif decide (r5 = 5) then
              Option.bind (opcode_Class 48) fun r6 =>
              letv (bif decide (r6 = (-1)) then true else false) fun v1 =>
              some v1
            else
              some false
          else
            some false
        else
          some false
      else
        some false
    else
      some false
  else
    some false
end Go.Proofs.YtdddmgbbjifkdaaDoorV
