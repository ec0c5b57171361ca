import Derived.Test.YtejedlpnejjnbaaDoorVcG1
import Derived.Test.YtejedlpnejjnbaaDoorDL21
import Derived.Test.YtejedlpnejjnbaaDoorDR02
import Derived.Test.YtejedlpnejjnbaaDoorDR21
import Derived.Test.YtejedlpnejjnbaaDoorDroll
namespace Go.Proofs.YtejedlpnejjnbaaDoorV
set_option linter.unusedVariables false
def L21_RollFires (a0 : (List Int) × (List Int) × Unit) : Option Bool :=
  bif decide ((a0.1.length : Int) > 40) then
    Option.bind (L21_alive) fun r1 =>
    some r1
  else
    bif decide ((a0.2.1.length : Int) > 40) then
      Option.bind (L21_alive) fun r2 =>
      some r2
    else
      Option.bind (L21_Plain a0) fun r3 =>
      Option.bind (L21_To r3) fun r4 =>
      Option.bind (roll_Fire r4) fun r5 =>
      Option.bind (R21_Fire r3) fun r6 =>
      Option.bind (roll_Full r4) fun r7 =>
      Option.bind (R21_Full r3) fun r8 =>
      bif r7 == r8 then
        Option.bind (L21_From r5.1) fun r9 =>
        Option.bind (L21_Same r9 r6.1) fun r10 =>
        bif r10 then
          Option.bind (R02_Same r5.2.1 r6.2.1) fun r11 =>
          bif r11 then
            bif decide (r5.2.2.1 = r6.2.2.1) then
              Option.bind (L21_alive) fun r12 =>
              some r12
            else
              some false
          else
            some false
        else
          some false
      else
        some false
end Go.Proofs.YtejedlpnejjnbaaDoorV
