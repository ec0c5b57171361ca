import Derived.Test.YtoihmfgkmndjfaaVcMt
import Derived.Test.YtoihmfgkmndjfaaDL33
import Derived.Test.YtoihmfgkmndjfaaDR33
import Derived.Test.YtoihmfgkmndjfaaDchoice
namespace Go.Proofs.YtoihmfgkmndjfaaV
set_option linter.unusedVariables false
def L33_ChoiceReads (a0 : ByteArray) (a1 : Int) : Option Bool :=
  bif decide ((a0.size : Int) > 1000) then
    Option.bind (L33_alive) fun r1 =>
    some r1
  else
    Option.bind (choice_Read a0 a1) fun r2 =>
    Option.bind (R33_Read a0 a1) fun r3 =>
    Option.bind (L33_Back r2.1) fun r4 =>
    Option.bind (R33_Same r4 r3.1) fun r5 =>
    bif r5 then
      bif decide (r2.2.1 = r3.2.1) then
        bif decide (r2.2.2.1 = r3.2.2.1) then
          Option.bind (L33_alive) fun r6 =>
          some r6
        else
          some false
      else
        some false
    else
      some false
end Go.Proofs.YtoihmfgkmndjfaaV
