import Derived.Test.YtoihmfgkmndjfaaVcMt
import Derived.Test.YtoihmfgkmndjfaaDL33
import Derived.Test.YtoihmfgkmndjfaaDR33
import Derived.Test.YtoihmfgkmndjfaaDchoice
namespace Go.Proofs.YtoihmfgkmndjfaaV
set_option linter.unusedVariables false
def L33_ChoiceTells (a0 : List (Int × Int × Int × Unit)) (a1 : Int × Int × Int × Unit) : Option Bool :=
  bif decide ((a0.length : Int) > 100) then
    bif decide ((a0.length : Int) ≤ 2000) then
      Option.bind (L33_alive) fun r1 =>
      some r1
    else
      Option.bind (L33_To a0) fun r2 =>
      Option.bind (choice_All r2) fun r3 =>
      Option.bind (R33_All a0) fun r4 =>
      bif decide (r3.1 = r4.1) then
        bif decide (r3.2.1 = r4.2.1) then
          Option.bind (L33_To a0) fun r5 =>
          Option.bind (choice_Bytes r5) fun r6 =>
          Option.bind (R33_Bytes a0) fun r7 =>
          bif r6.toList == r7.toList then
            Option.bind (choice_Check a1) fun r8 =>
            Option.bind (R33_Check a1) fun r9 =>
            bif decide (r8 = r9) then
              Option.bind (L33_alive) fun r10 =>
              some r10
            else
              some false
          else
            some false
        else
          some false
      else
        some false
  else
    Option.bind (L33_To a0) fun r11 =>
    Option.bind (choice_All r11) fun r12 =>
    Option.bind (R33_All a0) fun r13 =>
    bif decide (r12.1 = r13.1) then
      bif decide (r12.2.1 = r13.2.1) then
        Option.bind (L33_To a0) fun r14 =>
        Option.bind (choice_Bytes r14) fun r15 =>
        Option.bind (R33_Bytes a0) fun r16 =>
        bif r15.toList == r16.toList then
          Option.bind (choice_Check a1) fun r17 =>
          Option.bind (R33_Check a1) fun r18 =>
          bif decide (r17 = r18) then
            Option.bind (L33_alive) fun r19 =>
            some r19
          else
            some false
        else
          some false
      else
        some false
    else
      some false
end Go.Proofs.YtoihmfgkmndjfaaV
