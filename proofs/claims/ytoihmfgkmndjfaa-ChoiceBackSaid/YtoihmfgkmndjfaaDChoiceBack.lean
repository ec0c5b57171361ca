import Derived.Test.YtoihmfgkmndjfaaVcMt
import Derived.Test.YtoihmfgkmndjfaaDL33
import Derived.Test.YtoihmfgkmndjfaaDR33
import Derived.Test.YtoihmfgkmndjfaaDchoice
namespace Go.Proofs.YtoihmfgkmndjfaaV
set_option linter.unusedVariables false
def L33_ChoiceBack (a0 : List (Int × Int × Int × Unit)) (a1 : ByteArray) (a2 : ByteArray) : Option Bool :=
  bif decide ((a0.length : Int) > 100) then
    Option.bind (L33_alive) fun r1 =>
    some r1
  else
    bif decide ((a1.size : Int) > 100) then
      Option.bind (L33_alive) fun r2 =>
      some r2
    else
      bif decide ((a2.size : Int) > 1000) then
        Option.bind (L33_alive) fun r3 =>
        some r3
      else
        Option.bind (L33_To a0) fun r4 =>
        Option.bind (choice_All r4) fun r5 =>
        bif decide (r5.2.1 = 0) then
          Option.bind (choice_Bytes r4) fun r6 =>
          chk (a1.size + r6.size ≤ 140737488355328) <|
          Option.bind (choice_Read (a1 ++ r6) (a1.size : Int)) fun r7 =>
          bif !decide (r7.2.2.1 = 0) then
            some false
          else
            bif !decide (r7.2.1 = (IntKind.i64.wrap ((IntKind.i64.wrap ((a1.size : Int) + 2)) + (IntKind.i64.wrap (3 * (a0.length : Int)))))) then
              some false
            else
              Option.bind (L33_Back r7.1) fun r8 =>
              Option.bind (R33_Same r8 a0) fun r9 =>
              bif !r9 then
                some false
              else
                Option.bind (choice_Read a2 0) fun r10 =>
                bif !decide (r10.2.2.1 = 0) then
                  Option.bind (L33_alive) fun r11 =>
                  some r11
                else
                  chk (0 ≤ (0 : Int) ∧ (0 : Int) ≤ r10.2.1 ∧ r10.2.1 ≤ (a2.size : Int)) <|
                  Option.bind (choice_Bytes r10.1) fun r12 =>
                  bif r12.toList == (a2.extract (0 : Int).toNat r10.2.1.toNat).toList then
                    Option.bind (L33_alive) fun r13 =>
                    some r13
                  else
                    some false
        else
          Option.bind (choice_Read a2 0) fun r14 =>
          bif !decide (r14.2.2.1 = 0) then
            Option.bind (L33_alive) fun r15 =>
            some r15
          else
            chk (0 ≤ (0 : Int) ∧ (0 : Int) ≤ r14.2.1 ∧ r14.2.1 ≤ (a2.size : Int)) <|
            Option.bind (choice_Bytes r14.1) fun r16 =>
            bif r16.toList == (a2.extract (0 : Int).toNat r14.2.1.toNat).toList then
              Option.bind (L33_alive) fun r17 =>
              some r17
            else
              some false
end Go.Proofs.YtoihmfgkmndjfaaV
