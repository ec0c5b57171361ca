import Derived.Test.YtejedlpnejjnbaaDoorVcG1
import Derived.Test.YtejedlpnejjnbaaDoorDL21
import Derived.Test.YtejedlpnejjnbaaDoorDR21
import Derived.Test.YtejedlpnejjnbaaDoorDroll
namespace Go.Proofs.YtejedlpnejjnbaaDoorV
set_option linter.unusedVariables false
def L21_RollActs (a0 : (List Int) × (List Int) × Unit) (a1 : Int) : Option Bool :=
  bif decide ((a0.1.length : Int) > 40) then
    Option.bind (L21_alive) fun r1 =>
    some r1
  else
    bif decide ((a0.2.1.length : Int) > 40) then
      Option.bind (L21_alive) fun r2 =>
      some r2
    else
      Option.bind (L21_Plain a0) fun r3 =>
      Option.bind (L21_To r3) fun r4 =>
      Option.bind (roll_Enrol r4 a1) fun r5 =>
      Option.bind (R21_Enrol r3 a1) fun r6 =>
      Option.bind (roll_Resign r4 a1) fun r7 =>
      Option.bind (R21_Resign r3 a1) fun r8 =>
      Option.bind (roll_Offer r4 a1) fun r9 =>
      Option.bind (R21_Offer r3 a1) fun r10 =>
      Option.bind (roll_Withdraw r4 a1) fun r11 =>
      Option.bind (R21_Withdraw r3 a1) fun r12 =>
      Option.bind (L21_From r5.1) fun r13 =>
      Option.bind (L21_Same r13 r6.1) fun r14 =>
      bif r14 then
        bif decide (r5.2.1 = r6.2.1) then
          Option.bind (L21_From r7.1) fun r15 =>
          Option.bind (L21_Same r15 r8.1) fun r16 =>
          bif r16 then
            bif decide (r7.2.1 = r8.2.1) then
              Option.bind (L21_From r9.1) fun r17 =>
              Option.bind (L21_Same r17 r10.1) fun r18 =>
              bif r18 then
                bif decide (r9.2.1 = r10.2.1) then
                  Option.bind (L21_From r11.1) fun r19 =>
                  Option.bind (L21_Same r19 r12.1) fun r20 =>
                  bif r20 then
                    bif r11.2.1 == r12.2.1 then
                      Option.bind (roll_Fine r4) fun r21 =>
                      Option.bind (R21_Fine r3) fun r22 =>
                      bif r21 == r22 then
                        Option.bind (L21_alive) fun r23 =>
                        some r23
                      else
                        some false
                    else
                      some false
                  else
                    some false
                else
                  some false
              else
                some false
            else
              some false
          else
            some false
        else
          some false
      else
        some false
end Go.Proofs.YtejedlpnejjnbaaDoorV
