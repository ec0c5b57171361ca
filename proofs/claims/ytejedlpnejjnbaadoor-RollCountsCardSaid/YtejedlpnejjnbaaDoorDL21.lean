import Derived.Test.YtejedlpnejjnbaaDoorVcG1
import Derived.Test.YtejedlpnejjnbaaDoorDR02
import Derived.Test.YtejedlpnejjnbaaDoorDR04
import Derived.Test.YtejedlpnejjnbaaDoorDR21
import Derived.Test.YtejedlpnejjnbaaDoorDbitset
import Derived.Test.YtejedlpnejjnbaaDoorDroll
namespace Go.Proofs.YtejedlpnejjnbaaDoorV
set_option linter.unusedVariables false
def L21_alive : Option Bool :=
  Option.bind (roll_Enrol ((List.replicate 4 0), (List.replicate 4 0), ()) 2) fun r1 =>
  Option.bind (roll_Enrol r1.1 4) fun r2 =>
  Option.bind (roll_Offer r2.1 2) fun r3 =>
  Option.bind (roll_Resign r3.1 4) fun r4 =>
  Option.bind (roll_Fire r4.1) fun r5 =>
  Option.bind (roll_Withdraw r3.1 4) fun r6 =>
  Option.bind (roll_Fire r3.1) fun r7 =>
  bif decide (r1.2.1 = 0) then
    bif decide (r2.2.1 = 0) then
      bif decide (r3.2.1 = 0) then
        bif decide (r4.2.1 = 0) then
          Option.bind (roll_Full r3.1) fun r8 =>
          bif !r8 then
            Option.bind (roll_Full r4.1) fun r9 =>
            bif r9 then
              bif decide (r5.2.2.1 = 0) then
                Option.bind (R02_Same r5.2.1 [2]) fun r10 =>
                bif r10 then
                  bif !r6.2.1 then
                    bif decide (r7.2.2.1 = 13) then
                      Option.bind (roll_Fine r5.1) fun r11 =>
                      bif r11 then
                        Option.bind (roll_Full r5.1) fun r12 =>
                        bif !r12 then
                          Option.bind (roll_Full ((List.replicate 4 0), (List.replicate 4 0), ())) fun r13 =>
                          some (!r13)
                        else
                          some false
                      else
                        some false
                    else
                      some false
                  else
                    some false
                else
                  some false
              else
                some false
            else
              some false
          else
            some false
        else
          some false
      else
        some false
    else
      some false
  else
    some false
def L21_Plain (a0 : (List Int) × (List Int) × Unit) : Option ((List Int) × (List Int) × Unit) :=
  Option.bind (R04_Of a0.1) fun r1 =>
  Option.bind (R04_Of a0.2.1) fun r2 =>
  some (r1, r2, ())
def L21_To (a0 : (List Int) × (List Int) × Unit) : Option ((List Int) × (List Int) × Unit) :=
  Option.bind (R04_Words a0.1) fun r1 =>
  Option.bind (R04_Words a0.2.1) fun r2 =>
  some (r1, r2, ())
def L21_Same (a0 : (List Int) × (List Int) × Unit) (a1 : (List Int) × (List Int) × Unit) : Option Bool :=
  Option.bind (R02_Same a0.1 a1.1) fun r1 =>
  bif r1 then
    Option.bind (R02_Same a0.2.1 a1.2.1) fun r2 =>
    some r2
  else
    some false
def L21_From (a0 : (List Int) × (List Int) × Unit) : Option ((List Int) × (List Int) × Unit) :=
  Option.bind (bitset_List a0.1) fun r1 =>
  Option.bind (bitset_List a0.2.1) fun r2 =>
  some (r1, r2, ())
end Go.Proofs.YtejedlpnejjnbaaDoorV
