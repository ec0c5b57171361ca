import Derived.Test.YtejedlpnejjnbaaDoorBVcG1
import Derived.Test.YtejedlpnejjnbaaDoorBDL04
import Derived.Test.YtejedlpnejjnbaaDoorBDR02
import Derived.Test.YtejedlpnejjnbaaDoorBDR04
import Derived.Test.YtejedlpnejjnbaaDoorBDbitset
namespace Go.Proofs.YtejedlpnejjnbaaDoorBV
set_option linter.unusedVariables false
def L04_BitsetOne (a0 : List Int) (a1 : Int) : Option Bool :=
  bif decide ((a0.length : Int) > 60) then
    Option.bind (L04_alive) fun r1 =>
    some r1
  else
    Option.bind (bitset_Of a0) fun r2 =>
    Option.bind (R04_Of a0) fun r3 =>
    Option.bind (bitset_Next r2 a1) fun r4 =>
    Option.bind (R04_Next r3 a1) fun r5 =>
    Option.bind (R04_Words r3) fun r6 =>
    bif !(decide ((r2 : List Int) = r6)) then
      some false
    else
      Option.bind (bitset_List r2) fun r7 =>
      Option.bind (R02_Same r7 r3) fun r8 =>
      bif !r8 then
        some false
      else
        Option.bind (bitset_Len r2) fun r9 =>
        bif !decide (r9 = (r3.length : Int)) then
          some false
        else
          Option.bind (bitset_Has r2 a1) fun r10 =>
          Option.bind (R04_Has r3 a1) fun r11 =>
          bif !(r10 == r11) then
            some false
          else
            bif !decide (r4.1 = r5.1) then
              some false
            else
              bif !(r4.2.1 == r5.2.1) then
                some false
              else
                Option.bind (bitset_Add r2 a1) fun r12 =>
                Option.bind (bitset_List r12) fun r13 =>
                Option.bind (R04_Add r3 a1) fun r14 =>
                Option.bind (R02_Same r13 r14) fun r15 =>
                bif r15 then
                  Option.bind (bitset_Drop r2 a1) fun r16 =>
                  Option.bind (bitset_List r16) fun r17 =>
                  Option.bind (R04_Drop r3 a1) fun r18 =>
                  Option.bind (R02_Same r17 r18) fun r19 =>
                  bif r19 then
                    Option.bind (L04_alive) fun r20 =>
                    some r20
                  else
                    some false
                else
                  some false
end Go.Proofs.YtejedlpnejjnbaaDoorBV
