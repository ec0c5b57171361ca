import Derived.Test.YtejedlpnejjnbaaDoorBVcG1
import Derived.Test.YtejedlpnejjnbaaDoorBDR02
import Derived.Test.YtejedlpnejjnbaaDoorBDR04
import Derived.Test.YtejedlpnejjnbaaDoorBDbitset
namespace Go.Proofs.YtejedlpnejjnbaaDoorBV
set_option linter.unusedVariables false
def L04_alive : Option Bool :=
  Option.bind (bitset_Of [3, 70, 256]) fun r1 =>
  Option.bind (bitset_Next r1 4) fun r2 =>
  bif decide ((r1 : List Int) = (((((List.replicate 4 0).set 0 8).set 1 64).set 2 0).set 3 0)) then
    Option.bind (bitset_Len r1) fun r3 =>
    bif decide (r3 = 2) then
      Option.bind (bitset_Has r1 70) fun r4 =>
      bif r4 then
        Option.bind (bitset_Has r1 4) fun r5 =>
        bif !r5 then
          bif decide (r2.1 = 70) then
            bif r2.2.1 then
              Option.bind (bitset_List r1) fun r6 =>
              Option.bind (R02_Same r6 [3, 70]) fun r7 =>
              bif r7 then
                Option.bind (bitset_Drop r1 3) fun r8 =>
                Option.bind (bitset_Sub r8 r1) fun r9 =>
                bif r9 then
                  Option.bind (bitset_Add r1 5) fun r10 =>
                  Option.bind (bitset_Sub r10 r1) fun r11 =>
                  some (!r11)
                else
                  some false
              else
                some false
            else
              some false
          else
            some false
        else
          some false
      else
        some false
    else
      some false
  else
    some false
end Go.Proofs.YtejedlpnejjnbaaDoorBV
