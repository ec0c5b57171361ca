import Derived.Test.YtejedlpnejjnbaaDoorBVcG1
import Derived.Test.YtejedlpnejjnbaaDoorBDL04
import Derived.Test.YtejedlpnejjnbaaDoorBDR02
import Derived.Test.YtejedlpnejjnbaaDoorBDR04
import Derived.Test.YtejedlpnejjnbaaDoorBDbitset
namespace Go.Proofs.YtejedlpnejjnbaaDoorBV
set_option linter.unusedVariables false
def L04_BitsetTwo (a0 : List Int) (a1 : List Int) : Option Bool :=
  bif decide ((a0.length : Int) > 60) then
    Option.bind (L04_alive) fun r1 =>
    some r1
  else
    bif decide ((a1.length : Int) > 60) then
      Option.bind (L04_alive) fun r2 =>
      some r2
    else
      Option.bind (bitset_Of a0) fun r3 =>
      Option.bind (bitset_Of a1) fun r4 =>
      Option.bind (R04_Of a0) fun r5 =>
      Option.bind (R04_Of a1) fun r6 =>
      Option.bind (bitset_Union r3 r4) fun r7 =>
      Option.bind (bitset_List r7) fun r8 =>
      Option.bind (R04_Union r5 r6) fun r9 =>
      Option.bind (R02_Same r8 r9) fun r10 =>
      bif r10 then
        Option.bind (bitset_Inter r3 r4) fun r11 =>
        Option.bind (bitset_List r11) fun r12 =>
        Option.bind (R04_Inter r5 r6) fun r13 =>
        Option.bind (R02_Same r12 r13) fun r14 =>
        bif r14 then
          Option.bind (bitset_Less r3 r4) fun r15 =>
          Option.bind (bitset_List r15) fun r16 =>
          Option.bind (R04_Less r5 r6) fun r17 =>
          Option.bind (R02_Same r16 r17) fun r18 =>
          bif r18 then
            Option.bind (bitset_Sub r3 r4) fun r19 =>
            Option.bind (R04_Less r5 r6) fun r20 =>
            bif r19 == (decide ((r20.length : Int) = 0)) then
              Option.bind (L04_alive) fun r21 =>
              some r21
            else
              some false
          else
            some false
        else
          some false
      else
        some false
end Go.Proofs.YtejedlpnejjnbaaDoorBV
