import Derived.Test.YtejedlpnejjnbaaDoorBVcG1
import Derived.Test.YtejedlpnejjnbaaDoorBDL04
import Derived.Test.YtejedlpnejjnbaaDoorBDbitset
namespace Go.Proofs.YtejedlpnejjnbaaDoorBV
set_option linter.unusedVariables false
def L04_BitsetLaws (a0 : List Int) (a1 : List Int) (a2 : List Int) : Option Bool :=
  Option.bind (bitset_Union a0 a1) fun r1 =>
  Option.bind (bitset_Union a1 a0) fun r2 =>
  bif !(decide ((r1 : List Int) = r2)) then
    some false
  else
    Option.bind (bitset_Inter a0 a1) fun r3 =>
    Option.bind (bitset_Inter a1 a0) fun r4 =>
    bif !(decide ((r3 : List Int) = r4)) then
      some false
    else
      Option.bind (bitset_Union a1 a2) fun r5 =>
      Option.bind (bitset_Inter a0 r5) fun r6 =>
      Option.bind (bitset_Inter a0 a1) fun r7 =>
      Option.bind (bitset_Inter a0 a2) fun r8 =>
      Option.bind (bitset_Union r7 r8) fun r9 =>
      bif !(decide ((r6 : List Int) = r9)) then
        some false
      else
        Option.bind (bitset_Less a0 a1) fun r10 =>
        Option.bind (bitset_Inter a0 a1) fun r11 =>
        Option.bind (bitset_Union r10 r11) fun r12 =>
        bif decide ((r12 : List Int) = a0) then
          Option.bind (bitset_Len r10) fun r13 =>
          Option.bind (bitset_Len r11) fun r14 =>
          Option.bind (bitset_Len a0) fun r15 =>
          bif decide ((IntKind.i64.wrap (r13 + r14)) = r15) then
            Option.bind (bitset_Sub r11 a1) fun r16 =>
            bif r16 then
              Option.bind (bitset_Inter r10 a1) fun r17 =>
              bif decide ((r17 : List Int) = (List.replicate 4 0)) then
                Option.bind (L04_alive) fun r18 =>
                some r18
              else
                some false
            else
              some false
          else
            some false
        else
          some false
end Go.Proofs.YtejedlpnejjnbaaDoorBV
