import Derived.Test.YtejedlpnejjnbaaVcG1
import Derived.Test.YtejedlpnejjnbaaDL31
import Derived.Test.YtejedlpnejjnbaaDR02
import Derived.Test.YtejedlpnejjnbaaDR31
import Derived.Test.YtejedlpnejjnbaaDproc
namespace Go.Proofs.YtejedlpnejjnbaaV
set_option linter.unusedVariables false
def L31_ProcTells (a0 : List (Int × Bool × Int × (Int × Bool × (List Int) × (List Int) × Int × (List Int) × Unit) × Int × Int × Int × (List (Int × Int × Int × Int × Int × Unit)) × Unit)) (a1 : Int) (a2 : Int) : Option Bool :=
  Option.bind (L31_Small a0) fun r1 =>
  bif !r1 then
    Option.bind (L31_alive) fun r2 =>
    some r2
  else
    Option.bind (L31_To a0) fun r3 =>
    Option.bind (proc_Find r3 a2) fun r4 =>
    Option.bind (R31_Find a0 a2) fun r5 =>
    Option.bind (proc_Fine r3) fun r6 =>
    Option.bind (R31_Fine a0) fun r7 =>
    bif r6 == r7 then
      Option.bind (proc_Handle r3 a1) fun r8 =>
      Option.bind (R31_Handle a0 a1) fun r9 =>
      bif decide (r8 = r9) then
        bif decide (r4.1 = r5.1) then
          bif decide (r4.2.1 = r5.2.1) then
            Option.bind (proc_In r3 a1) fun r10 =>
            Option.bind (R31_In a0 a1) fun r11 =>
            Option.bind (R02_Same r10 r11) fun r12 =>
            bif r12 then
              Option.bind (proc_Handles r3) fun r13 =>
              Option.bind (R31_Handles a0) fun r14 =>
              Option.bind (R02_Same r13 r14) fun r15 =>
              bif r15 then
                Option.bind (L31_alive) fun r16 =>
                some r16
              else
                some false
            else
              some false
          else
            some false
        else
          some false
      else
        some false
    else
      some false
end Go.Proofs.YtejedlpnejjnbaaV
