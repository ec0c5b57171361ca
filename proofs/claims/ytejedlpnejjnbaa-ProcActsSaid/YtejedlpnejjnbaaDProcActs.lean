import Derived.Test.YtejedlpnejjnbaaVcG1
import Derived.Test.YtejedlpnejjnbaaDL31
import Derived.Test.YtejedlpnejjnbaaDR31
import Derived.Test.YtejedlpnejjnbaaDproc
namespace Go.Proofs.YtejedlpnejjnbaaV
set_option linter.unusedVariables false
def L31_ProcActs (a0 : List (Int × Bool × Int × (Int × Bool × (List Int) × (List Int) × Int × (List Int) × Unit) × Int × Int × Int × (List (Int × Int × Int × Int × Int × Unit)) × Unit)) (a1 : List Int) : Option Bool :=
  Option.bind (L31_Small a0) fun r1 =>
  bif !r1 then
    Option.bind (L31_alive) fun r2 =>
    some r2
  else
    Option.bind (L31_To a0) fun r3 =>
    chk (0 ≤ (0 : Int) ∧ (0 : Int) < (3 : Int)) <|
    chk (0 ≤ (1 : Int) ∧ (1 : Int) < (3 : Int)) <|
    Option.bind (proc_Spawn r3 (a1.getD (0 : Int).toNat 0) (a1.getD (1 : Int).toNat 0)) fun r4 =>
    chk (0 ≤ (0 : Int) ∧ (0 : Int) < (3 : Int)) <|
    chk (0 ≤ (1 : Int) ∧ (1 : Int) < (3 : Int)) <|
    Option.bind (R31_Spawn a0 (a1.getD (0 : Int).toNat 0) (a1.getD (1 : Int).toNat 0)) fun r5 =>
    chk (0 ≤ (0 : Int) ∧ (0 : Int) < (3 : Int)) <|
    chk (0 ≤ (1 : Int) ∧ (1 : Int) < (3 : Int)) <|
    Option.bind (proc_End r3 (a1.getD (0 : Int).toNat 0) (a1.getD (1 : Int).toNat 0)) fun r6 =>
    chk (0 ≤ (0 : Int) ∧ (0 : Int) < (3 : Int)) <|
    chk (0 ≤ (1 : Int) ∧ (1 : Int) < (3 : Int)) <|
    Option.bind (R31_End a0 (a1.getD (0 : Int).toNat 0) (a1.getD (1 : Int).toNat 0)) fun r7 =>
    chk (0 ≤ (2 : Int) ∧ (2 : Int) < (3 : Int)) <|
    Option.bind (proc_Reap r3 (a1.getD (2 : Int).toNat 0)) fun r8 =>
    chk (0 ≤ (2 : Int) ∧ (2 : Int) < (3 : Int)) <|
    Option.bind (R31_Reap a0 (a1.getD (2 : Int).toNat 0)) fun r9 =>
    Option.bind (L31_From r4.1) fun r10 =>
    Option.bind (R31_Same r10 r5.1) fun r11 =>
    bif r11 then
      bif decide (r4.2.1 = r5.2.1) then
        bif decide (r4.2.2.1 = r5.2.2.1) then
          Option.bind (L31_From r6.1) fun r12 =>
          Option.bind (R31_Same r12 r7.1) fun r13 =>
          bif r13 then
            bif decide (r6.2.1 = r7.2.1) then
              Option.bind (L31_From r8.1) fun r14 =>
              Option.bind (R31_Same r14 r9.1) fun r15 =>
              bif r15 then
                bif decide (r8.2.1 = r9.2.1) then
                  bif decide (r8.2.2.1 = r9.2.2.1) then
                    Option.bind (L31_alive) fun r16 =>
                    some r16
                  else
                    some false
                else
                  some false
              else
                some false
            else
              some false
          else
            some false
        else
          some false
      else
        some false
    else
      some false
end Go.Proofs.YtejedlpnejjnbaaV
