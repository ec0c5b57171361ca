import Derived.Test.YtdddmgbbjifkdaaVcG1
import Derived.Test.YtdddmgbbjifkdaaDR05
import Derived.Test.YtdddmgbbjifkdaaDclock
namespace Go.Proofs.YtdddmgbbjifkdaaV
set_option linter.unusedVariables false
def L05_alive : Option Bool :=
  Option.bind (clock_Tick 5 3) fun r1 =>
  Option.bind (clock_After 5 (-3)) fun r2 =>
  Option.bind (clock_Tick 5 (-1)) fun r3 =>
  bif decide (r1.1 = 8) then
    bif decide (r1.2.1 = 0) then
      bif decide (r2.1 = 5) then
        bif decide (r2.2.1 = 0) then
          bif decide (r3.2.1 = 1) then
            Option.bind (clock_Due 8 8) fun r4 =>
            bif r4 then
              Option.bind (clock_Due 7 8) fun r5 =>
              bif !r5 then
                Option.bind (clock_Left 5 8) fun r6 =>
                bif decide (r6 = 3) then
                  Option.bind (clock_Fine 0) fun r7 =>
                  some r7
                else
                  some false
              else
                some false
            else
              some false
          else
            some false
        else
          some false
      else
        some false
    else
      some false
  else
    some false
def L05_ClockTells (a0 : Int) (a1 : Int) : Option Bool :=
  Option.bind (clock_Tick a0 a1) fun r1 =>
  Option.bind (R05_Tick a0 a1) fun r2 =>
  Option.bind (clock_After a0 a1) fun r3 =>
  Option.bind (R05_After a0 a1) fun r4 =>
  bif decide (r1.1 = r2.1) then
    bif decide (r1.2.1 = r2.2.1) then
      bif decide (r3.1 = r4.1) then
        bif decide (r3.2.1 = r4.2.1) then
          Option.bind (clock_Fine a0) fun r5 =>
          Option.bind (R05_Fine a0) fun r6 =>
          bif r5 == r6 then
            Option.bind (clock_Due a0 a1) fun r7 =>
            Option.bind (R05_Due a0 a1) fun r8 =>
            bif r7 == r8 then
              Option.bind (clock_Left a0 a1) fun r9 =>
              Option.bind (R05_Left a0 a1) fun r10 =>
              bif decide (r9 = r10) then
                Option.bind (L05_alive) fun r11 =>
                some r11
              else
                some false
            else
              some false
          else
            some false
        else
          some false
      else
        some false
    else
      some false
  else
    some false
def L05_ClockGoes (a0 : Int) (a1 : List Int) (a2 : Int) : Option Bool :=
  chk (0 ≤ (0 : Int) ∧ (0 : Int) < (2 : Int)) <|
  chk (0 ≤ (1 : Int) ∧ (1 : Int) < (2 : Int)) <|
  Option.bind (clock_Tick (IntKind.i64.wrap (a0)) (IntKind.i64.wrap (a1.getD (0 : Int).toNat 0))) fun r1 =>
  Option.bind (clock_Tick r1.1 (IntKind.i64.wrap (a1.getD (1 : Int).toNat 0))) fun r2 =>
  Option.bind (clock_Tick (IntKind.i64.wrap (a0)) (IntKind.i64.wrap ((IntKind.i64.wrap (a1.getD (0 : Int).toNat 0)) + (IntKind.i64.wrap (a1.getD (1 : Int).toNat 0))))) fun r3 =>
  bif !decide (r1.2.1 = 0) then
    some false
  else
    bif !decide (r2.2.1 = 0) then
      some false
    else
      bif !decide (r3.2.1 = 0) then
        some false
      else
        bif !decide (r2.1 = r3.1) then
          some false
        else
          bif decide (r2.1 < r1.1) then
            some false
          else
            bif decide (r1.1 < (IntKind.i64.wrap (a0))) then
              some false
            else
              Option.bind (clock_Due r1.1 (IntKind.i64.wrap (a2))) fun r4 =>
              bif r4 then
                Option.bind (clock_Due r2.1 (IntKind.i64.wrap (a2))) fun r5 =>
                bif !r5 then
                  some false
                else
                  Option.bind (clock_Left r1.1 (IntKind.i64.wrap (a2))) fun r6 =>
                  Option.bind (clock_Due r1.1 (IntKind.i64.wrap (a2))) fun r7 =>
                  bif (decide (r6 > 0)) == r7 then
                    some false
                  else
                    Option.bind (clock_Left r2.1 (IntKind.i64.wrap (a2))) fun r8 =>
                    Option.bind (clock_Left r1.1 (IntKind.i64.wrap (a2))) fun r9 =>
                    bif decide (r8 = (max (0 : Int) (IntKind.i64.wrap (r9 - (IntKind.i64.wrap (a1.getD (1 : Int).toNat 0)))))) then
                      Option.bind (L05_alive) fun r10 =>
                      some r10
                    else
                      some false
              else
                Option.bind (clock_Left r1.1 (IntKind.i64.wrap (a2))) fun r11 =>
                Option.bind (clock_Due r1.1 (IntKind.i64.wrap (a2))) fun r12 =>
                bif (decide (r11 > 0)) == r12 then
                  some false
                else
                  Option.bind (clock_Left r2.1 (IntKind.i64.wrap (a2))) fun r13 =>
                  Option.bind (clock_Left r1.1 (IntKind.i64.wrap (a2))) fun r14 =>
                  bif decide (r13 = (max (0 : Int) (IntKind.i64.wrap (r14 - (IntKind.i64.wrap (a1.getD (1 : Int).toNat 0)))))) then
                    Option.bind (L05_alive) fun r15 =>
                    some r15
                  else
                    some false
def L05_ClockEnds (a0 : Int) (a1 : Int) : Option Bool :=
  chk (0 ≤ (1 : Int)) <|
  chk ((1099511627777 : Int) ≠ 0) <|
  letv (IntKind.i64.wrap (Int.fdiv a0 (2 ^ min (1 : Int).toNat 64))) fun v1 =>
  letv (IntKind.i64.wrap (Int.tmod a1 1099511627777)) fun v2 =>
  Option.bind (clock_Tick 1099511627776 v1) fun r1 =>
  chk ((1000 : Int) ≠ 0) <|
  Option.bind (clock_After v2 (IntKind.i64.wrap (1099511627776 + (Int.tmod v1 1000)))) fun r2 =>
  bif decide (r1.1 = 1099511627776) then
    bif decide (r1.2.1 = 0) then
      bif decide (r2.1 = 1099511627776) then
        bif decide (r2.2.1 = 0) then
          Option.bind (clock_Due r1.1 v2) fun r3 =>
          bif r3 then
            Option.bind (clock_Left r1.1 v2) fun r4 =>
            bif decide (r4 = 0) then
              Option.bind (clock_Left v2 r1.1) fun r5 =>
              bif decide (r5 = (IntKind.i64.wrap (1099511627776 - v2))) then
                Option.bind (L05_alive) fun r6 =>
                some r6
              else
                some false
            else
              some false
          else
            some false
        else
          some false
      else
        some false
    else
      some false
  else
    some false
end Go.Proofs.YtdddmgbbjifkdaaV
