import Derived.Test.YtbkccpddkpclaaaVcG1
import Derived.Test.YtbkccpddkpclaaaDR17
import Derived.Test.YtbkccpddkpclaaaDbase
namespace Go.Proofs.YtbkccpddkpclaaaV
set_option linter.unusedVariables false
def R18_Check (a0 : Int × Int × Int × Int × Unit) : Option Int :=
  bif decide (a0.1 < 0) then
    some 12
  else
    bif decide (a0.1 > 3) then
      some 12
    else
      bif decide (a0.2.1 < 0) then
        some 8
      else
        bif decide (a0.2.1 > 8) then
          some 8
        else
          Option.bind (R16_Fine a0.2.2.1) fun r1 =>
          bif !r1 then
            some 8
          else
            Option.bind (R16_Fine a0.2.2.2.1) fun r2 =>
            bif !r2 then
              some 8
            else
              some 0
def R18_New (a0 : Int × Int × Int × Int × Unit) : Option (((Int × Int × Int × Int × Unit) × Int × (List Int) × (Bool × (List Int) × Unit) × (List Int) × (Bool × (List Int) × Unit) × Unit) × Int × Unit) :=
  Option.bind (R18_Check a0) fun r1 =>
  bif !decide (r1 = 0) then
    some (((0, 0, 0, 0, ()), 0, [], (false, [], ()), [], (false, [], ()), ()), r1, ())
  else
    bif decide (a0.1 = 1) then
      some ((a0, 0, [], (true, [], ()), [], (decide (a0.1 ≥ 2), [], ()), ()), 0, ())
    else
      some ((a0, 0, [], (decide (a0.1 = 3), [], ()), [], (decide (a0.1 ≥ 2), [], ()), ()), 0, ())
def R18_words_J1 : Option Bool :=
  some true
def R18_words_L1 (a0 : List Int) (k1 : Int → Option Bool) (x1 : Int) : Option Bool :=
  bif decide (x1 < (a0.length : Int)) then
    chk (0 ≤ x1 ∧ x1 < (a0.length : Int)) <|
    Option.bind (R08_Fine (a0.getD x1.toNat 0)) fun r1 =>
    bif !r1 then
      some false
    else
      k1 (IntKind.i64.wrap (x1 + 1))
  else
    R18_words_J1
def R18_words (a0 : List Int) : Option Bool :=
  loop (R18_words_L1 a0) 0
def R18_Fine (a0 : (Int × Int × Int × Int × Unit) × Int × (List Int) × (Bool × (List Int) × Unit) × (List Int) × (Bool × (List Int) × Unit) × Unit) : Option Bool :=
  Option.bind (R18_New a0.1) fun r1 =>
  bif !decide (r1.2.1 = 0) then
    some false
  else
    Option.bind (R16_Fine a0.2.1) fun r2 =>
    bif !r2 then
      some false
    else
      Option.bind (R18_words a0.2.2.1) fun r3 =>
      bif !r3 then
        some false
      else
        Option.bind (R18_words a0.2.2.2.2.1) fun r4 =>
        bif !r4 then
          some false
        else
          bif decide ((a0.2.2.1.length : Int) > a0.1.2.1) then
            some false
          else
            bif !decide ((a0.2.2.2.2.1.length : Int) = (a0.2.2.2.1.2.1.length : Int)) then
              some false
            else
              Option.bind (R17_Fine a0.2.2.2.1) fun r5 =>
              bif r5 then
                Option.bind (R17_Fine a0.2.2.2.2.2.1) fun r6 =>
                bif r6 then
                  bif a0.2.2.2.1.1 == r1.1.2.2.2.1.1 then
                    some (a0.2.2.2.2.2.1.1 == r1.1.2.2.2.2.2.1.1)
                  else
                    some false
                else
                  some false
              else
                some false
def R18_OutHit (a0 : (Int × Int × Int × Int × Unit) × Int × (List Int) × (Bool × (List Int) × Unit) × (List Int) × (Bool × (List Int) × Unit) × Unit) : Option Bool :=
  Option.bind (R16_Hit a0.2.1 a0.1.2.2.2.1) fun r1 =>
  some r1
def R18_InHit (a0 : (Int × Int × Int × Int × Unit) × Int × (List Int) × (Bool × (List Int) × Unit) × (List Int) × (Bool × (List Int) × Unit) × Unit) : Option Bool :=
  Option.bind (R16_Hit a0.2.1 a0.1.2.2.1) fun r1 =>
  some r1
def R18_What (a0 : (Int × Int × Int × Int × Unit) × Int × (List Int) × (Bool × (List Int) × Unit) × (List Int) × (Bool × (List Int) × Unit) × Unit) : Option (List Int) :=
  Option.bind (R18_Fine a0) fun r1 =>
  bif !r1 then
    some []
  else
    bif decide ((a0.2.2.2.1.2.1.length : Int) > 0) then
      Option.bind (R18_OutHit a0) fun r2 =>
      bif decide ((a0.2.2.2.2.2.1.2.1.length : Int) > 0) then
        Option.bind (R18_InHit a0) fun r3 =>
        bif decide (a0.1.2.1 = 0) then
          bif !r2 then
            bif !r3 then
              chk (([1] : List Int).length ≤ 4294967296) <|
              bif decide (a0.1.2.1 > 0) then
                bif !r2 then
                  bif decide ((a0.2.2.1.length : Int) < a0.1.2.1) then
                    chk (([1] : List Int).length + ([2] : List Int).length ≤ 4294967296) <|
                    bif decide (a0.1.2.1 > 0) then
                      bif !r3 then
                        bif decide ((a0.2.2.1.length : Int) > 0) then
                          chk (([1] ++ [2] : List Int).length + ([3] : List Int).length ≤ 4294967296) <|
                          some (([1] ++ [2]) ++ [3])
                        else
                          some ([1] ++ [2])
                      else
                        some ([1] ++ [2])
                    else
                      some ([1] ++ [2])
                  else
                    bif decide (a0.1.2.1 > 0) then
                      bif !r3 then
                        bif decide ((a0.2.2.1.length : Int) > 0) then
                          chk (([1] : List Int).length + ([3] : List Int).length ≤ 4294967296) <|
                          some ([1] ++ [3])
                        else
                          some [1]
                      else
                        some [1]
                    else
                      some [1]
                else
                  bif decide (a0.1.2.1 > 0) then
                    bif !r3 then
                      bif decide ((a0.2.2.1.length : Int) > 0) then
                        chk (([1] : List Int).length + ([3] : List Int).length ≤ 4294967296) <|
                        some ([1] ++ [3])
                      else
                        some [1]
                    else
                      some [1]
                  else
                    some [1]
              else
                bif decide (a0.1.2.1 > 0) then
                  bif !r3 then
                    bif decide ((a0.2.2.1.length : Int) > 0) then
                      chk (([1] : List Int).length + ([3] : List Int).length ≤ 4294967296) <|
                      some ([1] ++ [3])
                    else
                      some [1]
                  else
                    some [1]
                else
                  some [1]
            else
              bif decide (a0.1.2.1 > 0) then
                bif !r2 then
                  bif decide ((a0.2.2.1.length : Int) < a0.1.2.1) then
                    chk (([2] : List Int).length ≤ 4294967296) <|
                    bif decide (a0.1.2.1 > 0) then
                      bif !r3 then
                        bif decide ((a0.2.2.1.length : Int) > 0) then
                          chk (([2] : List Int).length + ([3] : List Int).length ≤ 4294967296) <|
                          some ([2] ++ [3])
                        else
                          some [2]
                      else
                        some [2]
                    else
                      some [2]
                  else
                    bif decide (a0.1.2.1 > 0) then
                      bif !r3 then
                        bif decide ((a0.2.2.1.length : Int) > 0) then
                          chk (([3] : List Int).length ≤ 4294967296) <|
                          some [3]
                        else
                          some []
                      else
                        some []
                    else
                      some []
                else
                  bif decide (a0.1.2.1 > 0) then
                    bif !r3 then
                      bif decide ((a0.2.2.1.length : Int) > 0) then
                        chk (([3] : List Int).length ≤ 4294967296) <|
                        some [3]
                      else
                        some []
                    else
                      some []
                  else
                    some []
              else
                bif decide (a0.1.2.1 > 0) then
                  bif !r3 then
                    bif decide ((a0.2.2.1.length : Int) > 0) then
                      chk (([3] : List Int).length ≤ 4294967296) <|
                      some [3]
                    else
                      some []
                  else
                    some []
                else
                  some []
          else
            bif decide (a0.1.2.1 > 0) then
              bif !r2 then
                bif decide ((a0.2.2.1.length : Int) < a0.1.2.1) then
                  chk (([2] : List Int).length ≤ 4294967296) <|
                  bif decide (a0.1.2.1 > 0) then
                    bif !r3 then
                      bif decide ((a0.2.2.1.length : Int) > 0) then
                        chk (([2] : List Int).length + ([3] : List Int).length ≤ 4294967296) <|
                        some ([2] ++ [3])
                      else
                        some [2]
                    else
                      some [2]
                  else
                    some [2]
                else
                  bif decide (a0.1.2.1 > 0) then
                    bif !r3 then
                      bif decide ((a0.2.2.1.length : Int) > 0) then
                        chk (([3] : List Int).length ≤ 4294967296) <|
                        some [3]
                      else
                        some []
                    else
                      some []
                  else
                    some []
              else
                bif decide (a0.1.2.1 > 0) then
                  bif !r3 then
                    bif decide ((a0.2.2.1.length : Int) > 0) then
                      chk (([3] : List Int).length ≤ 4294967296) <|
                      some [3]
                    else
                      some []
                  else
                    some []
                else
                  some []
            else
              bif decide (a0.1.2.1 > 0) then
                bif !r3 then
                  bif decide ((a0.2.2.1.length : Int) > 0) then
                    chk (([3] : List Int).length ≤ 4294967296) <|
                    some [3]
                  else
                    some []
                else
                  some []
              else
                some []
        else
          bif decide (a0.1.2.1 > 0) then
            bif !r2 then
              bif decide ((a0.2.2.1.length : Int) < a0.1.2.1) then
                chk (([2] : List Int).length ≤ 4294967296) <|
                bif decide (a0.1.2.1 > 0) then
                  bif !r3 then
                    bif decide ((a0.2.2.1.length : Int) > 0) then
                      chk (([2] : List Int).length + ([3] : List Int).length ≤ 4294967296) <|
                      some ([2] ++ [3])
                    else
                      some [2]
                  else
                    some [2]
                else
                  some [2]
              else
                bif decide (a0.1.2.1 > 0) then
                  bif !r3 then
                    bif decide ((a0.2.2.1.length : Int) > 0) then
                      chk (([3] : List Int).length ≤ 4294967296) <|
                      some [3]
                    else
                      some []
                  else
                    some []
                else
                  some []
            else
              bif decide (a0.1.2.1 > 0) then
                bif !r3 then
                  bif decide ((a0.2.2.1.length : Int) > 0) then
                    chk (([3] : List Int).length ≤ 4294967296) <|
                    some [3]
                  else
                    some []
                else
                  some []
              else
                some []
          else
            bif decide (a0.1.2.1 > 0) then
              bif !r3 then
                bif decide ((a0.2.2.1.length : Int) > 0) then
                  chk (([3] : List Int).length ≤ 4294967296) <|
                  some [3]
                else
                  some []
              else
                some []
            else
              some []
      else
        bif decide (a0.1.2.1 = 0) then
          bif !r2 then
            bif decide (a0.1.2.1 > 0) then
              bif !r2 then
                bif decide ((a0.2.2.1.length : Int) < a0.1.2.1) then
                  chk (([2] : List Int).length ≤ 4294967296) <|
                  bif decide (a0.1.2.1 > 0) then
                    some [2]
                  else
                    some [2]
                else
                  bif decide (a0.1.2.1 > 0) then
                    some []
                  else
                    some []
              else
                bif decide (a0.1.2.1 > 0) then
                  some []
                else
                  some []
            else
              bif decide (a0.1.2.1 > 0) then
                some []
              else
                some []
          else
            bif decide (a0.1.2.1 > 0) then
              bif !r2 then
                bif decide ((a0.2.2.1.length : Int) < a0.1.2.1) then
                  chk (([2] : List Int).length ≤ 4294967296) <|
                  bif decide (a0.1.2.1 > 0) then
                    some [2]
                  else
                    some [2]
                else
                  bif decide (a0.1.2.1 > 0) then
                    some []
                  else
                    some []
              else
                bif decide (a0.1.2.1 > 0) then
                  some []
                else
                  some []
            else
              bif decide (a0.1.2.1 > 0) then
                some []
              else
                some []
        else
          bif decide (a0.1.2.1 > 0) then
            bif !r2 then
              bif decide ((a0.2.2.1.length : Int) < a0.1.2.1) then
                chk (([2] : List Int).length ≤ 4294967296) <|
                bif decide (a0.1.2.1 > 0) then
                  some [2]
                else
                  some [2]
              else
                bif decide (a0.1.2.1 > 0) then
                  some []
                else
                  some []
            else
              bif decide (a0.1.2.1 > 0) then
                some []
              else
                some []
          else
            bif decide (a0.1.2.1 > 0) then
              some []
            else
              some []
    else
      bif decide ((a0.2.2.2.2.2.1.2.1.length : Int) > 0) then
        Option.bind (R18_InHit a0) fun r4 =>
        bif decide (a0.1.2.1 = 0) then
          bif decide (a0.1.2.1 > 0) then
            bif decide (a0.1.2.1 > 0) then
              bif !r4 then
                bif decide ((a0.2.2.1.length : Int) > 0) then
                  chk (([3] : List Int).length ≤ 4294967296) <|
                  some [3]
                else
                  some []
              else
                some []
            else
              some []
          else
            bif decide (a0.1.2.1 > 0) then
              bif !r4 then
                bif decide ((a0.2.2.1.length : Int) > 0) then
                  chk (([3] : List Int).length ≤ 4294967296) <|
                  some [3]
                else
                  some []
              else
                some []
            else
              some []
        else
          bif decide (a0.1.2.1 > 0) then
            bif decide (a0.1.2.1 > 0) then
              bif !r4 then
                bif decide ((a0.2.2.1.length : Int) > 0) then
                  chk (([3] : List Int).length ≤ 4294967296) <|
                  some [3]
                else
                  some []
              else
                some []
            else
              some []
          else
            bif decide (a0.1.2.1 > 0) then
              bif !r4 then
                bif decide ((a0.2.2.1.length : Int) > 0) then
                  chk (([3] : List Int).length ≤ 4294967296) <|
                  some [3]
                else
                  some []
              else
                some []
            else
              some []
      else
        bif decide (a0.1.2.1 = 0) then
          bif decide (a0.1.2.1 > 0) then
            bif decide (a0.1.2.1 > 0) then
              some []
            else
              some []
          else
            bif decide (a0.1.2.1 > 0) then
              some []
            else
              some []
        else
          bif decide (a0.1.2.1 > 0) then
            bif decide (a0.1.2.1 > 0) then
              some []
            else
              some []
          else
            bif decide (a0.1.2.1 > 0) then
              some []
            else
              some []
def R18_Hit (a0 : (Int × Int × Int × Int × Unit) × Int × (List Int) × (Bool × (List Int) × Unit) × (List Int) × (Bool × (List Int) × Unit) × Unit) (a1 : Int) : Option Bool :=
  Option.bind (R18_Fine a0) fun r1 =>
  bif r1 then
    Option.bind (R17_At a0.2.2.2.1.2.1 a1) fun r2 =>
    bif decide (r2 ≥ 0) then
      Option.bind (R18_OutHit a0) fun r3 =>
      bif r3 then
        some true
      else
        Option.bind (R17_At a0.2.2.2.2.2.1.2.1 a1) fun r4 =>
        bif decide (r4 ≥ 0) then
          Option.bind (R18_InHit a0) fun r5 =>
          some r5
        else
          some false
    else
      Option.bind (R17_At a0.2.2.2.2.2.1.2.1 a1) fun r6 =>
      bif decide (r6 ≥ 0) then
        Option.bind (R18_InHit a0) fun r7 =>
        some r7
      else
        some false
  else
    some false
def R18_Poison (a0 : (Int × Int × Int × Int × Unit) × Int × (List Int) × (Bool × (List Int) × Unit) × (List Int) × (Bool × (List Int) × Unit) × Unit) (a1 : Int) : Option (((Int × Int × Int × Int × Unit) × Int × (List Int) × (Bool × (List Int) × Unit) × (List Int) × (Bool × (List Int) × Unit) × Unit) × Int × Unit) :=
  Option.bind (R18_Fine a0) fun r1 =>
  bif !r1 then
    some (a0, 1, ())
  else
    Option.bind (R16_Raise a0.2.1 a1) fun r2 =>
    bif !decide (r2.2.1 = 0) then
      some (a0, r2.2.1, ())
    else
      some ((a0.1, r2.1, a0.2.2.1, a0.2.2.2.1, a0.2.2.2.2.1, a0.2.2.2.2.2.1, ()), 0, ())
def R18_Do (a0 : (Int × Int × Int × Int × Unit) × Int × (List Int) × (Bool × (List Int) × Unit) × (List Int) × (Bool × (List Int) × Unit) × Unit) (a1 : Int) : Option (((Int × Int × Int × Int × Unit) × Int × (List Int) × (Bool × (List Int) × Unit) × (List Int) × (Bool × (List Int) × Unit) × Unit) × (Int × Int × Int × Unit) × Int × Unit) :=
  Option.bind (R18_Fine a0) fun r1 =>
  bif !r1 then
    some (a0, (0, 0, 0, ()), 1, ())
  else
    Option.bind (R18_What a0) fun r2 =>
    Option.bind (R17_At r2 a1) fun r3 =>
    bif decide (r3 < 0) then
      some (a0, (0, 0, 0, ()), 13, ())
    else
      bif decide (a1 = 1) then
        chk (0 ≤ (0 : Int) ∧ (0 : Int) < (a0.2.2.2.1.2.1.length : Int)) <|
        chk (0 ≤ (0 : Int) ∧ (0 : Int) < (a0.2.2.2.2.1.length : Int)) <|
        chk (0 ≤ (1 : Int) ∧ (1 : Int) ≤ (a0.2.2.2.1.2.1.length : Int) ∧ (a0.2.2.2.1.2.1.length : Int) ≤ (a0.2.2.2.1.2.1.length : Int)) <|
        chk (0 ≤ (1 : Int) ∧ (1 : Int) ≤ (a0.2.2.2.2.1.length : Int) ∧ (a0.2.2.2.2.1.length : Int) ≤ (a0.2.2.2.2.1.length : Int)) <|
        bif decide (a1 = 2) then
          chk (a0.2.2.1.length ≤ 4294967296) <|
          chk (a0.2.2.1.length + ([a0.2.2.2.2.1.getD (0 : Int).toNat 0] : List Int).length ≤ 4294967296) <|
          letv (a0.2.2.1 ++ [a0.2.2.2.2.1.getD (0 : Int).toNat 0]) fun l1 =>
          bif decide (a1 = 3) then
            chk (0 ≤ (0 : Int) ∧ (0 : Int) < (l1.length : Int)) <|
            chk (0 ≤ (1 : Int) ∧ (1 : Int) ≤ (l1.length : Int) ∧ (l1.length : Int) ≤ (l1.length : Int)) <|
            bif decide (a1 = 1) then
              chk (0 ≤ (0 : Int) ∧ (0 : Int) < (a0.2.2.2.2.2.1.2.1.length : Int)) <|
              chk (0 ≤ (1 : Int) ∧ (1 : Int) ≤ (a0.2.2.2.2.2.1.2.1.length : Int) ∧ (a0.2.2.2.2.2.1.2.1.length : Int) ≤ (a0.2.2.2.2.2.1.2.1.length : Int)) <|
              some ((a0.1, a0.2.1, (l1.take (l1.length : Int).toNat).drop (1 : Int).toNat, (a0.2.2.2.1.1, (a0.2.2.2.1.2.1.take (a0.2.2.2.1.2.1.length : Int).toNat).drop (1 : Int).toNat, ()), (a0.2.2.2.2.1.take (a0.2.2.2.2.1.length : Int).toNat).drop (1 : Int).toNat, (a0.2.2.2.2.2.1.1, (a0.2.2.2.2.2.1.2.1.take (a0.2.2.2.2.2.1.2.1.length : Int).toNat).drop (1 : Int).toNat, ()), ()), (a0.2.2.2.1.2.1.getD (0 : Int).toNat 0, a0.2.2.2.2.2.1.2.1.getD (0 : Int).toNat 0, l1.getD (0 : Int).toNat 0, ()), 0, ())
            else
              bif decide (a1 = 3) then
                chk (0 ≤ (0 : Int) ∧ (0 : Int) < (a0.2.2.2.2.2.1.2.1.length : Int)) <|
                chk (0 ≤ (1 : Int) ∧ (1 : Int) ≤ (a0.2.2.2.2.2.1.2.1.length : Int) ∧ (a0.2.2.2.2.2.1.2.1.length : Int) ≤ (a0.2.2.2.2.2.1.2.1.length : Int)) <|
                some ((a0.1, a0.2.1, (l1.take (l1.length : Int).toNat).drop (1 : Int).toNat, (a0.2.2.2.1.1, (a0.2.2.2.1.2.1.take (a0.2.2.2.1.2.1.length : Int).toNat).drop (1 : Int).toNat, ()), (a0.2.2.2.2.1.take (a0.2.2.2.2.1.length : Int).toNat).drop (1 : Int).toNat, (a0.2.2.2.2.2.1.1, (a0.2.2.2.2.2.1.2.1.take (a0.2.2.2.2.2.1.2.1.length : Int).toNat).drop (1 : Int).toNat, ()), ()), (a0.2.2.2.1.2.1.getD (0 : Int).toNat 0, a0.2.2.2.2.2.1.2.1.getD (0 : Int).toNat 0, l1.getD (0 : Int).toNat 0, ()), 0, ())
              else
                some ((a0.1, a0.2.1, (l1.take (l1.length : Int).toNat).drop (1 : Int).toNat, (a0.2.2.2.1.1, (a0.2.2.2.1.2.1.take (a0.2.2.2.1.2.1.length : Int).toNat).drop (1 : Int).toNat, ()), (a0.2.2.2.2.1.take (a0.2.2.2.2.1.length : Int).toNat).drop (1 : Int).toNat, a0.2.2.2.2.2.1, ()), (a0.2.2.2.1.2.1.getD (0 : Int).toNat 0, (-1), l1.getD (0 : Int).toNat 0, ()), 0, ())
          else
            bif decide (a1 = 1) then
              chk (0 ≤ (0 : Int) ∧ (0 : Int) < (a0.2.2.2.2.2.1.2.1.length : Int)) <|
              chk (0 ≤ (1 : Int) ∧ (1 : Int) ≤ (a0.2.2.2.2.2.1.2.1.length : Int) ∧ (a0.2.2.2.2.2.1.2.1.length : Int) ≤ (a0.2.2.2.2.2.1.2.1.length : Int)) <|
              some ((a0.1, a0.2.1, l1, (a0.2.2.2.1.1, (a0.2.2.2.1.2.1.take (a0.2.2.2.1.2.1.length : Int).toNat).drop (1 : Int).toNat, ()), (a0.2.2.2.2.1.take (a0.2.2.2.2.1.length : Int).toNat).drop (1 : Int).toNat, (a0.2.2.2.2.2.1.1, (a0.2.2.2.2.2.1.2.1.take (a0.2.2.2.2.2.1.2.1.length : Int).toNat).drop (1 : Int).toNat, ()), ()), (a0.2.2.2.1.2.1.getD (0 : Int).toNat 0, a0.2.2.2.2.2.1.2.1.getD (0 : Int).toNat 0, a0.2.2.2.2.1.getD (0 : Int).toNat 0, ()), 0, ())
            else
              bif decide (a1 = 3) then
                chk (0 ≤ (0 : Int) ∧ (0 : Int) < (a0.2.2.2.2.2.1.2.1.length : Int)) <|
                chk (0 ≤ (1 : Int) ∧ (1 : Int) ≤ (a0.2.2.2.2.2.1.2.1.length : Int) ∧ (a0.2.2.2.2.2.1.2.1.length : Int) ≤ (a0.2.2.2.2.2.1.2.1.length : Int)) <|
                some ((a0.1, a0.2.1, l1, (a0.2.2.2.1.1, (a0.2.2.2.1.2.1.take (a0.2.2.2.1.2.1.length : Int).toNat).drop (1 : Int).toNat, ()), (a0.2.2.2.2.1.take (a0.2.2.2.2.1.length : Int).toNat).drop (1 : Int).toNat, (a0.2.2.2.2.2.1.1, (a0.2.2.2.2.2.1.2.1.take (a0.2.2.2.2.2.1.2.1.length : Int).toNat).drop (1 : Int).toNat, ()), ()), (a0.2.2.2.1.2.1.getD (0 : Int).toNat 0, a0.2.2.2.2.2.1.2.1.getD (0 : Int).toNat 0, a0.2.2.2.2.1.getD (0 : Int).toNat 0, ()), 0, ())
              else
                some ((a0.1, a0.2.1, l1, (a0.2.2.2.1.1, (a0.2.2.2.1.2.1.take (a0.2.2.2.1.2.1.length : Int).toNat).drop (1 : Int).toNat, ()), (a0.2.2.2.2.1.take (a0.2.2.2.2.1.length : Int).toNat).drop (1 : Int).toNat, a0.2.2.2.2.2.1, ()), (a0.2.2.2.1.2.1.getD (0 : Int).toNat 0, (-1), a0.2.2.2.2.1.getD (0 : Int).toNat 0, ()), 0, ())
        else
          bif decide (a1 = 3) then
            chk (0 ≤ (0 : Int) ∧ (0 : Int) < (a0.2.2.1.length : Int)) <|
            chk (0 ≤ (1 : Int) ∧ (1 : Int) ≤ (a0.2.2.1.length : Int) ∧ (a0.2.2.1.length : Int) ≤ (a0.2.2.1.length : Int)) <|
            bif decide (a1 = 1) then
              chk (0 ≤ (0 : Int) ∧ (0 : Int) < (a0.2.2.2.2.2.1.2.1.length : Int)) <|
              chk (0 ≤ (1 : Int) ∧ (1 : Int) ≤ (a0.2.2.2.2.2.1.2.1.length : Int) ∧ (a0.2.2.2.2.2.1.2.1.length : Int) ≤ (a0.2.2.2.2.2.1.2.1.length : Int)) <|
              some ((a0.1, a0.2.1, (a0.2.2.1.take (a0.2.2.1.length : Int).toNat).drop (1 : Int).toNat, (a0.2.2.2.1.1, (a0.2.2.2.1.2.1.take (a0.2.2.2.1.2.1.length : Int).toNat).drop (1 : Int).toNat, ()), (a0.2.2.2.2.1.take (a0.2.2.2.2.1.length : Int).toNat).drop (1 : Int).toNat, (a0.2.2.2.2.2.1.1, (a0.2.2.2.2.2.1.2.1.take (a0.2.2.2.2.2.1.2.1.length : Int).toNat).drop (1 : Int).toNat, ()), ()), (a0.2.2.2.1.2.1.getD (0 : Int).toNat 0, a0.2.2.2.2.2.1.2.1.getD (0 : Int).toNat 0, a0.2.2.1.getD (0 : Int).toNat 0, ()), 0, ())
            else
              bif decide (a1 = 3) then
                chk (0 ≤ (0 : Int) ∧ (0 : Int) < (a0.2.2.2.2.2.1.2.1.length : Int)) <|
                chk (0 ≤ (1 : Int) ∧ (1 : Int) ≤ (a0.2.2.2.2.2.1.2.1.length : Int) ∧ (a0.2.2.2.2.2.1.2.1.length : Int) ≤ (a0.2.2.2.2.2.1.2.1.length : Int)) <|
                some ((a0.1, a0.2.1, (a0.2.2.1.take (a0.2.2.1.length : Int).toNat).drop (1 : Int).toNat, (a0.2.2.2.1.1, (a0.2.2.2.1.2.1.take (a0.2.2.2.1.2.1.length : Int).toNat).drop (1 : Int).toNat, ()), (a0.2.2.2.2.1.take (a0.2.2.2.2.1.length : Int).toNat).drop (1 : Int).toNat, (a0.2.2.2.2.2.1.1, (a0.2.2.2.2.2.1.2.1.take (a0.2.2.2.2.2.1.2.1.length : Int).toNat).drop (1 : Int).toNat, ()), ()), (a0.2.2.2.1.2.1.getD (0 : Int).toNat 0, a0.2.2.2.2.2.1.2.1.getD (0 : Int).toNat 0, a0.2.2.1.getD (0 : Int).toNat 0, ()), 0, ())
              else
                some ((a0.1, a0.2.1, (a0.2.2.1.take (a0.2.2.1.length : Int).toNat).drop (1 : Int).toNat, (a0.2.2.2.1.1, (a0.2.2.2.1.2.1.take (a0.2.2.2.1.2.1.length : Int).toNat).drop (1 : Int).toNat, ()), (a0.2.2.2.2.1.take (a0.2.2.2.2.1.length : Int).toNat).drop (1 : Int).toNat, a0.2.2.2.2.2.1, ()), (a0.2.2.2.1.2.1.getD (0 : Int).toNat 0, (-1), a0.2.2.1.getD (0 : Int).toNat 0, ()), 0, ())
          else
            bif decide (a1 = 1) then
              chk (0 ≤ (0 : Int) ∧ (0 : Int) < (a0.2.2.2.2.2.1.2.1.length : Int)) <|
              chk (0 ≤ (1 : Int) ∧ (1 : Int) ≤ (a0.2.2.2.2.2.1.2.1.length : Int) ∧ (a0.2.2.2.2.2.1.2.1.length : Int) ≤ (a0.2.2.2.2.2.1.2.1.length : Int)) <|
              some ((a0.1, a0.2.1, a0.2.2.1, (a0.2.2.2.1.1, (a0.2.2.2.1.2.1.take (a0.2.2.2.1.2.1.length : Int).toNat).drop (1 : Int).toNat, ()), (a0.2.2.2.2.1.take (a0.2.2.2.2.1.length : Int).toNat).drop (1 : Int).toNat, (a0.2.2.2.2.2.1.1, (a0.2.2.2.2.2.1.2.1.take (a0.2.2.2.2.2.1.2.1.length : Int).toNat).drop (1 : Int).toNat, ()), ()), (a0.2.2.2.1.2.1.getD (0 : Int).toNat 0, a0.2.2.2.2.2.1.2.1.getD (0 : Int).toNat 0, a0.2.2.2.2.1.getD (0 : Int).toNat 0, ()), 0, ())
            else
              bif decide (a1 = 3) then
                chk (0 ≤ (0 : Int) ∧ (0 : Int) < (a0.2.2.2.2.2.1.2.1.length : Int)) <|
                chk (0 ≤ (1 : Int) ∧ (1 : Int) ≤ (a0.2.2.2.2.2.1.2.1.length : Int) ∧ (a0.2.2.2.2.2.1.2.1.length : Int) ≤ (a0.2.2.2.2.2.1.2.1.length : Int)) <|
                some ((a0.1, a0.2.1, a0.2.2.1, (a0.2.2.2.1.1, (a0.2.2.2.1.2.1.take (a0.2.2.2.1.2.1.length : Int).toNat).drop (1 : Int).toNat, ()), (a0.2.2.2.2.1.take (a0.2.2.2.2.1.length : Int).toNat).drop (1 : Int).toNat, (a0.2.2.2.2.2.1.1, (a0.2.2.2.2.2.1.2.1.take (a0.2.2.2.2.2.1.2.1.length : Int).toNat).drop (1 : Int).toNat, ()), ()), (a0.2.2.2.1.2.1.getD (0 : Int).toNat 0, a0.2.2.2.2.2.1.2.1.getD (0 : Int).toNat 0, a0.2.2.2.2.1.getD (0 : Int).toNat 0, ()), 0, ())
              else
                some ((a0.1, a0.2.1, a0.2.2.1, (a0.2.2.2.1.1, (a0.2.2.2.1.2.1.take (a0.2.2.2.1.2.1.length : Int).toNat).drop (1 : Int).toNat, ()), (a0.2.2.2.2.1.take (a0.2.2.2.2.1.length : Int).toNat).drop (1 : Int).toNat, a0.2.2.2.2.2.1, ()), (a0.2.2.2.1.2.1.getD (0 : Int).toNat 0, (-1), a0.2.2.2.2.1.getD (0 : Int).toNat 0, ()), 0, ())
      else
        bif decide (a1 = 2) then
          chk (0 ≤ (0 : Int) ∧ (0 : Int) < (a0.2.2.2.1.2.1.length : Int)) <|
          chk (0 ≤ (0 : Int) ∧ (0 : Int) < (a0.2.2.2.2.1.length : Int)) <|
          chk (0 ≤ (1 : Int) ∧ (1 : Int) ≤ (a0.2.2.2.1.2.1.length : Int) ∧ (a0.2.2.2.1.2.1.length : Int) ≤ (a0.2.2.2.1.2.1.length : Int)) <|
          chk (0 ≤ (1 : Int) ∧ (1 : Int) ≤ (a0.2.2.2.2.1.length : Int) ∧ (a0.2.2.2.2.1.length : Int) ≤ (a0.2.2.2.2.1.length : Int)) <|
          bif decide (a1 = 2) then
            chk (a0.2.2.1.length ≤ 4294967296) <|
            chk (a0.2.2.1.length + ([a0.2.2.2.2.1.getD (0 : Int).toNat 0] : List Int).length ≤ 4294967296) <|
            letv (a0.2.2.1 ++ [a0.2.2.2.2.1.getD (0 : Int).toNat 0]) fun l2 =>
            bif decide (a1 = 3) then
              chk (0 ≤ (0 : Int) ∧ (0 : Int) < (l2.length : Int)) <|
              chk (0 ≤ (1 : Int) ∧ (1 : Int) ≤ (l2.length : Int) ∧ (l2.length : Int) ≤ (l2.length : Int)) <|
              bif decide (a1 = 1) then
                chk (0 ≤ (0 : Int) ∧ (0 : Int) < (a0.2.2.2.2.2.1.2.1.length : Int)) <|
                chk (0 ≤ (1 : Int) ∧ (1 : Int) ≤ (a0.2.2.2.2.2.1.2.1.length : Int) ∧ (a0.2.2.2.2.2.1.2.1.length : Int) ≤ (a0.2.2.2.2.2.1.2.1.length : Int)) <|
                some ((a0.1, a0.2.1, (l2.take (l2.length : Int).toNat).drop (1 : Int).toNat, (a0.2.2.2.1.1, (a0.2.2.2.1.2.1.take (a0.2.2.2.1.2.1.length : Int).toNat).drop (1 : Int).toNat, ()), (a0.2.2.2.2.1.take (a0.2.2.2.2.1.length : Int).toNat).drop (1 : Int).toNat, (a0.2.2.2.2.2.1.1, (a0.2.2.2.2.2.1.2.1.take (a0.2.2.2.2.2.1.2.1.length : Int).toNat).drop (1 : Int).toNat, ()), ()), (a0.2.2.2.1.2.1.getD (0 : Int).toNat 0, a0.2.2.2.2.2.1.2.1.getD (0 : Int).toNat 0, l2.getD (0 : Int).toNat 0, ()), 0, ())
              else
                bif decide (a1 = 3) then
                  chk (0 ≤ (0 : Int) ∧ (0 : Int) < (a0.2.2.2.2.2.1.2.1.length : Int)) <|
                  chk (0 ≤ (1 : Int) ∧ (1 : Int) ≤ (a0.2.2.2.2.2.1.2.1.length : Int) ∧ (a0.2.2.2.2.2.1.2.1.length : Int) ≤ (a0.2.2.2.2.2.1.2.1.length : Int)) <|
                  some ((a0.1, a0.2.1, (l2.take (l2.length : Int).toNat).drop (1 : Int).toNat, (a0.2.2.2.1.1, (a0.2.2.2.1.2.1.take (a0.2.2.2.1.2.1.length : Int).toNat).drop (1 : Int).toNat, ()), (a0.2.2.2.2.1.take (a0.2.2.2.2.1.length : Int).toNat).drop (1 : Int).toNat, (a0.2.2.2.2.2.1.1, (a0.2.2.2.2.2.1.2.1.take (a0.2.2.2.2.2.1.2.1.length : Int).toNat).drop (1 : Int).toNat, ()), ()), (a0.2.2.2.1.2.1.getD (0 : Int).toNat 0, a0.2.2.2.2.2.1.2.1.getD (0 : Int).toNat 0, l2.getD (0 : Int).toNat 0, ()), 0, ())
                else
                  some ((a0.1, a0.2.1, (l2.take (l2.length : Int).toNat).drop (1 : Int).toNat, (a0.2.2.2.1.1, (a0.2.2.2.1.2.1.take (a0.2.2.2.1.2.1.length : Int).toNat).drop (1 : Int).toNat, ()), (a0.2.2.2.2.1.take (a0.2.2.2.2.1.length : Int).toNat).drop (1 : Int).toNat, a0.2.2.2.2.2.1, ()), (a0.2.2.2.1.2.1.getD (0 : Int).toNat 0, (-1), l2.getD (0 : Int).toNat 0, ()), 0, ())
            else
              bif decide (a1 = 1) then
                chk (0 ≤ (0 : Int) ∧ (0 : Int) < (a0.2.2.2.2.2.1.2.1.length : Int)) <|
                chk (0 ≤ (1 : Int) ∧ (1 : Int) ≤ (a0.2.2.2.2.2.1.2.1.length : Int) ∧ (a0.2.2.2.2.2.1.2.1.length : Int) ≤ (a0.2.2.2.2.2.1.2.1.length : Int)) <|
                some ((a0.1, a0.2.1, l2, (a0.2.2.2.1.1, (a0.2.2.2.1.2.1.take (a0.2.2.2.1.2.1.length : Int).toNat).drop (1 : Int).toNat, ()), (a0.2.2.2.2.1.take (a0.2.2.2.2.1.length : Int).toNat).drop (1 : Int).toNat, (a0.2.2.2.2.2.1.1, (a0.2.2.2.2.2.1.2.1.take (a0.2.2.2.2.2.1.2.1.length : Int).toNat).drop (1 : Int).toNat, ()), ()), (a0.2.2.2.1.2.1.getD (0 : Int).toNat 0, a0.2.2.2.2.2.1.2.1.getD (0 : Int).toNat 0, a0.2.2.2.2.1.getD (0 : Int).toNat 0, ()), 0, ())
              else
                bif decide (a1 = 3) then
                  chk (0 ≤ (0 : Int) ∧ (0 : Int) < (a0.2.2.2.2.2.1.2.1.length : Int)) <|
                  chk (0 ≤ (1 : Int) ∧ (1 : Int) ≤ (a0.2.2.2.2.2.1.2.1.length : Int) ∧ (a0.2.2.2.2.2.1.2.1.length : Int) ≤ (a0.2.2.2.2.2.1.2.1.length : Int)) <|
                  some ((a0.1, a0.2.1, l2, (a0.2.2.2.1.1, (a0.2.2.2.1.2.1.take (a0.2.2.2.1.2.1.length : Int).toNat).drop (1 : Int).toNat, ()), (a0.2.2.2.2.1.take (a0.2.2.2.2.1.length : Int).toNat).drop (1 : Int).toNat, (a0.2.2.2.2.2.1.1, (a0.2.2.2.2.2.1.2.1.take (a0.2.2.2.2.2.1.2.1.length : Int).toNat).drop (1 : Int).toNat, ()), ()), (a0.2.2.2.1.2.1.getD (0 : Int).toNat 0, a0.2.2.2.2.2.1.2.1.getD (0 : Int).toNat 0, a0.2.2.2.2.1.getD (0 : Int).toNat 0, ()), 0, ())
                else
                  some ((a0.1, a0.2.1, l2, (a0.2.2.2.1.1, (a0.2.2.2.1.2.1.take (a0.2.2.2.1.2.1.length : Int).toNat).drop (1 : Int).toNat, ()), (a0.2.2.2.2.1.take (a0.2.2.2.2.1.length : Int).toNat).drop (1 : Int).toNat, a0.2.2.2.2.2.1, ()), (a0.2.2.2.1.2.1.getD (0 : Int).toNat 0, (-1), a0.2.2.2.2.1.getD (0 : Int).toNat 0, ()), 0, ())
          else
            bif decide (a1 = 3) then
              chk (0 ≤ (0 : Int) ∧ (0 : Int) < (a0.2.2.1.length : Int)) <|
              chk (0 ≤ (1 : Int) ∧ (1 : Int) ≤ (a0.2.2.1.length : Int) ∧ (a0.2.2.1.length : Int) ≤ (a0.2.2.1.length : Int)) <|
              bif decide (a1 = 1) then
                chk (0 ≤ (0 : Int) ∧ (0 : Int) < (a0.2.2.2.2.2.1.2.1.length : Int)) <|
                chk (0 ≤ (1 : Int) ∧ (1 : Int) ≤ (a0.2.2.2.2.2.1.2.1.length : Int) ∧ (a0.2.2.2.2.2.1.2.1.length : Int) ≤ (a0.2.2.2.2.2.1.2.1.length : Int)) <|
                some ((a0.1, a0.2.1, (a0.2.2.1.take (a0.2.2.1.length : Int).toNat).drop (1 : Int).toNat, (a0.2.2.2.1.1, (a0.2.2.2.1.2.1.take (a0.2.2.2.1.2.1.length : Int).toNat).drop (1 : Int).toNat, ()), (a0.2.2.2.2.1.take (a0.2.2.2.2.1.length : Int).toNat).drop (1 : Int).toNat, (a0.2.2.2.2.2.1.1, (a0.2.2.2.2.2.1.2.1.take (a0.2.2.2.2.2.1.2.1.length : Int).toNat).drop (1 : Int).toNat, ()), ()), (a0.2.2.2.1.2.1.getD (0 : Int).toNat 0, a0.2.2.2.2.2.1.2.1.getD (0 : Int).toNat 0, a0.2.2.1.getD (0 : Int).toNat 0, ()), 0, ())
              else
                bif decide (a1 = 3) then
                  chk (0 ≤ (0 : Int) ∧ (0 : Int) < (a0.2.2.2.2.2.1.2.1.length : Int)) <|
                  chk (0 ≤ (1 : Int) ∧ (1 : Int) ≤ (a0.2.2.2.2.2.1.2.1.length : Int) ∧ (a0.2.2.2.2.2.1.2.1.length : Int) ≤ (a0.2.2.2.2.2.1.2.1.length : Int)) <|
                  some ((a0.1, a0.2.1, (a0.2.2.1.take (a0.2.2.1.length : Int).toNat).drop (1 : Int).toNat, (a0.2.2.2.1.1, (a0.2.2.2.1.2.1.take (a0.2.2.2.1.2.1.length : Int).toNat).drop (1 : Int).toNat, ()), (a0.2.2.2.2.1.take (a0.2.2.2.2.1.length : Int).toNat).drop (1 : Int).toNat, (a0.2.2.2.2.2.1.1, (a0.2.2.2.2.2.1.2.1.take (a0.2.2.2.2.2.1.2.1.length : Int).toNat).drop (1 : Int).toNat, ()), ()), (a0.2.2.2.1.2.1.getD (0 : Int).toNat 0, a0.2.2.2.2.2.1.2.1.getD (0 : Int).toNat 0, a0.2.2.1.getD (0 : Int).toNat 0, ()), 0, ())
                else
                  some ((a0.1, a0.2.1, (a0.2.2.1.take (a0.2.2.1.length : Int).toNat).drop (1 : Int).toNat, (a0.2.2.2.1.1, (a0.2.2.2.1.2.1.take (a0.2.2.2.1.2.1.length : Int).toNat).drop (1 : Int).toNat, ()), (a0.2.2.2.2.1.take (a0.2.2.2.2.1.length : Int).toNat).drop (1 : Int).toNat, a0.2.2.2.2.2.1, ()), (a0.2.2.2.1.2.1.getD (0 : Int).toNat 0, (-1), a0.2.2.1.getD (0 : Int).toNat 0, ()), 0, ())
            else
              bif decide (a1 = 1) then
                chk (0 ≤ (0 : Int) ∧ (0 : Int) < (a0.2.2.2.2.2.1.2.1.length : Int)) <|
                chk (0 ≤ (1 : Int) ∧ (1 : Int) ≤ (a0.2.2.2.2.2.1.2.1.length : Int) ∧ (a0.2.2.2.2.2.1.2.1.length : Int) ≤ (a0.2.2.2.2.2.1.2.1.length : Int)) <|
                some ((a0.1, a0.2.1, a0.2.2.1, (a0.2.2.2.1.1, (a0.2.2.2.1.2.1.take (a0.2.2.2.1.2.1.length : Int).toNat).drop (1 : Int).toNat, ()), (a0.2.2.2.2.1.take (a0.2.2.2.2.1.length : Int).toNat).drop (1 : Int).toNat, (a0.2.2.2.2.2.1.1, (a0.2.2.2.2.2.1.2.1.take (a0.2.2.2.2.2.1.2.1.length : Int).toNat).drop (1 : Int).toNat, ()), ()), (a0.2.2.2.1.2.1.getD (0 : Int).toNat 0, a0.2.2.2.2.2.1.2.1.getD (0 : Int).toNat 0, a0.2.2.2.2.1.getD (0 : Int).toNat 0, ()), 0, ())
              else
                bif decide (a1 = 3) then
                  chk (0 ≤ (0 : Int) ∧ (0 : Int) < (a0.2.2.2.2.2.1.2.1.length : Int)) <|
                  chk (0 ≤ (1 : Int) ∧ (1 : Int) ≤ (a0.2.2.2.2.2.1.2.1.length : Int) ∧ (a0.2.2.2.2.2.1.2.1.length : Int) ≤ (a0.2.2.2.2.2.1.2.1.length : Int)) <|
                  some ((a0.1, a0.2.1, a0.2.2.1, (a0.2.2.2.1.1, (a0.2.2.2.1.2.1.take (a0.2.2.2.1.2.1.length : Int).toNat).drop (1 : Int).toNat, ()), (a0.2.2.2.2.1.take (a0.2.2.2.2.1.length : Int).toNat).drop (1 : Int).toNat, (a0.2.2.2.2.2.1.1, (a0.2.2.2.2.2.1.2.1.take (a0.2.2.2.2.2.1.2.1.length : Int).toNat).drop (1 : Int).toNat, ()), ()), (a0.2.2.2.1.2.1.getD (0 : Int).toNat 0, a0.2.2.2.2.2.1.2.1.getD (0 : Int).toNat 0, a0.2.2.2.2.1.getD (0 : Int).toNat 0, ()), 0, ())
                else
                  some ((a0.1, a0.2.1, a0.2.2.1, (a0.2.2.2.1.1, (a0.2.2.2.1.2.1.take (a0.2.2.2.1.2.1.length : Int).toNat).drop (1 : Int).toNat, ()), (a0.2.2.2.2.1.take (a0.2.2.2.2.1.length : Int).toNat).drop (1 : Int).toNat, a0.2.2.2.2.2.1, ()), (a0.2.2.2.1.2.1.getD (0 : Int).toNat 0, (-1), a0.2.2.2.2.1.getD (0 : Int).toNat 0, ()), 0, ())
        else
          bif decide (a1 = 2) then
            chk (a0.2.2.1.length ≤ 4294967296) <|
            chk (a0.2.2.1.length + ([0] : List Int).length ≤ 4294967296) <|
            bif decide (a1 = 3) then
              chk (0 ≤ (0 : Int) ∧ (0 : Int) < ((a0.2.2.1 ++ [0]).length : Int)) <|
              chk (0 ≤ (1 : Int) ∧ (1 : Int) ≤ ((a0.2.2.1 ++ [0]).length : Int) ∧ ((a0.2.2.1 ++ [0]).length : Int) ≤ ((a0.2.2.1 ++ [0]).length : Int)) <|
              bif decide (a1 = 1) then
                chk (0 ≤ (0 : Int) ∧ (0 : Int) < (a0.2.2.2.2.2.1.2.1.length : Int)) <|
                chk (0 ≤ (1 : Int) ∧ (1 : Int) ≤ (a0.2.2.2.2.2.1.2.1.length : Int) ∧ (a0.2.2.2.2.2.1.2.1.length : Int) ≤ (a0.2.2.2.2.2.1.2.1.length : Int)) <|
                some ((a0.1, a0.2.1, ((a0.2.2.1 ++ [0]).take ((a0.2.2.1 ++ [0]).length : Int).toNat).drop (1 : Int).toNat, a0.2.2.2.1, a0.2.2.2.2.1, (a0.2.2.2.2.2.1.1, (a0.2.2.2.2.2.1.2.1.take (a0.2.2.2.2.2.1.2.1.length : Int).toNat).drop (1 : Int).toNat, ()), ()), ((-1), a0.2.2.2.2.2.1.2.1.getD (0 : Int).toNat 0, (a0.2.2.1 ++ [0]).getD (0 : Int).toNat 0, ()), 0, ())
              else
                bif decide (a1 = 3) then
                  chk (0 ≤ (0 : Int) ∧ (0 : Int) < (a0.2.2.2.2.2.1.2.1.length : Int)) <|
                  chk (0 ≤ (1 : Int) ∧ (1 : Int) ≤ (a0.2.2.2.2.2.1.2.1.length : Int) ∧ (a0.2.2.2.2.2.1.2.1.length : Int) ≤ (a0.2.2.2.2.2.1.2.1.length : Int)) <|
                  some ((a0.1, a0.2.1, ((a0.2.2.1 ++ [0]).take ((a0.2.2.1 ++ [0]).length : Int).toNat).drop (1 : Int).toNat, a0.2.2.2.1, a0.2.2.2.2.1, (a0.2.2.2.2.2.1.1, (a0.2.2.2.2.2.1.2.1.take (a0.2.2.2.2.2.1.2.1.length : Int).toNat).drop (1 : Int).toNat, ()), ()), ((-1), a0.2.2.2.2.2.1.2.1.getD (0 : Int).toNat 0, (a0.2.2.1 ++ [0]).getD (0 : Int).toNat 0, ()), 0, ())
                else
                  some ((a0.1, a0.2.1, ((a0.2.2.1 ++ [0]).take ((a0.2.2.1 ++ [0]).length : Int).toNat).drop (1 : Int).toNat, a0.2.2.2.1, a0.2.2.2.2.1, a0.2.2.2.2.2.1, ()), ((-1), (-1), (a0.2.2.1 ++ [0]).getD (0 : Int).toNat 0, ()), 0, ())
            else
              bif decide (a1 = 1) then
                chk (0 ≤ (0 : Int) ∧ (0 : Int) < (a0.2.2.2.2.2.1.2.1.length : Int)) <|
                chk (0 ≤ (1 : Int) ∧ (1 : Int) ≤ (a0.2.2.2.2.2.1.2.1.length : Int) ∧ (a0.2.2.2.2.2.1.2.1.length : Int) ≤ (a0.2.2.2.2.2.1.2.1.length : Int)) <|
                some ((a0.1, a0.2.1, a0.2.2.1 ++ [0], a0.2.2.2.1, a0.2.2.2.2.1, (a0.2.2.2.2.2.1.1, (a0.2.2.2.2.2.1.2.1.take (a0.2.2.2.2.2.1.2.1.length : Int).toNat).drop (1 : Int).toNat, ()), ()), ((-1), a0.2.2.2.2.2.1.2.1.getD (0 : Int).toNat 0, 0, ()), 0, ())
              else
                bif decide (a1 = 3) then
                  chk (0 ≤ (0 : Int) ∧ (0 : Int) < (a0.2.2.2.2.2.1.2.1.length : Int)) <|
                  chk (0 ≤ (1 : Int) ∧ (1 : Int) ≤ (a0.2.2.2.2.2.1.2.1.length : Int) ∧ (a0.2.2.2.2.2.1.2.1.length : Int) ≤ (a0.2.2.2.2.2.1.2.1.length : Int)) <|
                  some ((a0.1, a0.2.1, a0.2.2.1 ++ [0], a0.2.2.2.1, a0.2.2.2.2.1, (a0.2.2.2.2.2.1.1, (a0.2.2.2.2.2.1.2.1.take (a0.2.2.2.2.2.1.2.1.length : Int).toNat).drop (1 : Int).toNat, ()), ()), ((-1), a0.2.2.2.2.2.1.2.1.getD (0 : Int).toNat 0, 0, ()), 0, ())
                else
                  some ((a0.1, a0.2.1, a0.2.2.1 ++ [0], a0.2.2.2.1, a0.2.2.2.2.1, a0.2.2.2.2.2.1, ()), ((-1), (-1), 0, ()), 0, ())
          else
            bif decide (a1 = 3) then
              chk (0 ≤ (0 : Int) ∧ (0 : Int) < (a0.2.2.1.length : Int)) <|
              chk (0 ≤ (1 : Int) ∧ (1 : Int) ≤ (a0.2.2.1.length : Int) ∧ (a0.2.2.1.length : Int) ≤ (a0.2.2.1.length : Int)) <|
              bif decide (a1 = 1) then
                chk (0 ≤ (0 : Int) ∧ (0 : Int) < (a0.2.2.2.2.2.1.2.1.length : Int)) <|
                chk (0 ≤ (1 : Int) ∧ (1 : Int) ≤ (a0.2.2.2.2.2.1.2.1.length : Int) ∧ (a0.2.2.2.2.2.1.2.1.length : Int) ≤ (a0.2.2.2.2.2.1.2.1.length : Int)) <|
                some ((a0.1, a0.2.1, (a0.2.2.1.take (a0.2.2.1.length : Int).toNat).drop (1 : Int).toNat, a0.2.2.2.1, a0.2.2.2.2.1, (a0.2.2.2.2.2.1.1, (a0.2.2.2.2.2.1.2.1.take (a0.2.2.2.2.2.1.2.1.length : Int).toNat).drop (1 : Int).toNat, ()), ()), ((-1), a0.2.2.2.2.2.1.2.1.getD (0 : Int).toNat 0, a0.2.2.1.getD (0 : Int).toNat 0, ()), 0, ())
              else
                bif decide (a1 = 3) then
                  chk (0 ≤ (0 : Int) ∧ (0 : Int) < (a0.2.2.2.2.2.1.2.1.length : Int)) <|
                  chk (0 ≤ (1 : Int) ∧ (1 : Int) ≤ (a0.2.2.2.2.2.1.2.1.length : Int) ∧ (a0.2.2.2.2.2.1.2.1.length : Int) ≤ (a0.2.2.2.2.2.1.2.1.length : Int)) <|
                  some ((a0.1, a0.2.1, (a0.2.2.1.take (a0.2.2.1.length : Int).toNat).drop (1 : Int).toNat, a0.2.2.2.1, a0.2.2.2.2.1, (a0.2.2.2.2.2.1.1, (a0.2.2.2.2.2.1.2.1.take (a0.2.2.2.2.2.1.2.1.length : Int).toNat).drop (1 : Int).toNat, ()), ()), ((-1), a0.2.2.2.2.2.1.2.1.getD (0 : Int).toNat 0, a0.2.2.1.getD (0 : Int).toNat 0, ()), 0, ())
                else
                  some ((a0.1, a0.2.1, (a0.2.2.1.take (a0.2.2.1.length : Int).toNat).drop (1 : Int).toNat, a0.2.2.2.1, a0.2.2.2.2.1, a0.2.2.2.2.2.1, ()), ((-1), (-1), a0.2.2.1.getD (0 : Int).toNat 0, ()), 0, ())
            else
              bif decide (a1 = 1) then
                chk (0 ≤ (0 : Int) ∧ (0 : Int) < (a0.2.2.2.2.2.1.2.1.length : Int)) <|
                chk (0 ≤ (1 : Int) ∧ (1 : Int) ≤ (a0.2.2.2.2.2.1.2.1.length : Int) ∧ (a0.2.2.2.2.2.1.2.1.length : Int) ≤ (a0.2.2.2.2.2.1.2.1.length : Int)) <|
                some ((a0.1, a0.2.1, a0.2.2.1, a0.2.2.2.1, a0.2.2.2.2.1, (a0.2.2.2.2.2.1.1, (a0.2.2.2.2.2.1.2.1.take (a0.2.2.2.2.2.1.2.1.length : Int).toNat).drop (1 : Int).toNat, ()), ()), ((-1), a0.2.2.2.2.2.1.2.1.getD (0 : Int).toNat 0, 0, ()), 0, ())
              else
                bif decide (a1 = 3) then
                  chk (0 ≤ (0 : Int) ∧ (0 : Int) < (a0.2.2.2.2.2.1.2.1.length : Int)) <|
                  chk (0 ≤ (1 : Int) ∧ (1 : Int) ≤ (a0.2.2.2.2.2.1.2.1.length : Int) ∧ (a0.2.2.2.2.2.1.2.1.length : Int) ≤ (a0.2.2.2.2.2.1.2.1.length : Int)) <|
                  some ((a0.1, a0.2.1, a0.2.2.1, a0.2.2.2.1, a0.2.2.2.2.1, (a0.2.2.2.2.2.1.1, (a0.2.2.2.2.2.1.2.1.take (a0.2.2.2.2.2.1.2.1.length : Int).toNat).drop (1 : Int).toNat, ()), ()), ((-1), a0.2.2.2.2.2.1.2.1.getD (0 : Int).toNat 0, 0, ()), 0, ())
                else
                  some (a0, ((-1), (-1), 0, ()), 0, ())
def R18_Leave (a0 : (Int × Int × Int × Int × Unit) × Int × (List Int) × (Bool × (List Int) × Unit) × (List Int) × (Bool × (List Int) × Unit) × Unit) (a1 : Int) : Option ((Int × Int × Int × Int × Unit) × Int × (List Int) × (Bool × (List Int) × Unit) × (List Int) × (Bool × (List Int) × Unit) × Unit) :=
  Option.bind (R18_Fine a0) fun r1 =>
  bif !r1 then
    some a0
  else
    Option.bind (R17_At a0.2.2.2.1.2.1 a1) fun r2 =>
    bif decide (r2 ≥ 0) then
      chk (0 ≤ (0 : Int) ∧ (0 : Int) ≤ r2 ∧ r2 ≤ (a0.2.2.2.2.1.length : Int)) <|
      chk (0 ≤ (IntKind.i64.wrap (r2 + 1)) ∧ (IntKind.i64.wrap (r2 + 1)) ≤ (a0.2.2.2.2.1.length : Int) ∧ (a0.2.2.2.2.1.length : Int) ≤ (a0.2.2.2.2.1.length : Int)) <|
      chk (((a0.2.2.2.2.1.take r2.toNat).drop (0 : Int).toNat).length ≤ 4294967296) <|
      letv ((a0.2.2.2.2.1.take r2.toNat).drop (0 : Int).toNat) fun l1 =>
      chk (l1.length + ((a0.2.2.2.2.1.take (a0.2.2.2.2.1.length : Int).toNat).drop (IntKind.i64.wrap (r2 + 1)).toNat).length ≤ 4294967296) <|
      letv (l1 ++ ((a0.2.2.2.2.1.take (a0.2.2.2.2.1.length : Int).toNat).drop (IntKind.i64.wrap (r2 + 1)).toNat)) fun l2 =>
      Option.bind (R17_Leave a0.2.2.2.1 a1) fun r3 =>
      Option.bind (R17_At a0.2.2.2.2.2.1.2.1 a1) fun r4 =>
      bif decide (r4 ≥ 0) then
        Option.bind (R17_Leave a0.2.2.2.2.2.1 a1) fun r5 =>
        some (a0.1, a0.2.1, a0.2.2.1, r3.1, l2, r5.1, ())
      else
        some (a0.1, a0.2.1, a0.2.2.1, r3.1, l2, a0.2.2.2.2.2.1, ())
    else
      Option.bind (R17_At a0.2.2.2.2.2.1.2.1 a1) fun r6 =>
      bif decide (r6 ≥ 0) then
        Option.bind (R17_Leave a0.2.2.2.2.2.1 a1) fun r7 =>
        some (a0.1, a0.2.1, a0.2.2.1, a0.2.2.2.1, a0.2.2.2.2.1, r7.1, ())
      else
        some a0
end Go.Proofs.YtbkccpddkpclaaaV
