import Derived.Test.YtbkccpddkpclaaaVcG1
import Derived.Test.YtbkccpddkpclaaaDbase
import Derived.Test.YtbkccpddkpclaaaDclaims
namespace Go.Proofs.YtbkccpddkpclaaaV
set_option linter.unusedVariables false
def channel_Check (a0 : Int × Int × Int × Int × Unit) : Option Int :=
  bif decide (a0.1 < 0) then
    some 12
  else
    bif decide (a0.1 > 3) then
      some 12
    else
      bif decide (a0.2.1 < 0) then
        some 8
      else
        bif decide (a0.2.1 > 8) then
          some 8
        else
          Option.bind (poison_Fine a0.2.2.1) fun r1 =>
          bif !r1 then
            some 8
          else
            Option.bind (poison_Fine a0.2.2.2.1) fun r2 =>
            bif !r2 then
              some 8
            else
              some 0
def channel_shares (a0 : Int × Int × Int × Int × Unit) (a1 : Int) : Option Bool :=
  some (!decide ((bitsOp .and .i64 a0.1 a1) = 0))
def channel_New (a0 : Int × Int × Int × Int × Unit) : Option (((Int × Int × Int × Int × Unit) × Int × (List Int) × (Bool × (List Int) × Unit) × (List Int) × (Bool × (List Int) × Unit) × Unit) × Int × Unit) :=
  Option.bind (channel_Check a0) fun r1 =>
  bif !decide (r1 = 0) then
    some (((0, 0, 0, 0, ()), 0, [], (false, [], ()), [], (false, [], ()), ()), r1, ())
  else
    Option.bind (channel_shares a0 1) fun r2 =>
    Option.bind (channel_shares a0 2) fun r3 =>
    some ((a0, 0, [], (r2, [], ()), [], (r3, [], ()), ()), 0, ())
def channel_words_1 (a0 : Int) : Option Bool :=
  Option.bind (word_Fine a0) fun r1 =>
  some (!r1)
def channel_words_J1 : Option Bool :=
  some true
def channel_words_L1 (p1 : Int) (a0 : List Int) (k1 : Int → Option Bool) (x1 : Int) : Option Bool :=
  bif decide (x1 < p1) then
    chk (0 ≤ x1 ∧ x1 < (a0.length : Int)) <|
    Option.bind (channel_words_1 (a0.getD x1.toNat 0)) fun r1 =>
    bif r1 then
      some (!(decide (x1 ≥ 0)))
    else
      k1 (IntKind.i64.wrap (x1 + 1))
  else
    channel_words_J1
def channel_words (a0 : List Int) : Option Bool :=
  loop (channel_words_L1 (a0.length : Int) a0) 0
def channel_Fine (a0 : (Int × Int × Int × Int × Unit) × Int × (List Int) × (Bool × (List Int) × Unit) × (List Int) × (Bool × (List Int) × Unit) × Unit) : Option Bool :=
  Option.bind (channel_Check a0.1) fun r1 =>
  bif !decide (r1 = 0) then
    some false
  else
    Option.bind (poison_Fine a0.2.1) fun r2 =>
    bif !r2 then
      some false
    else
      bif decide ((a0.2.2.1.length : Int) > a0.1.2.1) then
        some false
      else
        Option.bind (channel_words a0.2.2.1) fun r3 =>
        bif !r3 then
          some false
        else
          Option.bind (channel_words a0.2.2.2.2.1) fun r4 =>
          bif !r4 then
            some false
          else
            Option.bind (channel_shares a0.1 1) fun r5 =>
            bif !(a0.2.2.2.1.1 == r5) then
              some false
            else
              Option.bind (channel_shares a0.1 2) fun r6 =>
              bif !(a0.2.2.2.2.2.1.1 == r6) then
                some false
              else
                Option.bind (claims_Fine a0.2.2.2.1) fun r7 =>
                bif r7 then
                  Option.bind (claims_Fine a0.2.2.2.2.2.1) fun r8 =>
                  bif r8 then
                    letv (decide ((a0.2.2.2.2.1.length : Int) = (a0.2.2.2.1.2.1.length : Int))) fun v1 =>
                    some v1
                  else
                    some false
                else
                  some false
def channel_may (a0 : (Int × Int × Int × Int × Unit) × Int × (List Int) × (Bool × (List Int) × Unit) × (List Int) × (Bool × (List Int) × Unit) × Unit) (a1 : Int) : Option Bool :=
  Option.bind (claims_Head a0.2.2.2.1) fun r1 =>
  Option.bind (claims_Head a0.2.2.2.2.2.1) fun r2 =>
  bif r1.2.1 then
    Option.bind (poison_Hit a0.2.1 a0.1.2.2.2.1) fun r3 =>
    bif r2.2.1 then
      Option.bind (poison_Hit a0.2.1 a0.1.2.2.1) fun r4 =>
      bif decide (a1 = 1) then
        bif decide (a0.1.2.1 = 0) then
          bif !r3 then
            some (!r4)
          else
            some false
        else
          some false
      else
        bif decide (a1 = 2) then
          bif decide ((a0.2.2.1.length : Int) < a0.1.2.1) then
            some (!r3)
          else
            some false
        else
          bif decide (a1 = 3) then
            bif decide ((a0.2.2.1.length : Int) > 0) then
              some (!r4)
            else
              some false
          else
            some false
    else
      bif decide (a1 = 1) then
        bif decide (a0.1.2.1 = 0) then
          bif !r3 then
            some false
          else
            some false
        else
          some false
      else
        bif decide (a1 = 2) then
          bif decide ((a0.2.2.1.length : Int) < a0.1.2.1) then
            some (!r3)
          else
            some false
        else
          bif decide (a1 = 3) then
            bif decide ((a0.2.2.1.length : Int) > 0) then
              some false
            else
              some false
          else
            some false
  else
    bif r2.2.1 then
      Option.bind (poison_Hit a0.2.1 a0.1.2.2.1) fun r5 =>
      bif decide (a1 = 1) then
        bif decide (a0.1.2.1 = 0) then
          some false
        else
          some false
      else
        bif decide (a1 = 2) then
          bif decide ((a0.2.2.1.length : Int) < a0.1.2.1) then
            some false
          else
            some false
        else
          bif decide (a1 = 3) then
            bif decide ((a0.2.2.1.length : Int) > 0) then
              some (!r5)
            else
              some false
          else
            some false
    else
      bif decide (a1 = 1) then
        bif decide (a0.1.2.1 = 0) then
          some false
        else
          some false
      else
        bif decide (a1 = 2) then
          bif decide ((a0.2.2.1.length : Int) < a0.1.2.1) then
            some false
          else
            some false
        else
          bif decide (a1 = 3) then
            bif decide ((a0.2.2.1.length : Int) > 0) then
              some false
            else
              some false
          else
            some false
def channel_What_J1 (p1 : List Int) : Option (List Int) :=
  some p1
def channel_What_L1 (a0 : (Int × Int × Int × Int × Unit) × Int × (List Int) × (Bool × (List Int) × Unit) × (List Int) × (Bool × (List Int) × Unit) × Unit) (k1 : (Int × List Int) → Option (List Int)) (x1 : Int × List Int) : Option (List Int) :=
  bif decide (x1.1 ≤ 3) then
    Option.bind (channel_may a0 x1.1) fun r2 =>
    bif r2 then
      chk (x1.2.length + ([x1.1] : List Int).length ≤ 4294967296) <|
      k1 (IntKind.i64.wrap (x1.1 + 1), x1.2 ++ [x1.1])
    else
      k1 (IntKind.i64.wrap (x1.1 + 1), x1.2)
  else
    channel_What_J1 x1.2
def channel_What (a0 : (Int × Int × Int × Int × Unit) × Int × (List Int) × (Bool × (List Int) × Unit) × (List Int) × (Bool × (List Int) × Unit) × Unit) : Option (List Int) :=
  Option.bind (channel_Fine a0) fun r1 =>
  bif !r1 then
    some []
  else
    loop (channel_What_L1 a0) (1, [])
def channel_Hit (a0 : (Int × Int × Int × Int × Unit) × Int × (List Int) × (Bool × (List Int) × Unit) × (List Int) × (Bool × (List Int) × Unit) × Unit) (a1 : Int) : Option Bool :=
  Option.bind (channel_Fine a0) fun r1 =>
  bif !r1 then
    some false
  else
    Option.bind (claims_Ahead a0.2.2.2.1 a1) fun r2 =>
    Option.bind (claims_Ahead a0.2.2.2.2.2.1 a1) fun r3 =>
    bif r2.2.1 then
      Option.bind (poison_Hit a0.2.1 a0.1.2.2.2.1) fun r4 =>
      bif r4 then
        some true
      else
        bif r3.2.1 then
          Option.bind (poison_Hit a0.2.1 a0.1.2.2.1) fun r5 =>
          some r5
        else
          some false
    else
      bif r3.2.1 then
        Option.bind (poison_Hit a0.2.1 a0.1.2.2.1) fun r6 =>
        some r6
      else
        some false
def channel_behind (a0 : List Int) (a1 : Int) : Option (List Int) :=
  chk ((IntKind.i64.wrap ((a0.length : Int) + 1)) = (IntKind.i64.wrap ((a0.length : Int) + 1)) ∧ 0 ≤ (IntKind.i64.wrap ((a0.length : Int) + 1)) ∧ (IntKind.i64.wrap ((a0.length : Int) + 1)) ≤ 4294967296) <|
  letv (List.replicate (IntKind.i64.wrap ((a0.length : Int) + 1)).toNat 0) fun l1 =>
  chk (0 ≤ (a0.length : Int) ∧ (a0.length : Int) < ((a0.take l1.length ++ l1.drop a0.length).length : Int)) <|
  letv ((a0.take l1.length ++ l1.drop a0.length).set (a0.length : Int).toNat a1) fun l2 =>
  some l2
def channel_Send (a0 : (Int × Int × Int × Int × Unit) × Int × (List Int) × (Bool × (List Int) × Unit) × (List Int) × (Bool × (List Int) × Unit) × Unit) (a1 : Int) (a2 : Int) : Option (((Int × Int × Int × Int × Unit) × Int × (List Int) × (Bool × (List Int) × Unit) × (List Int) × (Bool × (List Int) × Unit) × Unit) × Int × Unit) :=
  Option.bind (channel_Fine a0) fun r1 =>
  bif !r1 then
    some (a0, 1, ())
  else
    Option.bind (word_Fine a2) fun r2 =>
    bif !r2 then
      some (a0, 8, ())
    else
      Option.bind (claims_Join a0.2.2.2.1 a1) fun r3 =>
      bif decide (r3.2.1 = 0) then
        Option.bind (channel_behind a0.2.2.2.2.1 a2) fun r4 =>
        some ((a0.1, a0.2.1, a0.2.2.1, r3.1, r4, a0.2.2.2.2.2.1, ()), r3.2.1, ())
      else
        some (a0, r3.2.1, ())
def channel_Recv (a0 : (Int × Int × Int × Int × Unit) × Int × (List Int) × (Bool × (List Int) × Unit) × (List Int) × (Bool × (List Int) × Unit) × Unit) (a1 : Int) : Option (((Int × Int × Int × Int × Unit) × Int × (List Int) × (Bool × (List Int) × Unit) × (List Int) × (Bool × (List Int) × Unit) × Unit) × Int × Unit) :=
  Option.bind (channel_Fine a0) fun r1 =>
  bif !r1 then
    some (a0, 1, ())
  else
    Option.bind (claims_Join a0.2.2.2.2.2.1 a1) fun r2 =>
    bif decide (r2.2.1 = 0) then
      some ((a0.1, a0.2.1, a0.2.2.1, a0.2.2.2.1, a0.2.2.2.2.1, r2.1, ()), r2.2.1, ())
    else
      some (a0, r2.2.1, ())
def channel_without (a0 : List Int) (a1 : Int) : Option (List Int) :=
  nilq (a0) fun b1 =>
  bif b1 then
    none
  else
    chk (([] : List Int).length + a0.length ≤ 4294967296) <|
    chk (0 ≤ a1 ∧ a1 < (IntKind.i64.wrap (a1 + 1)) ∧ (IntKind.i64.wrap (a1 + 1)) ≤ ((([] : List Int) ++ a0).length : Int)) <|
    letv ((([] : List Int) ++ a0).take a1.toNat ++ (([] : List Int) ++ a0).drop (IntKind.i64.wrap (a1 + 1)).toNat) fun v1 =>
    some v1
def channel_Leave (a0 : (Int × Int × Int × Int × Unit) × Int × (List Int) × (Bool × (List Int) × Unit) × (List Int) × (Bool × (List Int) × Unit) × Unit) (a1 : Int) : Option ((Int × Int × Int × Int × Unit) × Int × (List Int) × (Bool × (List Int) × Unit) × (List Int) × (Bool × (List Int) × Unit) × Unit) :=
  Option.bind (channel_Fine a0) fun r1 =>
  bif !r1 then
    some a0
  else
    Option.bind (claims_Ahead a0.2.2.2.1 a1) fun r2 =>
    bif r2.2.1 then
      Option.bind (channel_without a0.2.2.2.2.1 r2.1) fun r3 =>
      Option.bind (claims_Leave a0.2.2.2.1 a1) fun r4 =>
      Option.bind (claims_Leave a0.2.2.2.2.2.1 a1) fun r5 =>
      some (a0.1, a0.2.1, a0.2.2.1, r4.1, r3, r5.1, ())
    else
      Option.bind (claims_Leave a0.2.2.2.1 a1) fun r6 =>
      Option.bind (claims_Leave a0.2.2.2.2.2.1 a1) fun r7 =>
      some (a0.1, a0.2.1, a0.2.2.1, r6.1, a0.2.2.2.2.1, r7.1, ())
def channel_sent (a0 : (Int × Int × Int × Int × Unit) × Int × (List Int) × (Bool × (List Int) × Unit) × (List Int) × (Bool × (List Int) × Unit) × Unit) : Option (((Int × Int × Int × Int × Unit) × Int × (List Int) × (Bool × (List Int) × Unit) × (List Int) × (Bool × (List Int) × Unit) × Unit) × Int × Int × Unit) :=
  Option.bind (claims_Head a0.2.2.2.1) fun r1 =>
  chk (0 ≤ (0 : Int) ∧ (0 : Int) < (a0.2.2.2.2.1.length : Int)) <|
  Option.bind (claims_Leave a0.2.2.2.1 r1.1) fun r2 =>
  Option.bind (channel_without a0.2.2.2.2.1 0) fun r3 =>
  some ((a0.1, a0.2.1, a0.2.2.1, r2.1, r3, a0.2.2.2.2.2.1, ()), r1.1, a0.2.2.2.2.1.getD (0 : Int).toNat 0, ())
def channel_got (a0 : (Int × Int × Int × Int × Unit) × Int × (List Int) × (Bool × (List Int) × Unit) × (List Int) × (Bool × (List Int) × Unit) × Unit) : Option (((Int × Int × Int × Int × Unit) × Int × (List Int) × (Bool × (List Int) × Unit) × (List Int) × (Bool × (List Int) × Unit) × Unit) × Int × Unit) :=
  Option.bind (claims_Head a0.2.2.2.2.2.1) fun r1 =>
  Option.bind (claims_Leave a0.2.2.2.2.2.1 r1.1) fun r2 =>
  some ((a0.1, a0.2.1, a0.2.2.1, a0.2.2.2.1, a0.2.2.2.2.1, r2.1, ()), r1.1, ())
def channel_Do (a0 : (Int × Int × Int × Int × Unit) × Int × (List Int) × (Bool × (List Int) × Unit) × (List Int) × (Bool × (List Int) × Unit) × Unit) (a1 : Int) : Option (((Int × Int × Int × Int × Unit) × Int × (List Int) × (Bool × (List Int) × Unit) × (List Int) × (Bool × (List Int) × Unit) × Unit) × (Int × Int × Int × Unit) × Int × Unit) :=
  Option.bind (channel_Fine a0) fun r1 =>
  bif !r1 then
    some (a0, (0, 0, 0, ()), 1, ())
  else
    Option.bind (channel_may a0 a1) fun r2 =>
    bif !r2 then
      some (a0, (0, 0, 0, ()), 13, ())
    else
      bif !decide (a1 = 3) then
        Option.bind (channel_sent a0) fun r3 =>
        bif decide (a1 = 2) then
          Option.bind (channel_behind r3.1.2.2.1 r3.2.2.1) fun r4 =>
          some ((r3.1.1, r3.1.2.1, r4, r3.1.2.2.2.1, r3.1.2.2.2.2.1, r3.1.2.2.2.2.2.1, ()), (r3.2.1, (-1), r3.2.2.1, ()), 0, ())
        else
          bif decide (a1 = 3) then
            chk (0 ≤ (0 : Int) ∧ (0 : Int) < (r3.1.2.2.1.length : Int)) <|
            Option.bind (channel_without r3.1.2.2.1 0) fun r5 =>
            Option.bind (channel_got (r3.1.1, r3.1.2.1, r5, r3.1.2.2.2.1, r3.1.2.2.2.2.1, r3.1.2.2.2.2.2.1, ())) fun r6 =>
            some (r6.1, (r3.2.1, r6.2.1, r3.1.2.2.1.getD (0 : Int).toNat 0, ()), 0, ())
          else
            Option.bind (channel_got r3.1) fun r7 =>
            some (r7.1, (r3.2.1, r7.2.1, r3.2.2.1, ()), 0, ())
      else
        bif decide (a1 = 2) then
          Option.bind (channel_behind a0.2.2.1 0) fun r8 =>
          some ((a0.1, a0.2.1, r8, a0.2.2.2.1, a0.2.2.2.2.1, a0.2.2.2.2.2.1, ()), ((-1), (-1), 0, ()), 0, ())
        else
          bif decide (a1 = 3) then
            chk (0 ≤ (0 : Int) ∧ (0 : Int) < (a0.2.2.1.length : Int)) <|
            Option.bind (channel_without a0.2.2.1 0) fun r9 =>
            Option.bind (channel_got (a0.1, a0.2.1, r9, a0.2.2.2.1, a0.2.2.2.2.1, a0.2.2.2.2.2.1, ())) fun r10 =>
            some (r10.1, ((-1), r10.2.1, a0.2.2.1.getD (0 : Int).toNat 0, ()), 0, ())
          else
            Option.bind (channel_got a0) fun r11 =>
            some (r11.1, ((-1), r11.2.1, 0, ()), 0, ())
def channel_Poison (a0 : (Int × Int × Int × Int × Unit) × Int × (List Int) × (Bool × (List Int) × Unit) × (List Int) × (Bool × (List Int) × Unit) × Unit) (a1 : Int) : Option (((Int × Int × Int × Int × Unit) × Int × (List Int) × (Bool × (List Int) × Unit) × (List Int) × (Bool × (List Int) × Unit) × Unit) × Int × Unit) :=
  Option.bind (channel_Fine a0) fun r1 =>
  bif !r1 then
    some (a0, 1, ())
  else
    Option.bind (poison_Raise a0.2.1 a1) fun r2 =>
    bif decide (r2.2.1 = 0) then
      some ((a0.1, r2.1, a0.2.2.1, a0.2.2.2.1, a0.2.2.2.2.1, a0.2.2.2.2.2.1, ()), r2.2.1, ())
    else
      some (a0, r2.2.1, ())
end Go.Proofs.YtbkccpddkpclaaaV
