import Derived.Test.YtbkccpddkpclaaaVcG1
import Derived.Test.YtbkccpddkpclaaaDR02
import Derived.Test.YtbkccpddkpclaaaDR18
import Derived.Test.YtbkccpddkpclaaaDchannel
namespace Go.Proofs.YtbkccpddkpclaaaV
set_option linter.unusedVariables false
def L18_small (a0 : (Int × Int × Int × Int × Unit) × Int × (List Int) × (Bool × (List Int) × Unit) × (List Int) × (Bool × (List Int) × Unit) × Unit) : Option Bool :=
  bif decide ((a0.2.2.1.length : Int) ≤ 20) then
    bif decide ((a0.2.2.2.1.2.1.length : Int) ≤ 20) then
      bif decide ((a0.2.2.2.2.1.length : Int) ≤ 20) then
        letv (decide ((a0.2.2.2.2.2.1.2.1.length : Int) ≤ 20)) fun v1 =>
        some v1
      else
        some false
    else
      some false
  else
    some false
def L18_alive : Option Bool :=
  Option.bind (channel_New (0, 0, 4, 4, ())) fun r1 =>
  Option.bind (channel_Send r1.1 3 7) fun r2 =>
  Option.bind (channel_Recv r2.1 5) fun r3 =>
  Option.bind (channel_Recv r3.1 6) fun r4 =>
  Option.bind (channel_Do r3.1 1) fun r5 =>
  Option.bind (channel_Poison r3.1 5) fun r6 =>
  bif decide (r1.2.1 = 0) then
    bif decide (r2.2.1 = 0) then
      bif decide (r3.2.1 = 0) then
        bif decide (r4.2.1 = 15) then
          bif decide (r5.2.2.1 = 0) then
            bif (decide (r5.2.1.1 = 3)) && ((decide (r5.2.1.2.1 = 5)) && ((decide (r5.2.1.2.2.1 = 7)) && true)) then
              bif decide ((IntKind.i64.wrap ((IntKind.i64.wrap ((r5.1.2.2.2.1.2.1.length : Int) + (r5.1.2.2.2.2.2.1.2.1.length : Int))) + (r5.1.2.2.2.2.1.length : Int))) = 0) then
                bif decide (r6.2.1 = 0) then
                  Option.bind (channel_Hit r6.1 3) fun r7 =>
                  bif r7 then
                    Option.bind (channel_Hit r6.1 5) fun r8 =>
                    bif r8 then
                      Option.bind (channel_Hit r6.1 6) fun r9 =>
                      bif !r9 then
                        Option.bind (channel_What r6.1) fun r10 =>
                        bif decide ((r10.length : Int) = 0) then
                          Option.bind (channel_What r3.1) fun r11 =>
                          bif decide ((r11.length : Int) = 1) then
                            Option.bind (channel_Fine r3.1) fun r12 =>
                            bif r12 then
                              Option.bind (channel_Check (4, 0, 0, 0, ())) fun r13 =>
                              some (decide (r13 = 12))
                            else
                              some false
                          else
                            some false
                        else
                          some false
                      else
                        some false
                    else
                      some false
                  else
                    some false
                else
                  some false
              else
                some false
            else
              some false
          else
            some false
        else
          some false
      else
        some false
    else
      some false
  else
    some false
def L18_To (a0 : (Int × Int × Int × Int × Unit) × Int × (List Int) × (Bool × (List Int) × Unit) × (List Int) × (Bool × (List Int) × Unit) × Unit) : Option ((Int × Int × Int × Int × Unit) × Int × (List Int) × (Bool × (List Int) × Unit) × (List Int) × (Bool × (List Int) × Unit) × Unit) :=
  some a0
def L18_Same (a0 : (Int × Int × Int × Int × Unit) × Int × (List Int) × (Bool × (List Int) × Unit) × (List Int) × (Bool × (List Int) × Unit) × Unit) (a1 : (Int × Int × Int × Int × Unit) × Int × (List Int) × (Bool × (List Int) × Unit) × (List Int) × (Bool × (List Int) × Unit) × Unit) : Option Bool :=
  bif (decide (a0.1.1 = a1.1.1)) && ((decide (a0.1.2.1 = a1.1.2.1)) && ((decide (a0.1.2.2.1 = a1.1.2.2.1)) && ((decide (a0.1.2.2.2.1 = a1.1.2.2.2.1)) && true))) then
    bif decide (a0.2.1 = a1.2.1) then
      Option.bind (R02_Same a0.2.2.1 a1.2.2.1) fun r1 =>
      bif r1 then
        bif a0.2.2.2.1.1 == a1.2.2.2.1.1 then
          Option.bind (R02_Same a0.2.2.2.1.2.1 a1.2.2.2.1.2.1) fun r2 =>
          bif r2 then
            Option.bind (R02_Same a0.2.2.2.2.1 a1.2.2.2.2.1) fun r3 =>
            bif r3 then
              bif a0.2.2.2.2.2.1.1 == a1.2.2.2.2.2.1.1 then
                Option.bind (R02_Same a0.2.2.2.2.2.1.2.1 a1.2.2.2.2.2.1.2.1) fun r4 =>
                some r4
              else
                some false
            else
              some false
          else
            some false
        else
          some false
      else
        some false
    else
      some false
  else
    some false
def L18_From (a0 : (Int × Int × Int × Int × Unit) × Int × (List Int) × (Bool × (List Int) × Unit) × (List Int) × (Bool × (List Int) × Unit) × Unit) : Option ((Int × Int × Int × Int × Unit) × Int × (List Int) × (Bool × (List Int) × Unit) × (List Int) × (Bool × (List Int) × Unit) × Unit) :=
  some a0
def L18_ChannelActs_J1 : Option Bool :=
  Option.bind (L18_alive) fun r16 =>
  some r16
def L18_ChannelActs_L1 (r3 : (Int × Int × Int × Int × Unit) × Int × (List Int) × (Bool × (List Int) × Unit) × (List Int) × (Bool × (List Int) × Unit) × Unit) (a0 : (Int × Int × Int × Int × Unit) × Int × (List Int) × (Bool × (List Int) × Unit) × (List Int) × (Bool × (List Int) × Unit) × Unit) (k1 : Int → Option Bool) (x1 : Int) : Option Bool :=
  bif decide (x1 < 5) then
    Option.bind (channel_Do r3 x1) fun r17 =>
    Option.bind (R18_Do a0 x1) fun r18 =>
    Option.bind (L18_From r17.1) fun r19 =>
    Option.bind (L18_Same r19 r18.1) fun r20 =>
    bif !r20 then
      some false
    else
      bif !((decide (r17.2.1.1 = r18.2.1.1)) && ((decide (r17.2.1.2.1 = r18.2.1.2.1)) && ((decide (r17.2.1.2.2.1 = r18.2.1.2.2.1)) && true))) then
        some false
      else
        bif !decide (r17.2.2.1 = r18.2.2.1) then
          some false
        else
          k1 (IntKind.i64.wrap (x1 + 1))
  else
    L18_ChannelActs_J1
def L18_ChannelActs (a0 : (Int × Int × Int × Int × Unit) × Int × (List Int) × (Bool × (List Int) × Unit) × (List Int) × (Bool × (List Int) × Unit) × Unit) (a1 : Int) (a2 : Int) : Option Bool :=
  Option.bind (L18_small a0) fun r1 =>
  bif !r1 then
    Option.bind (L18_alive) fun r2 =>
    some r2
  else
    Option.bind (L18_To a0) fun r3 =>
    Option.bind (channel_Send r3 a1 a2) fun r4 =>
    Option.bind (R18_Send a0 a1 a2) fun r5 =>
    Option.bind (channel_Recv r3 a1) fun r6 =>
    Option.bind (R18_Recv a0 a1) fun r7 =>
    Option.bind (channel_Poison r3 a2) fun r8 =>
    Option.bind (R18_Poison a0 a2) fun r9 =>
    Option.bind (L18_From r4.1) fun r10 =>
    Option.bind (L18_Same r10 r5.1) fun r11 =>
    bif !r11 then
      some false
    else
      bif !decide (r4.2.1 = r5.2.1) then
        some false
      else
        Option.bind (L18_From r6.1) fun r12 =>
        Option.bind (L18_Same r12 r7.1) fun r13 =>
        bif !r13 then
          some false
        else
          bif !decide (r6.2.1 = r7.2.1) then
            some false
          else
            Option.bind (L18_From r8.1) fun r14 =>
            Option.bind (L18_Same r14 r9.1) fun r15 =>
            bif !r15 then
              some false
            else
              bif !decide (r8.2.1 = r9.2.1) then
                some false
              else
                loop (L18_ChannelActs_L1 r3 a0) 0
def L18_ChannelTells (a0 : (Int × Int × Int × Int × Unit) × Int × (List Int) × (Bool × (List Int) × Unit) × (List Int) × (Bool × (List Int) × Unit) × Unit) (a1 : Int) : Option Bool :=
  Option.bind (L18_small a0) fun r1 =>
  bif !r1 then
    Option.bind (L18_alive) fun r2 =>
    some r2
  else
    Option.bind (L18_To a0) fun r3 =>
    Option.bind (channel_New a0.1) fun r4 =>
    Option.bind (R18_New a0.1) fun r5 =>
    Option.bind (channel_Check a0.1) fun r6 =>
    Option.bind (R18_Check a0.1) fun r7 =>
    bif decide (r6 = r7) then
      Option.bind (L18_From r4.1) fun r8 =>
      Option.bind (L18_Same r8 r5.1) fun r9 =>
      bif r9 then
        bif decide (r4.2.1 = r5.2.1) then
          Option.bind (channel_Fine r3) fun r10 =>
          Option.bind (R18_Fine a0) fun r11 =>
          bif r10 == r11 then
            Option.bind (channel_Hit r3 a1) fun r12 =>
            Option.bind (R18_Hit a0 a1) fun r13 =>
            bif r12 == r13 then
              Option.bind (channel_What r3) fun r14 =>
              Option.bind (R18_What a0) fun r15 =>
              Option.bind (R02_Same r14 r15) fun r16 =>
              bif r16 then
                Option.bind (channel_Leave r3 a1) fun r17 =>
                Option.bind (L18_From r17) fun r18 =>
                Option.bind (R18_Leave a0 a1) fun r19 =>
                Option.bind (L18_Same r18 r19) fun r20 =>
                bif r20 then
                  Option.bind (L18_alive) fun r21 =>
                  some r21
                else
                  some false
              else
                some false
            else
              some false
          else
            some false
        else
          some false
      else
        some false
    else
      some false
end Go.Proofs.YtbkccpddkpclaaaV
