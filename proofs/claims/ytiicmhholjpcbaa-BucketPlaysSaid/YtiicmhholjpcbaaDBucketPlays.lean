import Derived.Test.YtiicmhholjpcbaaVcMt
import Derived.Test.YtiicmhholjpcbaaDL24
import Derived.Test.YtiicmhholjpcbaaDR02
import Derived.Test.YtiicmhholjpcbaaDR24
import Derived.Test.YtiicmhholjpcbaaDqueue
import Derived.Test.YtiicmhholjpcbaaDslices
namespace Go.Proofs.YtiicmhholjpcbaaV
set_option linter.unusedVariables false
def L24_BucketPlays_J1 : Option Bool :=
  Option.bind (L24_alive) fun r11 =>
  some r11
def L24_BucketPlays_J2 (k2 : (Int × List (List Int) × (List (Bool × Int × Int × Unit)) × Int × Int × Int × Bool × Bool × Int × Int × Int × (List (Int × Int × Unit)) × Int × Int × Int × (List (Int × Int × Int × Unit))) → Option Bool) (p6 : Int) (p7 : List (List Int)) (p8 : List (Bool × Int × Int × Unit)) (p9 : Int) (p10 : Int) (p20 : Bool) (p21 : Int) (p22 : Int) (p23 : Int) (p24 : List (Int × Int × Unit)) (p25 : Int) (p26 : Int) (p27 : Int) (p28 : List (Int × Int × Int × Unit)) : Option Bool :=
  k2 (p6, p7, p8, p9, p10, 0, false, p20, p21, p22, p23, p24, p25, p26, p27, p28)
def L24_BucketPlays_C1 (x3 : Int × Int × Int × Bool × Int × Int × Int × (List (Int × Int × Unit)) × Int × Int × Int × (List (Int × Int × Int × Unit))) (k4 : (Int × Int × Int × Int × Bool × Bool × Int × Int × Int × (List (Int × Int × Unit)) × Int × Int × Int × (List (Int × Int × Int × Unit))) → Option Bool) : Option Bool :=
  bif decide (x3.2.2.1 ≥ 0) then
    bif !(decide (x3.2.2.1 < x3.2.2.2.2.2.2.1)) then
      Option.bind (slices_Contains_int_int [] x3.1) fun r12 =>
      k4 (x3.1, x3.2.2.1, x3.2.1, x3.2.2.1, r12, x3.2.2.2.1, x3.2.2.2.2.1, x3.2.2.2.2.2.1, x3.2.2.2.2.2.2.1, x3.2.2.2.2.2.2.2.1, x3.2.2.2.2.2.2.2.2.1, x3.2.2.2.2.2.2.2.2.2.1, x3.2.2.2.2.2.2.2.2.2.2.1, x3.2.2.2.2.2.2.2.2.2.2.2)
    else
      Option.bind (queue_Pool_List (x3.2.2.2.2.2.2.2.1, x3.2.2.2.2.2.2.2.2.2.2.2, (x3.2.2.2.2.2.2.2.2.1, x3.2.2.2.2.2.2.2.2.2.1, x3.2.2.2.2.2.2.2.2.2.2.1, ()), ()) x3.2.2.1) fun r13 =>
      Option.bind (slices_Contains_int_int r13.2.1 x3.1) fun r14 =>
      k4 (x3.1, x3.2.2.1, x3.2.1, x3.2.2.1, r14, x3.2.2.2.1, x3.2.2.2.2.1, x3.2.2.2.2.2.1, x3.2.2.2.2.2.2.1, r13.1.1, r13.1.2.2.1.1, r13.1.2.2.1.2.1, r13.1.2.2.1.2.2.1, r13.1.2.1)
  else
    Option.bind (slices_Contains_int_int [] x3.1) fun r15 =>
    k4 (x3.1, x3.2.2.1, x3.2.1, x3.2.2.1, r15, x3.2.2.2.1, x3.2.2.2.2.1, x3.2.2.2.2.2.1, x3.2.2.2.2.2.2.1, x3.2.2.2.2.2.2.2.1, x3.2.2.2.2.2.2.2.2.1, x3.2.2.2.2.2.2.2.2.2.1, x3.2.2.2.2.2.2.2.2.2.2.1, x3.2.2.2.2.2.2.2.2.2.2.2)
def L24_BucketPlays_R1 (k2 : (Int × List (List Int) × (List (Bool × Int × Int × Unit)) × Int × Int × Int × Bool × Bool × Int × Int × Int × (List (Int × Int × Unit)) × Int × Int × Int × (List (Int × Int × Int × Unit))) → Option Bool) (p6 : Int) (p7 : List (List Int)) (p8 : List (Bool × Int × Int × Unit)) (p9 : Int) (p10 : Int) (k3 : (Int × Int × Int × Bool × Int × Int × Int × (List (Int × Int × Unit)) × Int × Int × Int × (List (Int × Int × Int × Unit))) → Option Bool) (x4 : Int × Int × Int × Int × Bool × Bool × Int × Int × Int × (List (Int × Int × Unit)) × Int × Int × Int × (List (Int × Int × Int × Unit))) : Option Bool :=
  bif x4.2.2.2.2.1 then
    k2 (p6, p7, p8, p9, p10, x4.2.1, true, x4.2.2.2.2.2.1, x4.2.2.2.2.2.2.1, x4.2.2.2.2.2.2.2.1, x4.2.2.2.2.2.2.2.2.1, x4.2.2.2.2.2.2.2.2.2.1, x4.2.2.2.2.2.2.2.2.2.2.1, x4.2.2.2.2.2.2.2.2.2.2.2.1, x4.2.2.2.2.2.2.2.2.2.2.2.2.1, x4.2.2.2.2.2.2.2.2.2.2.2.2.2)
  else
    k3 (x4.1, x4.2.2.1, IntKind.i64.wrap (x4.2.2.2.1 + 1), x4.2.2.2.2.2.1, x4.2.2.2.2.2.2.1, x4.2.2.2.2.2.2.2.1, x4.2.2.2.2.2.2.2.2.1, x4.2.2.2.2.2.2.2.2.2.1, x4.2.2.2.2.2.2.2.2.2.2.1, x4.2.2.2.2.2.2.2.2.2.2.2.1, x4.2.2.2.2.2.2.2.2.2.2.2.2.1, x4.2.2.2.2.2.2.2.2.2.2.2.2.2)
def L24_BucketPlays_L1 (k2 : (Int × List (List Int) × (List (Bool × Int × Int × Unit)) × Int × Int × Int × Bool × Bool × Int × Int × Int × (List (Int × Int × Unit)) × Int × Int × Int × (List (Int × Int × Int × Unit))) → Option Bool) (p6 : Int) (p7 : List (List Int)) (p8 : List (Bool × Int × Int × Unit)) (p9 : Int) (p10 : Int) (k3 : (Int × Int × Int × Bool × Int × Int × Int × (List (Int × Int × Unit)) × Int × Int × Int × (List (Int × Int × Int × Unit))) → Option Bool) (x3 : Int × Int × Int × Bool × Int × Int × Int × (List (Int × Int × Unit)) × Int × Int × Int × (List (Int × Int × Int × Unit))) : Option Bool :=
  bif decide (x3.2.2.1 < x3.2.1) then
    cutv 1 (L24_BucketPlays_C1 x3) (L24_BucketPlays_R1 k2 p6 p7 p8 p9 p10 k3)
  else
    L24_BucketPlays_J2 k2 p6 p7 p8 p9 p10 x3.2.2.2.1 x3.2.2.2.2.1 x3.2.2.2.2.2.1 x3.2.2.2.2.2.2.1 x3.2.2.2.2.2.2.2.1 x3.2.2.2.2.2.2.2.2.1 x3.2.2.2.2.2.2.2.2.2.1 x3.2.2.2.2.2.2.2.2.2.2.1 x3.2.2.2.2.2.2.2.2.2.2.2
def L24_BucketPlays_C2 (p6 : Int) (p7 : List (List Int)) (p8 : List (Bool × Int × Int × Unit)) (p9 : Int) (p10 : Int) (p13 : Int) (p14 : Int) (p11 : Bool) (p12 : Int) (p15 : List (Int × Int × Unit)) (p16 : Int) (p17 : Int) (p18 : Int) (p19 : List (Int × Int × Int × Unit)) (k2 : (Int × List (List Int) × (List (Bool × Int × Int × Unit)) × Int × Int × Int × Bool × Bool × Int × Int × Int × (List (Int × Int × Unit)) × Int × Int × Int × (List (Int × Int × Int × Unit))) → Option Bool) : Option Bool :=
  loop (L24_BucketPlays_L1 k2 p6 p7 p8 p9 p10) (p13, p14, 0, p11, p12, p13, p14, p15, p16, p17, p18, p19)
def L24_BucketPlays_C3 (x2 : Int × List (List Int) × (List (Bool × Int × Int × Unit)) × Int × Int × Int × Bool × Bool × Int × Int × Int × (List (Int × Int × Unit)) × Int × Int × Int × (List (Int × Int × Int × Unit))) (r16 : Int × Bool × Unit) (k5 : (Int × List (List Int) × (List (Bool × Int × Int × Unit)) × Int × Int × Bool × Int × (List (Int × Int × Unit)) × Int × Int × Int × (List (Int × Int × Int × Unit))) → Option Bool) : Option Bool :=
  bif !decide (x2.2.2.2.2.2.1 = r16.1) then
    k5 (x2.1, x2.2.1, x2.2.2.1, x2.2.2.2.1, x2.2.2.2.2.1, true, x2.2.2.2.2.2.2.2.2.2.2.1, x2.2.2.2.2.2.2.2.2.2.2.2.1, x2.2.2.2.2.2.2.2.2.2.2.2.2.1, x2.2.2.2.2.2.2.2.2.2.2.2.2.2.1, x2.2.2.2.2.2.2.2.2.2.2.2.2.2.2.1, x2.2.2.2.2.2.2.2.2.2.2.2.2.2.2.2)
  else
    bif !(x2.2.2.2.2.2.2.1 == r16.2.1) then
      k5 (x2.1, x2.2.1, x2.2.2.1, x2.2.2.2.1, x2.2.2.2.2.1, true, x2.2.2.2.2.2.2.2.2.2.2.1, x2.2.2.2.2.2.2.2.2.2.2.2.1, x2.2.2.2.2.2.2.2.2.2.2.2.2.1, x2.2.2.2.2.2.2.2.2.2.2.2.2.2.1, x2.2.2.2.2.2.2.2.2.2.2.2.2.2.2.1, x2.2.2.2.2.2.2.2.2.2.2.2.2.2.2.2)
    else
      bif decide (x2.2.2.2.2.2.2.2.2.1 ≥ 0) then
        letv (decide (x2.2.2.2.2.2.2.2.2.1 < x2.2.2.2.2.2.2.2.2.2.2.1)) fun v1 =>
        bif !v1 then
          Option.bind (R24_List x2.2.1 x2.2.2.2.2.2.2.2.2.1) fun r17 =>
          Option.bind (R02_Same [] r17) fun r18 =>
          bif !r18 then
            k5 (x2.1, x2.2.1, x2.2.2.1, x2.2.2.2.1, x2.2.2.2.2.1, true, x2.2.2.2.2.2.2.2.2.2.2.1, x2.2.2.2.2.2.2.2.2.2.2.2.1, x2.2.2.2.2.2.2.2.2.2.2.2.2.1, x2.2.2.2.2.2.2.2.2.2.2.2.2.2.1, x2.2.2.2.2.2.2.2.2.2.2.2.2.2.2.1, x2.2.2.2.2.2.2.2.2.2.2.2.2.2.2.2)
          else
            k5 (x2.1, x2.2.1, x2.2.2.1, x2.2.2.2.1, x2.2.2.2.2.1, !decide (x2.2.2.2.2.2.2.2.2.2.2.1 = x2.1), x2.2.2.2.2.2.2.2.2.2.2.1, x2.2.2.2.2.2.2.2.2.2.2.2.1, x2.2.2.2.2.2.2.2.2.2.2.2.2.1, x2.2.2.2.2.2.2.2.2.2.2.2.2.2.1, x2.2.2.2.2.2.2.2.2.2.2.2.2.2.2.1, x2.2.2.2.2.2.2.2.2.2.2.2.2.2.2.2)
        else
          Option.bind (queue_Pool_List (x2.2.2.2.2.2.2.2.2.2.2.2.1, x2.2.2.2.2.2.2.2.2.2.2.2.2.2.2.2, (x2.2.2.2.2.2.2.2.2.2.2.2.2.1, x2.2.2.2.2.2.2.2.2.2.2.2.2.2.1, x2.2.2.2.2.2.2.2.2.2.2.2.2.2.2.1, ()), ()) x2.2.2.2.2.2.2.2.2.1) fun r19 =>
          Option.bind (R24_List x2.2.1 x2.2.2.2.2.2.2.2.2.1) fun r20 =>
          Option.bind (R02_Same r19.2.1 r20) fun r21 =>
          bif !r21 then
            k5 (x2.1, x2.2.1, x2.2.2.1, x2.2.2.2.1, x2.2.2.2.2.1, true, x2.2.2.2.2.2.2.2.2.2.2.1, r19.1.1, r19.1.2.2.1.1, r19.1.2.2.1.2.1, r19.1.2.2.1.2.2.1, r19.1.2.1)
          else
            k5 (x2.1, x2.2.1, x2.2.2.1, x2.2.2.2.1, x2.2.2.2.2.1, !decide (x2.2.2.2.2.2.2.2.2.2.2.1 = x2.1), x2.2.2.2.2.2.2.2.2.2.2.1, r19.1.1, r19.1.2.2.1.1, r19.1.2.2.1.2.1, r19.1.2.2.1.2.2.1, r19.1.2.1)
      else
        Option.bind (R24_List x2.2.1 x2.2.2.2.2.2.2.2.2.1) fun r22 =>
        Option.bind (R02_Same [] r22) fun r23 =>
        bif !r23 then
          k5 (x2.1, x2.2.1, x2.2.2.1, x2.2.2.2.1, x2.2.2.2.2.1, true, x2.2.2.2.2.2.2.2.2.2.2.1, x2.2.2.2.2.2.2.2.2.2.2.2.1, x2.2.2.2.2.2.2.2.2.2.2.2.2.1, x2.2.2.2.2.2.2.2.2.2.2.2.2.2.1, x2.2.2.2.2.2.2.2.2.2.2.2.2.2.2.1, x2.2.2.2.2.2.2.2.2.2.2.2.2.2.2.2)
        else
          k5 (x2.1, x2.2.1, x2.2.2.1, x2.2.2.2.1, x2.2.2.2.2.1, !decide (x2.2.2.2.2.2.2.2.2.2.2.1 = x2.1), x2.2.2.2.2.2.2.2.2.2.2.1, x2.2.2.2.2.2.2.2.2.2.2.2.1, x2.2.2.2.2.2.2.2.2.2.2.2.2.1, x2.2.2.2.2.2.2.2.2.2.2.2.2.2.1, x2.2.2.2.2.2.2.2.2.2.2.2.2.2.2.1, x2.2.2.2.2.2.2.2.2.2.2.2.2.2.2.2)
def L24_BucketPlays_R3 (k1 : (Int × List (List Int) × (List (Bool × Int × Int × Unit)) × Int × Int × Int × (List (Int × Int × Unit)) × Int × Int × Int × (List (Int × Int × Int × Unit))) → Option Bool) (x5 : Int × List (List Int) × (List (Bool × Int × Int × Unit)) × Int × Int × Bool × Int × (List (Int × Int × Unit)) × Int × Int × Int × (List (Int × Int × Int × Unit))) : Option Bool :=
  bif x5.2.2.2.2.2.1 then
    some false
  else
    k1 (x5.1, x5.2.1, x5.2.2.1, x5.2.2.2.1, IntKind.i64.wrap (x5.2.2.2.2.1 + 1), x5.2.2.2.2.2.2.1, x5.2.2.2.2.2.2.2.1, x5.2.2.2.2.2.2.2.2.1, x5.2.2.2.2.2.2.2.2.2.1, x5.2.2.2.2.2.2.2.2.2.2.1, x5.2.2.2.2.2.2.2.2.2.2.2)
def L24_BucketPlays_R2 (k1 : (Int × List (List Int) × (List (Bool × Int × Int × Unit)) × Int × Int × Int × (List (Int × Int × Unit)) × Int × Int × Int × (List (Int × Int × Int × Unit))) → Option Bool) (x2 : Int × List (List Int) × (List (Bool × Int × Int × Unit)) × Int × Int × Int × Bool × Bool × Int × Int × Int × (List (Int × Int × Unit)) × Int × Int × Int × (List (Int × Int × Int × Unit))) : Option Bool :=
  Option.bind (R24_Where x2.2.1 x2.2.2.2.2.2.2.2.2.2.1) fun r16 =>
  cutv 3 (L24_BucketPlays_C3 x2 r16) (L24_BucketPlays_R3 k1)
def L24_BucketPlays_J3 (k1 : (Int × List (List Int) × (List (Bool × Int × Int × Unit)) × Int × Int × Int × (List (Int × Int × Unit)) × Int × Int × Int × (List (Int × Int × Int × Unit))) → Option Bool) (p6 : Int) (p7 : List (List Int)) (p8 : List (Bool × Int × Int × Unit)) (p9 : Int) (p10 : Int) (p11 : Bool) (p12 : Int) (p13 : Int) (p14 : Int) (p15 : List (Int × Int × Unit)) (p16 : Int) (p17 : Int) (p18 : Int) (p19 : List (Int × Int × Int × Unit)) : Option Bool :=
  cutv 2 (L24_BucketPlays_C2 p6 p7 p8 p9 p10 p13 p14 p11 p12 p15 p16 p17 p18 p19) (L24_BucketPlays_R2 k1)
def L24_BucketPlays_J4 (x1 : Int × List (List Int) × (List (Bool × Int × Int × Unit)) × Int × Int × Int × (List (Int × Int × Unit)) × Int × Int × Int × (List (Int × Int × Int × Unit))) (k1 : (Int × List (List Int) × (List (Bool × Int × Int × Unit)) × Int × Int × Int × (List (Int × Int × Unit)) × Int × Int × Int × (List (Int × Int × Int × Unit))) → Option Bool) (p29 : Bool) (p30 : Int) (p31 : Int) : Option Bool :=
  Option.bind (R24_Flush x1.2.1 p30) fun r26 =>
  Option.bind (R02_Same [] r26.2.1) fun r27 =>
  bif !r27 then
    some false
  else
    bif !decide (0 = r26.2.2.1) then
      some false
    else
      L24_BucketPlays_J3 k1 x1.1 r26.1 x1.2.2.1 x1.2.2.2.1 x1.2.2.2.2.1 p29 p30 p31 x1.2.2.2.2.2.1 x1.2.2.2.2.2.2.1 x1.2.2.2.2.2.2.2.1 x1.2.2.2.2.2.2.2.2.1 x1.2.2.2.2.2.2.2.2.2.1 x1.2.2.2.2.2.2.2.2.2.2
def L24_BucketPlays_L2 (x1 : Int × List (List Int) × (List (Bool × Int × Int × Unit)) × Int × Int × Int × (List (Int × Int × Unit)) × Int × Int × Int × (List (Int × Int × Int × Unit))) (k1 : (Int × List (List Int) × (List (Bool × Int × Int × Unit)) × Int × Int × Int × (List (Int × Int × Unit)) × Int × Int × Int × (List (Int × Int × Int × Unit))) → Option Bool) (p33 : Bool) (p32 : Int) (p34 : Int) (k6 : Unit → Option Bool) (x6 : Unit) : Option Bool :=
  L24_BucketPlays_J4 x1 k1 p33 p32 p34
def L24_BucketPlays_J5 (x1 : Int × List (List Int) × (List (Bool × Int × Int × Unit)) × Int × Int × Int × (List (Int × Int × Unit)) × Int × Int × Int × (List (Int × Int × Int × Unit))) (r28 : ((List (Int × Int × Unit)) × (List (Int × Int × Int × Unit)) × (Int × Int × Int × Unit) × Unit) × ((List Int) × Unit)) (k1 : (Int × List (List Int) × (List (Bool × Int × Int × Unit)) × Int × Int × Int × (List (Int × Int × Unit)) × Int × Int × Int × (List (Int × Int × Int × Unit))) → Option Bool) (p35 : Bool) (p36 : Int) (p37 : Int) (p38 : List (Int × Int × Unit)) (p39 : Int) (p40 : Int) (p41 : Int) (p42 : List (Int × Int × Int × Unit)) : Option Bool :=
  Option.bind (R24_Flush x1.2.1 p36) fun r29 =>
  Option.bind (R02_Same r28.2.1 r29.2.1) fun r30 =>
  bif !r30 then
    some false
  else
    bif !decide (0 = r29.2.2.1) then
      some false
    else
      L24_BucketPlays_J3 k1 x1.1 r29.1 x1.2.2.1 x1.2.2.2.1 x1.2.2.2.2.1 p35 p36 p37 x1.2.2.2.2.2.1 p38 p39 p40 p41 p42
def L24_BucketPlays_L3 (p44 : Int) (p43 : Int) (x1 : Int × List (List Int) × (List (Bool × Int × Int × Unit)) × Int × Int × Int × (List (Int × Int × Unit)) × Int × Int × Int × (List (Int × Int × Int × Unit))) (k1 : (Int × List (List Int) × (List (Bool × Int × Int × Unit)) × Int × Int × Int × (List (Int × Int × Unit)) × Int × Int × Int × (List (Int × Int × Int × Unit))) → Option Bool) (p45 : Bool) (p46 : Int) (r28 : ((List (Int × Int × Unit)) × (List (Int × Int × Int × Unit)) × (Int × Int × Int × Unit) × Unit) × ((List Int) × Unit)) (k7 : (Int × (List (Int × Int × Unit)) × Int × Int × Int × (List (Int × Int × Int × Unit))) → Option Bool) (x7 : Int × (List (Int × Int × Unit)) × Int × Int × Int × (List (Int × Int × Int × Unit))) : Option Bool :=
  bif decide (x7.1 < p44) then
    Option.bind (queue_Pool_Pop (x7.2.1, x7.2.2.2.2.2, (x7.2.2.1, x7.2.2.2.1, x7.2.2.2.2.1, ()), ()) p43) fun r31 =>
    bif !decide (r31.2.2.1 = 0) then
      Option.bind (R24_Flush x1.2.1 p43) fun r32 =>
      Option.bind (R02_Same [] r32.2.1) fun r33 =>
      bif !r33 then
        some false
      else
        bif !decide (r31.2.2.1 = r32.2.2.1) then
          some false
        else
          L24_BucketPlays_J3 k1 x1.1 r32.1 x1.2.2.1 x1.2.2.2.1 x1.2.2.2.2.1 p45 p43 p46 x1.2.2.2.2.2.1 r31.1.1 r31.1.2.2.1.1 r31.1.2.2.1.2.1 r31.1.2.2.1.2.2.1 r31.1.2.1
    else
      k7 (IntKind.i64.wrap (x7.1 + 1), r31.1.1, r31.1.2.2.1.1, r31.1.2.2.1.2.1, r31.1.2.2.1.2.2.1, r31.1.2.1)
  else
    L24_BucketPlays_J5 x1 r28 k1 p45 p43 p46 x7.2.1 x7.2.2.1 x7.2.2.2.1 x7.2.2.2.2.1 x7.2.2.2.2.2
def L24_BucketPlays_J6 (x1 : Int × List (List Int) × (List (Bool × Int × Int × Unit)) × Int × Int × Int × (List (Int × Int × Unit)) × Int × Int × Int × (List (Int × Int × Int × Unit))) (k1 : (Int × List (List Int) × (List (Bool × Int × Int × Unit)) × Int × Int × Int × (List (Int × Int × Unit)) × Int × Int × Int × (List (Int × Int × Int × Unit))) → Option Bool) (p47 : Bool) (p48 : Int) (p49 : Int) : Option Bool :=
  Option.bind (R24_Flush x1.2.1 p48) fun r34 =>
  Option.bind (R02_Same [] r34.2.1) fun r35 =>
  bif !r35 then
    some false
  else
    bif !decide (0 = r34.2.2.1) then
      some false
    else
      L24_BucketPlays_J3 k1 x1.1 r34.1 x1.2.2.1 x1.2.2.2.1 x1.2.2.2.2.1 p47 p48 p49 x1.2.2.2.2.2.1 x1.2.2.2.2.2.2.1 x1.2.2.2.2.2.2.2.1 x1.2.2.2.2.2.2.2.2.1 x1.2.2.2.2.2.2.2.2.2.1 x1.2.2.2.2.2.2.2.2.2.2
def L24_BucketPlays_L4 (x1 : Int × List (List Int) × (List (Bool × Int × Int × Unit)) × Int × Int × Int × (List (Int × Int × Unit)) × Int × Int × Int × (List (Int × Int × Int × Unit))) (k1 : (Int × List (List Int) × (List (Bool × Int × Int × Unit)) × Int × Int × Int × (List (Int × Int × Unit)) × Int × Int × Int × (List (Int × Int × Int × Unit))) → Option Bool) (p51 : Bool) (p50 : Int) (p52 : Int) (k8 : Unit → Option Bool) (x8 : Unit) : Option Bool :=
  L24_BucketPlays_J6 x1 k1 p51 p50 p52
def L24_BucketPlays_C4 (x1 : Int × List (List Int) × (List (Bool × Int × Int × Unit)) × Int × Int × Int × (List (Int × Int × Unit)) × Int × Int × Int × (List (Int × Int × Int × Unit))) (k10 : (Int × Int × Bool × Bool × Int × Int × Int × (List (Int × Int × Unit)) × Int × Int × Int × (List (Int × Int × Int × Unit))) → Option Bool) : Option Bool :=
  bif decide ((x1.2.2.1.getD x1.2.2.2.2.1.toNat (false, 0, 0, ())).2.1 ≥ 0) then
    letv (decide ((x1.2.2.1.getD x1.2.2.2.2.1.toNat (false, 0, 0, ())).2.1 < x1.2.2.2.2.2.1)) fun v4 =>
    bif !v4 then
      k10 ((x1.2.2.1.getD x1.2.2.2.2.1.toNat (false, 0, 0, ())).2.1, (x1.2.2.1.getD x1.2.2.2.2.1.toNat (false, 0, 0, ())).2.2.1, true, (x1.2.2.1.getD x1.2.2.2.2.1.toNat (false, 0, 0, ())).1, (x1.2.2.1.getD x1.2.2.2.2.1.toNat (false, 0, 0, ())).2.1, (x1.2.2.1.getD x1.2.2.2.2.1.toNat (false, 0, 0, ())).2.2.1, x1.2.2.2.2.2.1, x1.2.2.2.2.2.2.1, x1.2.2.2.2.2.2.2.1, x1.2.2.2.2.2.2.2.2.1, x1.2.2.2.2.2.2.2.2.2.1, x1.2.2.2.2.2.2.2.2.2.2)
    else
      bif decide ((x1.2.2.1.getD x1.2.2.2.2.1.toNat (false, 0, 0, ())).2.2.1 < 0) then
        k10 ((x1.2.2.1.getD x1.2.2.2.2.1.toNat (false, 0, 0, ())).2.1, (x1.2.2.1.getD x1.2.2.2.2.1.toNat (false, 0, 0, ())).2.2.1, true, (x1.2.2.1.getD x1.2.2.2.2.1.toNat (false, 0, 0, ())).1, (x1.2.2.1.getD x1.2.2.2.2.1.toNat (false, 0, 0, ())).2.1, (x1.2.2.1.getD x1.2.2.2.2.1.toNat (false, 0, 0, ())).2.2.1, x1.2.2.2.2.2.1, x1.2.2.2.2.2.2.1, x1.2.2.2.2.2.2.2.1, x1.2.2.2.2.2.2.2.2.1, x1.2.2.2.2.2.2.2.2.2.1, x1.2.2.2.2.2.2.2.2.2.2)
      else
        letv (decide ((x1.2.2.1.getD x1.2.2.2.2.1.toNat (false, 0, 0, ())).2.2.1 ≥ 16)) fun v5 =>
        k10 ((x1.2.2.1.getD x1.2.2.2.2.1.toNat (false, 0, 0, ())).2.1, (x1.2.2.1.getD x1.2.2.2.2.1.toNat (false, 0, 0, ())).2.2.1, v5, (x1.2.2.1.getD x1.2.2.2.2.1.toNat (false, 0, 0, ())).1, (x1.2.2.1.getD x1.2.2.2.2.1.toNat (false, 0, 0, ())).2.1, (x1.2.2.1.getD x1.2.2.2.2.1.toNat (false, 0, 0, ())).2.2.1, x1.2.2.2.2.2.1, x1.2.2.2.2.2.2.1, x1.2.2.2.2.2.2.2.1, x1.2.2.2.2.2.2.2.2.1, x1.2.2.2.2.2.2.2.2.2.1, x1.2.2.2.2.2.2.2.2.2.2)
  else
    k10 ((x1.2.2.1.getD x1.2.2.2.2.1.toNat (false, 0, 0, ())).2.1, (x1.2.2.1.getD x1.2.2.2.2.1.toNat (false, 0, 0, ())).2.2.1, true, (x1.2.2.1.getD x1.2.2.2.2.1.toNat (false, 0, 0, ())).1, (x1.2.2.1.getD x1.2.2.2.2.1.toNat (false, 0, 0, ())).2.1, (x1.2.2.1.getD x1.2.2.2.2.1.toNat (false, 0, 0, ())).2.2.1, x1.2.2.2.2.2.1, x1.2.2.2.2.2.2.1, x1.2.2.2.2.2.2.2.1, x1.2.2.2.2.2.2.2.2.1, x1.2.2.2.2.2.2.2.2.2.1, x1.2.2.2.2.2.2.2.2.2.2)
def L24_BucketPlays_J7 (x10 : Int × Int × Bool × Bool × Int × Int × Int × (List (Int × Int × Unit)) × Int × Int × Int × (List (Int × Int × Int × Unit))) (k9 : (Int × List (List Int) × (List (Bool × Int × Int × Unit)) × Int × Int × Int × Bool × Int × Int × Int × (List (Int × Int × Unit)) × Int × Int × Int × (List (Int × Int × Int × Unit))) → Option Bool) (x1 : Int × List (List Int) × (List (Bool × Int × Int × Unit)) × Int × Int × Int × (List (Int × Int × Unit)) × Int × Int × Int × (List (Int × Int × Int × Unit))) (p53 : Bool) (p54 : Int) (p55 : Int) (p56 : Int) (p57 : List (Int × Int × Unit)) (p58 : Int) (p59 : Int) (p60 : Int) (p61 : List (Int × Int × Int × Unit)) : Option Bool :=
  Option.bind (queue_Pool_Push (p57, p61, (p58, p59, p60, ()), ()) x10.1 x10.2.1) fun r38 =>
  k9 (x1.1, x1.2.1, x1.2.2.1, x1.2.2.2.1, x1.2.2.2.2.1, r38.2.1, p53, p54, p55, p56, r38.1.1, r38.1.2.2.1.1, r38.1.2.2.1.2.1, r38.1.2.2.1.2.2.1, r38.1.2.1)
def L24_BucketPlays_C5 (x11 : Int × Int × Int × Bool × Int × Int × Int × (List (Int × Int × Unit)) × Int × Int × Int × (List (Int × Int × Int × Unit))) (k12 : (Int × Int × Int × Int × Bool × Bool × Int × Int × Int × (List (Int × Int × Unit)) × Int × Int × Int × (List (Int × Int × Int × Unit))) → Option Bool) : Option Bool :=
  bif decide (x11.2.2.1 ≥ 0) then
    bif !(decide (x11.2.2.1 < x11.2.2.2.2.2.2.1)) then
      Option.bind (slices_Contains_int_int [] x11.1) fun r39 =>
      k12 (x11.1, x11.2.2.1, x11.2.1, x11.2.2.1, r39, x11.2.2.2.1, x11.2.2.2.2.1, x11.2.2.2.2.2.1, x11.2.2.2.2.2.2.1, x11.2.2.2.2.2.2.2.1, x11.2.2.2.2.2.2.2.2.1, x11.2.2.2.2.2.2.2.2.2.1, x11.2.2.2.2.2.2.2.2.2.2.1, x11.2.2.2.2.2.2.2.2.2.2.2)
    else
      Option.bind (queue_Pool_List (x11.2.2.2.2.2.2.2.1, x11.2.2.2.2.2.2.2.2.2.2.2, (x11.2.2.2.2.2.2.2.2.1, x11.2.2.2.2.2.2.2.2.2.1, x11.2.2.2.2.2.2.2.2.2.2.1, ()), ()) x11.2.2.1) fun r40 =>
      Option.bind (slices_Contains_int_int r40.2.1 x11.1) fun r41 =>
      k12 (x11.1, x11.2.2.1, x11.2.1, x11.2.2.1, r41, x11.2.2.2.1, x11.2.2.2.2.1, x11.2.2.2.2.2.1, x11.2.2.2.2.2.2.1, r40.1.1, r40.1.2.2.1.1, r40.1.2.2.1.2.1, r40.1.2.2.1.2.2.1, r40.1.2.1)
  else
    Option.bind (slices_Contains_int_int [] x11.1) fun r42 =>
    k12 (x11.1, x11.2.2.1, x11.2.1, x11.2.2.1, r42, x11.2.2.2.1, x11.2.2.2.2.1, x11.2.2.2.2.2.1, x11.2.2.2.2.2.2.1, x11.2.2.2.2.2.2.2.1, x11.2.2.2.2.2.2.2.2.1, x11.2.2.2.2.2.2.2.2.2.1, x11.2.2.2.2.2.2.2.2.2.2.1, x11.2.2.2.2.2.2.2.2.2.2.2)
def L24_BucketPlays_R5 (k9 : (Int × List (List Int) × (List (Bool × Int × Int × Unit)) × Int × Int × Int × Bool × Int × Int × Int × (List (Int × Int × Unit)) × Int × Int × Int × (List (Int × Int × Int × Unit))) → Option Bool) (x1 : Int × List (List Int) × (List (Bool × Int × Int × Unit)) × Int × Int × Int × (List (Int × Int × Unit)) × Int × Int × Int × (List (Int × Int × Int × Unit))) (k11 : (Int × Int × Int × Bool × Int × Int × Int × (List (Int × Int × Unit)) × Int × Int × Int × (List (Int × Int × Int × Unit))) → Option Bool) (x12 : Int × Int × Int × Int × Bool × Bool × Int × Int × Int × (List (Int × Int × Unit)) × Int × Int × Int × (List (Int × Int × Int × Unit))) : Option Bool :=
  bif x12.2.2.2.2.1 then
    k9 (x1.1, x1.2.1, x1.2.2.1, x1.2.2.2.1, x1.2.2.2.2.1, 7, x12.2.2.2.2.2.1, x12.2.2.2.2.2.2.1, x12.2.2.2.2.2.2.2.1, x12.2.2.2.2.2.2.2.2.1, x12.2.2.2.2.2.2.2.2.2.1, x12.2.2.2.2.2.2.2.2.2.2.1, x12.2.2.2.2.2.2.2.2.2.2.2.1, x12.2.2.2.2.2.2.2.2.2.2.2.2.1, x12.2.2.2.2.2.2.2.2.2.2.2.2.2)
  else
    k11 (x12.1, x12.2.2.1, IntKind.i64.wrap (x12.2.2.2.1 + 1), x12.2.2.2.2.2.1, x12.2.2.2.2.2.2.1, x12.2.2.2.2.2.2.2.1, x12.2.2.2.2.2.2.2.2.1, x12.2.2.2.2.2.2.2.2.2.1, x12.2.2.2.2.2.2.2.2.2.2.1, x12.2.2.2.2.2.2.2.2.2.2.2.1, x12.2.2.2.2.2.2.2.2.2.2.2.2.1, x12.2.2.2.2.2.2.2.2.2.2.2.2.2)
def L24_BucketPlays_L5 (k9 : (Int × List (List Int) × (List (Bool × Int × Int × Unit)) × Int × Int × Int × Bool × Int × Int × Int × (List (Int × Int × Unit)) × Int × Int × Int × (List (Int × Int × Int × Unit))) → Option Bool) (x1 : Int × List (List Int) × (List (Bool × Int × Int × Unit)) × Int × Int × Int × (List (Int × Int × Unit)) × Int × Int × Int × (List (Int × Int × Int × Unit))) (x10 : Int × Int × Bool × Bool × Int × Int × Int × (List (Int × Int × Unit)) × Int × Int × Int × (List (Int × Int × Int × Unit))) (k11 : (Int × Int × Int × Bool × Int × Int × Int × (List (Int × Int × Unit)) × Int × Int × Int × (List (Int × Int × Int × Unit))) → Option Bool) (x11 : Int × Int × Int × Bool × Int × Int × Int × (List (Int × Int × Unit)) × Int × Int × Int × (List (Int × Int × Int × Unit))) : Option Bool :=
  bif decide (x11.2.2.1 < x11.2.1) then
    cutv 5 (L24_BucketPlays_C5 x11) (L24_BucketPlays_R5 k9 x1 k11)
  else
    L24_BucketPlays_J7 x10 k9 x1 x11.2.2.2.1 x11.2.2.2.2.1 x11.2.2.2.2.2.1 x11.2.2.2.2.2.2.1 x11.2.2.2.2.2.2.2.1 x11.2.2.2.2.2.2.2.2.1 x11.2.2.2.2.2.2.2.2.2.1 x11.2.2.2.2.2.2.2.2.2.2.1 x11.2.2.2.2.2.2.2.2.2.2.2
def L24_BucketPlays_R4 (k9 : (Int × List (List Int) × (List (Bool × Int × Int × Unit)) × Int × Int × Int × Bool × Int × Int × Int × (List (Int × Int × Unit)) × Int × Int × Int × (List (Int × Int × Int × Unit))) → Option Bool) (x1 : Int × List (List Int) × (List (Bool × Int × Int × Unit)) × Int × Int × Int × (List (Int × Int × Unit)) × Int × Int × Int × (List (Int × Int × Int × Unit))) (x10 : Int × Int × Bool × Bool × Int × Int × Int × (List (Int × Int × Unit)) × Int × Int × Int × (List (Int × Int × Int × Unit))) : Option Bool :=
  bif x10.2.2.1 then
    k9 (x1.1, x1.2.1, x1.2.2.1, x1.2.2.2.1, x1.2.2.2.2.1, 8, x10.2.2.2.1, x10.2.2.2.2.1, x10.2.2.2.2.2.1, x10.2.2.2.2.2.2.1, x10.2.2.2.2.2.2.2.1, x10.2.2.2.2.2.2.2.2.1, x10.2.2.2.2.2.2.2.2.2.1, x10.2.2.2.2.2.2.2.2.2.2.1, x10.2.2.2.2.2.2.2.2.2.2.2)
  else
    loop (L24_BucketPlays_L5 k9 x1 x10) (x10.2.1, x10.2.2.2.2.2.2.1, 0, x10.2.2.2.1, x10.2.2.2.2.1, x10.2.2.2.2.2.1, x10.2.2.2.2.2.2.1, x10.2.2.2.2.2.2.2.1, x10.2.2.2.2.2.2.2.2.1, x10.2.2.2.2.2.2.2.2.2.1, x10.2.2.2.2.2.2.2.2.2.2.1, x10.2.2.2.2.2.2.2.2.2.2.2)
def L24_BucketPlays_C6 (x1 : Int × List (List Int) × (List (Bool × Int × Int × Unit)) × Int × Int × Int × (List (Int × Int × Unit)) × Int × Int × Int × (List (Int × Int × Int × Unit))) (k9 : (Int × List (List Int) × (List (Bool × Int × Int × Unit)) × Int × Int × Int × Bool × Int × Int × Int × (List (Int × Int × Unit)) × Int × Int × Int × (List (Int × Int × Int × Unit))) → Option Bool) : Option Bool :=
  cutv 4 (L24_BucketPlays_C4 x1) (L24_BucketPlays_R4 k9 x1)
def L24_BucketPlays_R6 (k1 : (Int × List (List Int) × (List (Bool × Int × Int × Unit)) × Int × Int × Int × (List (Int × Int × Unit)) × Int × Int × Int × (List (Int × Int × Int × Unit))) → Option Bool) (x9 : Int × List (List Int) × (List (Bool × Int × Int × Unit)) × Int × Int × Int × Bool × Int × Int × Int × (List (Int × Int × Unit)) × Int × Int × Int × (List (Int × Int × Int × Unit))) : Option Bool :=
  Option.bind (R24_Fall x9.2.1 x9.2.2.2.2.2.2.2.1 x9.2.2.2.2.2.2.2.2.1) fun r43 =>
  bif !decide (x9.2.2.2.2.2.1 = r43.2.1) then
    some false
  else
    L24_BucketPlays_J3 k1 x9.1 r43.1 x9.2.2.1 x9.2.2.2.1 x9.2.2.2.2.1 x9.2.2.2.2.2.2.1 x9.2.2.2.2.2.2.2.1 x9.2.2.2.2.2.2.2.2.1 x9.2.2.2.2.2.2.2.2.2.1 x9.2.2.2.2.2.2.2.2.2.2.1 x9.2.2.2.2.2.2.2.2.2.2.2.1 x9.2.2.2.2.2.2.2.2.2.2.2.2.1 x9.2.2.2.2.2.2.2.2.2.2.2.2.2.1 x9.2.2.2.2.2.2.2.2.2.2.2.2.2.2
def L24_BucketPlays_L6 (k1 : (Int × List (List Int) × (List (Bool × Int × Int × Unit)) × Int × Int × Int × (List (Int × Int × Unit)) × Int × Int × Int × (List (Int × Int × Int × Unit))) → Option Bool) (x1 : Int × List (List Int) × (List (Bool × Int × Int × Unit)) × Int × Int × Int × (List (Int × Int × Unit)) × Int × Int × Int × (List (Int × Int × Int × Unit))) : Option Bool :=
  bif decide (x1.2.2.2.2.1 < x1.2.2.2.1) then
    chk (0 ≤ x1.2.2.2.2.1 ∧ x1.2.2.2.2.1 < (x1.2.2.1.length : Int)) <|
    bif (x1.2.2.1.getD x1.2.2.2.2.1.toNat (false, 0, 0, ())).1 then
      bif decide ((x1.2.2.1.getD x1.2.2.2.2.1.toNat (false, 0, 0, ())).2.1 ≥ 0) then
        letv (decide ((x1.2.2.1.getD x1.2.2.2.2.1.toNat (false, 0, 0, ())).2.1 < x1.2.2.2.2.2.1)) fun v2 =>
        bif !v2 then
          Option.bind (R24_Flush x1.2.1 (x1.2.2.1.getD x1.2.2.2.2.1.toNat (false, 0, 0, ())).2.1) fun r24 =>
          Option.bind (R02_Same [] r24.2.1) fun r25 =>
          bif !r25 then
            some false
          else
            bif !decide (8 = r24.2.2.1) then
              some false
            else
              L24_BucketPlays_J3 k1 x1.1 r24.1 x1.2.2.1 x1.2.2.2.1 x1.2.2.2.2.1 (x1.2.2.1.getD x1.2.2.2.2.1.toNat (false, 0, 0, ())).1 (x1.2.2.1.getD x1.2.2.2.2.1.toNat (false, 0, 0, ())).2.1 (x1.2.2.1.getD x1.2.2.2.2.1.toNat (false, 0, 0, ())).2.2.1 x1.2.2.2.2.2.1 x1.2.2.2.2.2.2.1 x1.2.2.2.2.2.2.2.1 x1.2.2.2.2.2.2.2.2.1 x1.2.2.2.2.2.2.2.2.2.1 x1.2.2.2.2.2.2.2.2.2.2
        else
          bif decide ((x1.2.2.1.getD x1.2.2.2.2.1.toNat (false, 0, 0, ())).2.1 ≥ 0) then
            letv (decide ((x1.2.2.1.getD x1.2.2.2.2.1.toNat (false, 0, 0, ())).2.1 < x1.2.2.2.2.2.1)) fun v3 =>
            bif !v3 then
              loop (L24_BucketPlays_L2 x1 k1 (x1.2.2.1.getD x1.2.2.2.2.1.toNat (false, 0, 0, ())).1 (x1.2.2.1.getD x1.2.2.2.2.1.toNat (false, 0, 0, ())).2.1 (x1.2.2.1.getD x1.2.2.2.2.1.toNat (false, 0, 0, ())).2.2.1) ()
            else
              Option.bind (queue_Pool_List (x1.2.2.2.2.2.2.1, x1.2.2.2.2.2.2.2.2.2.2, (x1.2.2.2.2.2.2.2.1, x1.2.2.2.2.2.2.2.2.1, x1.2.2.2.2.2.2.2.2.2.1, ()), ()) (x1.2.2.1.getD x1.2.2.2.2.1.toNat (false, 0, 0, ())).2.1) fun r28 =>
              loop (L24_BucketPlays_L3 (r28.2.1.length : Int) (x1.2.2.1.getD x1.2.2.2.2.1.toNat (false, 0, 0, ())).2.1 x1 k1 (x1.2.2.1.getD x1.2.2.2.2.1.toNat (false, 0, 0, ())).1 (x1.2.2.1.getD x1.2.2.2.2.1.toNat (false, 0, 0, ())).2.2.1 r28) (0, r28.1.1, r28.1.2.2.1.1, r28.1.2.2.1.2.1, r28.1.2.2.1.2.2.1, r28.1.2.1)
          else
            loop (L24_BucketPlays_L4 x1 k1 (x1.2.2.1.getD x1.2.2.2.2.1.toNat (false, 0, 0, ())).1 (x1.2.2.1.getD x1.2.2.2.2.1.toNat (false, 0, 0, ())).2.1 (x1.2.2.1.getD x1.2.2.2.2.1.toNat (false, 0, 0, ())).2.2.1) ()
      else
        Option.bind (R24_Flush x1.2.1 (x1.2.2.1.getD x1.2.2.2.2.1.toNat (false, 0, 0, ())).2.1) fun r36 =>
        Option.bind (R02_Same [] r36.2.1) fun r37 =>
        bif !r37 then
          some false
        else
          bif !decide (8 = r36.2.2.1) then
            some false
          else
            L24_BucketPlays_J3 k1 x1.1 r36.1 x1.2.2.1 x1.2.2.2.1 x1.2.2.2.2.1 (x1.2.2.1.getD x1.2.2.2.2.1.toNat (false, 0, 0, ())).1 (x1.2.2.1.getD x1.2.2.2.2.1.toNat (false, 0, 0, ())).2.1 (x1.2.2.1.getD x1.2.2.2.2.1.toNat (false, 0, 0, ())).2.2.1 x1.2.2.2.2.2.1 x1.2.2.2.2.2.2.1 x1.2.2.2.2.2.2.2.1 x1.2.2.2.2.2.2.2.2.1 x1.2.2.2.2.2.2.2.2.2.1 x1.2.2.2.2.2.2.2.2.2.2
    else
      cutv 6 (L24_BucketPlays_C6 x1) (L24_BucketPlays_R6 k1)
  else
    L24_BucketPlays_J1
def L24_BucketPlays_J8 (a0 : Int) (a1 : List (Bool × Int × Int × Unit)) (p1 : List (Int × Int × Int × Unit)) (p2 : List (Int × Int × Unit)) (p3 : Int) (p4 : Int) (p5 : Int) : Option Bool :=
  Option.bind (R24_New a0) fun r10 =>
  bif !decide (r10.2.1 = 0) then
    some false
  else
    loop L24_BucketPlays_L6 (a0, r10.1, a1, (a1.length : Int), 0, a0, p2, p3, p4, p5, p1)
def L24_BucketPlays_L7 (p62 : Int) (a0 : Int) (a1 : List (Bool × Int × Int × Unit)) (p1 : List (Int × Int × Int × Unit)) (k13 : (Int × (List (Int × Int × Unit)) × Int × Int × Int) → Option Bool) (x13 : Int × (List (Int × Int × Unit)) × Int × Int × Int) : Option Bool :=
  bif decide (x13.1 < p62) then
    chk (0 ≤ x13.1 ∧ x13.1 < (x13.2.1.length : Int)) <|
    letv (x13.2.1.set x13.1.toNat ((x13.2.1.getD x13.1.toNat (0, 0, ())).1, (-1), ())) fun l2 =>
    bif decide (x13.2.2.2.2 = 0) then
      k13 (IntKind.i64.wrap (x13.1 + 1), l2, x13.1, x13.1, IntKind.i64.wrap (x13.2.2.2.2 + 1))
    else
      chk (0 ≤ x13.2.2.2.1 ∧ x13.2.2.2.1 < (l2.length : Int)) <|
      letv (l2.set x13.2.2.2.1.toNat ((l2.getD x13.2.2.2.1.toNat (0, 0, ())).1, x13.1, ())) fun l3 =>
      k13 (IntKind.i64.wrap (x13.1 + 1), l3, x13.2.2.1, x13.1, IntKind.i64.wrap (x13.2.2.2.2 + 1))
  else
    L24_BucketPlays_J8 a0 a1 p1 x13.2.1 x13.2.2.1 x13.2.2.2.1 x13.2.2.2.2
def L24_BucketPlays_J9 (l1 : List (Int × Int × Unit)) (a0 : Int) (a1 : List (Bool × Int × Int × Unit)) (p1 : List (Int × Int × Int × Unit)) : Option Bool :=
  loop (L24_BucketPlays_L7 (l1.length : Int) a0 a1 p1) (0, l1, (-1), (-1), 0)
def L24_BucketPlays_L8 (p63 : Int) (l1 : List (Int × Int × Unit)) (a0 : Int) (a1 : List (Bool × Int × Int × Unit)) (k14 : (Int × (List (Int × Int × Int × Unit))) → Option Bool) (x14 : Int × (List (Int × Int × Int × Unit))) : Option Bool :=
  bif decide (x14.1 < p63) then
    chk (x14.2.length + ([((-1), (-1), 0, ())] : List (Int × Int × Int × Unit)).length ≤ 4294967296) <|
    k14 (IntKind.i64.wrap (x14.1 + 1), x14.2 ++ [((-1), (-1), 0, ())])
  else
    L24_BucketPlays_J9 l1 a0 a1 x14.2
def L24_BucketPlays (a0 : Int) (a1 : List (Bool × Int × Int × Unit)) : Option Bool :=
  bif decide ((a1.length : Int) > 80) then
    Option.bind (L24_alive) fun r1 =>
    some r1
  else
    bif decide (a0 < 0) then
      Option.bind (R24_New a0) fun r2 =>
      bif !decide (r2.2.1 = 0) then
        bif decide (1 = r2.2.1) then
          Option.bind (L24_alive) fun r3 =>
          some r3
        else
          some false
      else
        some false
    else
      bif decide (a0 > 4) then
        Option.bind (R24_New a0) fun r4 =>
        bif !decide (r4.2.1 = 0) then
          bif decide (1 = r4.2.1) then
            Option.bind (L24_alive) fun r5 =>
            some r5
          else
            some false
        else
          some false
      else
        bif decide ((IntKind.i64.wrap (a0 + 1)) < 1) then
          Option.bind (R24_New a0) fun r6 =>
          bif !decide (r6.2.1 = 0) then
            bif decide (1 = r6.2.1) then
              Option.bind (L24_alive) fun r7 =>
              some r7
            else
              some false
          else
            some false
        else
          bif decide ((IntKind.i64.wrap (a0 + 1)) > 64) then
            Option.bind (R24_New a0) fun r8 =>
            bif !decide (r8.2.1 = 0) then
              bif decide (1 = r8.2.1) then
                Option.bind (L24_alive) fun r9 =>
                some r9
              else
                some false
            else
              some false
          else
            chk ((16 : Int) = (16 : Int) ∧ 0 ≤ (16 : Int) ∧ (16 : Int) ≤ 4294967296) <|
            letv (List.replicate (16 : Int).toNat (0, 0, ())) fun l1 =>
            loop (L24_BucketPlays_L8 (IntKind.i64.wrap (a0 + 1)) l1 a0 a1) (0, [])
end Go.Proofs.YtiicmhholjpcbaaV
