import Derived.Test.YtiicmhholjpcbaaVcMt
import Derived.Test.YtiicmhholjpcbaaDR02
import Derived.Test.YtiicmhholjpcbaaDR24
import Derived.Test.YtiicmhholjpcbaaDqueue
import Derived.Test.YtiicmhholjpcbaaDslices
namespace Go.Proofs.YtiicmhholjpcbaaV
set_option linter.unusedVariables false
def L24_alive_J1 (k1 : ((List (Int × Int × Unit)) × Int × Int × Int × (List (Int × Int × Int × Unit))) → Option Bool) (p1 : List (Int × Int × Int × Unit)) (p2 : List (Int × Int × Unit)) (p3 : Int) (p4 : Int) (p5 : Int) : Option Bool :=
  k1 (p2, p3, p4, p5, p1)
def L24_alive_L1 (p6 : Int) (k1 : ((List (Int × Int × Unit)) × Int × Int × Int × (List (Int × Int × Int × Unit))) → Option Bool) (p1 : List (Int × Int × Int × Unit)) (k2 : (Int × (List (Int × Int × Unit)) × Int × Int × Int) → Option Bool) (x2 : Int × (List (Int × Int × Unit)) × Int × Int × Int) : Option Bool :=
  bif decide (x2.1 < p6) then
    chk (0 ≤ x2.1 ∧ x2.1 < (x2.2.1.length : Int)) <|
    letv (x2.2.1.set x2.1.toNat ((x2.2.1.getD x2.1.toNat (0, 0, ())).1, (-1), ())) fun l2 =>
    bif decide (x2.2.2.2.2 = 0) then
      k2 (IntKind.i64.wrap (x2.1 + 1), l2, x2.1, x2.1, IntKind.i64.wrap (x2.2.2.2.2 + 1))
    else
      chk (0 ≤ x2.2.2.2.1 ∧ x2.2.2.2.1 < (l2.length : Int)) <|
      letv (l2.set x2.2.2.2.1.toNat ((l2.getD x2.2.2.2.1.toNat (0, 0, ())).1, x2.1, ())) fun l3 =>
      k2 (IntKind.i64.wrap (x2.1 + 1), l3, x2.2.2.1, x2.1, IntKind.i64.wrap (x2.2.2.2.2 + 1))
  else
    L24_alive_J1 k1 p1 x2.2.1 x2.2.2.1 x2.2.2.2.1 x2.2.2.2.2
def L24_alive_J2 (l1 : List (Int × Int × Unit)) (k1 : ((List (Int × Int × Unit)) × Int × Int × Int × (List (Int × Int × Int × Unit))) → Option Bool) (p1 : List (Int × Int × Int × Unit)) : Option Bool :=
  loop (L24_alive_L1 (l1.length : Int) k1 p1) (0, l1, (-1), (-1), 0)
def L24_alive_L2 (l1 : List (Int × Int × Unit)) (k1 : ((List (Int × Int × Unit)) × Int × Int × Int × (List (Int × Int × Int × Unit))) → Option Bool) (k3 : (Int × (List (Int × Int × Int × Unit))) → Option Bool) (x3 : Int × (List (Int × Int × Int × Unit))) : Option Bool :=
  bif decide (x3.1 < 3) then
    chk (x3.2.length + ([((-1), (-1), 0, ())] : List (Int × Int × Int × Unit)).length ≤ 4294967296) <|
    k3 (IntKind.i64.wrap (x3.1 + 1), x3.2 ++ [((-1), (-1), 0, ())])
  else
    L24_alive_J2 l1 k1 x3.2
def L24_alive_C1 (k1 : ((List (Int × Int × Unit)) × Int × Int × Int × (List (Int × Int × Int × Unit))) → Option Bool) : Option Bool :=
  chk ((16 : Int) = (16 : Int) ∧ 0 ≤ (16 : Int) ∧ (16 : Int) ≤ 4294967296) <|
  letv (List.replicate (16 : Int).toNat (0, 0, ())) fun l1 =>
  loop (L24_alive_L2 l1 k1) (0, [])
def L24_alive_J3 (k4 : (Int × (List (Int × Int × Unit)) × Int × Int × Int × (List (Int × Int × Int × Unit))) → Option Bool) (p7 : List (Int × Int × Unit)) (p8 : Int) (p9 : Int) (p10 : Int) (p11 : List (Int × Int × Int × Unit)) : Option Bool :=
  Option.bind (queue_Pool_Push (p7, p11, (p8, p9, p10, ()), ()) 0 3) fun r1 =>
  k4 (r1.2.1, r1.1.1, r1.1.2.2.1.1, r1.1.2.2.1.2.1, r1.1.2.2.1.2.2.1, r1.1.2.1)
def L24_alive_C2 (x5 : Int × (List (Int × Int × Unit)) × Int × Int × Int × (List (Int × Int × Int × Unit))) (k6 : (Int × Int × Bool × (List (Int × Int × Unit)) × Int × Int × Int × (List (Int × Int × Int × Unit))) → Option Bool) : Option Bool :=
  bif decide (x5.1 ≥ 0) then
    bif !(decide (x5.1 < 2)) then
      Option.bind (slices_Contains_int_int [] 3) fun r2 =>
      k6 (x5.1, x5.1, r2, x5.2.1, x5.2.2.1, x5.2.2.2.1, x5.2.2.2.2.1, x5.2.2.2.2.2)
    else
      Option.bind (queue_Pool_List (x5.2.1, x5.2.2.2.2.2, (x5.2.2.1, x5.2.2.2.1, x5.2.2.2.2.1, ()), ()) x5.1) fun r3 =>
      Option.bind (slices_Contains_int_int r3.2.1 3) fun r4 =>
      k6 (x5.1, x5.1, r4, r3.1.1, r3.1.2.2.1.1, r3.1.2.2.1.2.1, r3.1.2.2.1.2.2.1, r3.1.2.1)
  else
    Option.bind (slices_Contains_int_int [] 3) fun r5 =>
    k6 (x5.1, x5.1, r5, x5.2.1, x5.2.2.1, x5.2.2.2.1, x5.2.2.2.2.1, x5.2.2.2.2.2)
def L24_alive_R2 (k4 : (Int × (List (Int × Int × Unit)) × Int × Int × Int × (List (Int × Int × Int × Unit))) → Option Bool) (k5 : (Int × (List (Int × Int × Unit)) × Int × Int × Int × (List (Int × Int × Int × Unit))) → Option Bool) (x6 : Int × Int × Bool × (List (Int × Int × Unit)) × Int × Int × Int × (List (Int × Int × Int × Unit))) : Option Bool :=
  bif x6.2.2.1 then
    k4 (7, x6.2.2.2.1, x6.2.2.2.2.1, x6.2.2.2.2.2.1, x6.2.2.2.2.2.2.1, x6.2.2.2.2.2.2.2)
  else
    k5 (IntKind.i64.wrap (x6.2.1 + 1), x6.2.2.2.1, x6.2.2.2.2.1, x6.2.2.2.2.2.1, x6.2.2.2.2.2.2.1, x6.2.2.2.2.2.2.2)
def L24_alive_L3 (k4 : (Int × (List (Int × Int × Unit)) × Int × Int × Int × (List (Int × Int × Int × Unit))) → Option Bool) (k5 : (Int × (List (Int × Int × Unit)) × Int × Int × Int × (List (Int × Int × Int × Unit))) → Option Bool) (x5 : Int × (List (Int × Int × Unit)) × Int × Int × Int × (List (Int × Int × Int × Unit))) : Option Bool :=
  bif decide (x5.1 < 2) then
    cutv 2 (L24_alive_C2 x5) (L24_alive_R2 k4 k5)
  else
    L24_alive_J3 k4 x5.2.1 x5.2.2.1 x5.2.2.2.1 x5.2.2.2.2.1 x5.2.2.2.2.2
def L24_alive_C3 (x1 : (List (Int × Int × Unit)) × Int × Int × Int × (List (Int × Int × Int × Unit))) (k4 : (Int × (List (Int × Int × Unit)) × Int × Int × Int × (List (Int × Int × Int × Unit))) → Option Bool) : Option Bool :=
  loop (L24_alive_L3 k4) (0, x1.1, x1.2.1, x1.2.2.1, x1.2.2.2.1, x1.2.2.2.2)
def L24_alive_J4 (k7 : (Int × Int × (List (Int × Int × Unit)) × Int × Int × Int × (List (Int × Int × Int × Unit))) → Option Bool) (x4 : Int × (List (Int × Int × Unit)) × Int × Int × Int × (List (Int × Int × Int × Unit))) (p12 : List (Int × Int × Unit)) (p13 : Int) (p14 : Int) (p15 : Int) (p16 : List (Int × Int × Int × Unit)) : Option Bool :=
  Option.bind (queue_Pool_Push (p12, p16, (p13, p14, p15, ()), ()) 0 1) fun r6 =>
  k7 (x4.1, r6.2.1, r6.1.1, r6.1.2.2.1.1, r6.1.2.2.1.2.1, r6.1.2.2.1.2.2.1, r6.1.2.1)
def L24_alive_C4 (x8 : Int × (List (Int × Int × Unit)) × Int × Int × Int × (List (Int × Int × Int × Unit))) (k9 : (Int × Int × Bool × (List (Int × Int × Unit)) × Int × Int × Int × (List (Int × Int × Int × Unit))) → Option Bool) : Option Bool :=
  bif decide (x8.1 ≥ 0) then
    bif !(decide (x8.1 < 2)) then
      Option.bind (slices_Contains_int_int [] 1) fun r7 =>
      k9 (x8.1, x8.1, r7, x8.2.1, x8.2.2.1, x8.2.2.2.1, x8.2.2.2.2.1, x8.2.2.2.2.2)
    else
      Option.bind (queue_Pool_List (x8.2.1, x8.2.2.2.2.2, (x8.2.2.1, x8.2.2.2.1, x8.2.2.2.2.1, ()), ()) x8.1) fun r8 =>
      Option.bind (slices_Contains_int_int r8.2.1 1) fun r9 =>
      k9 (x8.1, x8.1, r9, r8.1.1, r8.1.2.2.1.1, r8.1.2.2.1.2.1, r8.1.2.2.1.2.2.1, r8.1.2.1)
  else
    Option.bind (slices_Contains_int_int [] 1) fun r10 =>
    k9 (x8.1, x8.1, r10, x8.2.1, x8.2.2.1, x8.2.2.2.1, x8.2.2.2.2.1, x8.2.2.2.2.2)
def L24_alive_R4 (k7 : (Int × Int × (List (Int × Int × Unit)) × Int × Int × Int × (List (Int × Int × Int × Unit))) → Option Bool) (x4 : Int × (List (Int × Int × Unit)) × Int × Int × Int × (List (Int × Int × Int × Unit))) (k8 : (Int × (List (Int × Int × Unit)) × Int × Int × Int × (List (Int × Int × Int × Unit))) → Option Bool) (x9 : Int × Int × Bool × (List (Int × Int × Unit)) × Int × Int × Int × (List (Int × Int × Int × Unit))) : Option Bool :=
  bif x9.2.2.1 then
    k7 (x4.1, 7, x9.2.2.2.1, x9.2.2.2.2.1, x9.2.2.2.2.2.1, x9.2.2.2.2.2.2.1, x9.2.2.2.2.2.2.2)
  else
    k8 (IntKind.i64.wrap (x9.2.1 + 1), x9.2.2.2.1, x9.2.2.2.2.1, x9.2.2.2.2.2.1, x9.2.2.2.2.2.2.1, x9.2.2.2.2.2.2.2)
def L24_alive_L4 (k7 : (Int × Int × (List (Int × Int × Unit)) × Int × Int × Int × (List (Int × Int × Int × Unit))) → Option Bool) (x4 : Int × (List (Int × Int × Unit)) × Int × Int × Int × (List (Int × Int × Int × Unit))) (k8 : (Int × (List (Int × Int × Unit)) × Int × Int × Int × (List (Int × Int × Int × Unit))) → Option Bool) (x8 : Int × (List (Int × Int × Unit)) × Int × Int × Int × (List (Int × Int × Int × Unit))) : Option Bool :=
  bif decide (x8.1 < 2) then
    cutv 4 (L24_alive_C4 x8) (L24_alive_R4 k7 x4 k8)
  else
    L24_alive_J4 k7 x4 x8.2.1 x8.2.2.1 x8.2.2.2.1 x8.2.2.2.2.1 x8.2.2.2.2.2
def L24_alive_C5 (x4 : Int × (List (Int × Int × Unit)) × Int × Int × Int × (List (Int × Int × Int × Unit))) (k7 : (Int × Int × (List (Int × Int × Unit)) × Int × Int × Int × (List (Int × Int × Int × Unit))) → Option Bool) : Option Bool :=
  loop (L24_alive_L4 k7 x4) (0, x4.2.1, x4.2.2.1, x4.2.2.2.1, x4.2.2.2.2.1, x4.2.2.2.2.2)
def L24_alive_J5 (k10 : (Int × Int × Int × (List (Int × Int × Unit)) × Int × Int × Int × (List (Int × Int × Int × Unit))) → Option Bool) (x7 : Int × Int × (List (Int × Int × Unit)) × Int × Int × Int × (List (Int × Int × Int × Unit))) (p17 : List (Int × Int × Unit)) (p18 : Int) (p19 : Int) (p20 : Int) (p21 : List (Int × Int × Int × Unit)) : Option Bool :=
  Option.bind (queue_Pool_Push (p17, p21, (p18, p19, p20, ()), ()) 1 3) fun r11 =>
  k10 (x7.1, x7.2.1, r11.2.1, r11.1.1, r11.1.2.2.1.1, r11.1.2.2.1.2.1, r11.1.2.2.1.2.2.1, r11.1.2.1)
def L24_alive_C6 (x11 : Int × (List (Int × Int × Unit)) × Int × Int × Int × (List (Int × Int × Int × Unit))) (k12 : (Int × Int × Bool × (List (Int × Int × Unit)) × Int × Int × Int × (List (Int × Int × Int × Unit))) → Option Bool) : Option Bool :=
  bif decide (x11.1 ≥ 0) then
    bif !(decide (x11.1 < 2)) then
      Option.bind (slices_Contains_int_int [] 3) fun r12 =>
      k12 (x11.1, x11.1, r12, x11.2.1, x11.2.2.1, x11.2.2.2.1, x11.2.2.2.2.1, x11.2.2.2.2.2)
    else
      Option.bind (queue_Pool_List (x11.2.1, x11.2.2.2.2.2, (x11.2.2.1, x11.2.2.2.1, x11.2.2.2.2.1, ()), ()) x11.1) fun r13 =>
      Option.bind (slices_Contains_int_int r13.2.1 3) fun r14 =>
      k12 (x11.1, x11.1, r14, r13.1.1, r13.1.2.2.1.1, r13.1.2.2.1.2.1, r13.1.2.2.1.2.2.1, r13.1.2.1)
  else
    Option.bind (slices_Contains_int_int [] 3) fun r15 =>
    k12 (x11.1, x11.1, r15, x11.2.1, x11.2.2.1, x11.2.2.2.1, x11.2.2.2.2.1, x11.2.2.2.2.2)
def L24_alive_R6 (k10 : (Int × Int × Int × (List (Int × Int × Unit)) × Int × Int × Int × (List (Int × Int × Int × Unit))) → Option Bool) (x7 : Int × Int × (List (Int × Int × Unit)) × Int × Int × Int × (List (Int × Int × Int × Unit))) (k11 : (Int × (List (Int × Int × Unit)) × Int × Int × Int × (List (Int × Int × Int × Unit))) → Option Bool) (x12 : Int × Int × Bool × (List (Int × Int × Unit)) × Int × Int × Int × (List (Int × Int × Int × Unit))) : Option Bool :=
  bif x12.2.2.1 then
    k10 (x7.1, x7.2.1, 7, x12.2.2.2.1, x12.2.2.2.2.1, x12.2.2.2.2.2.1, x12.2.2.2.2.2.2.1, x12.2.2.2.2.2.2.2)
  else
    k11 (IntKind.i64.wrap (x12.2.1 + 1), x12.2.2.2.1, x12.2.2.2.2.1, x12.2.2.2.2.2.1, x12.2.2.2.2.2.2.1, x12.2.2.2.2.2.2.2)
def L24_alive_L5 (k10 : (Int × Int × Int × (List (Int × Int × Unit)) × Int × Int × Int × (List (Int × Int × Int × Unit))) → Option Bool) (x7 : Int × Int × (List (Int × Int × Unit)) × Int × Int × Int × (List (Int × Int × Int × Unit))) (k11 : (Int × (List (Int × Int × Unit)) × Int × Int × Int × (List (Int × Int × Int × Unit))) → Option Bool) (x11 : Int × (List (Int × Int × Unit)) × Int × Int × Int × (List (Int × Int × Int × Unit))) : Option Bool :=
  bif decide (x11.1 < 2) then
    cutv 6 (L24_alive_C6 x11) (L24_alive_R6 k10 x7 k11)
  else
    L24_alive_J5 k10 x7 x11.2.1 x11.2.2.1 x11.2.2.2.1 x11.2.2.2.2.1 x11.2.2.2.2.2
def L24_alive_C7 (x7 : Int × Int × (List (Int × Int × Unit)) × Int × Int × Int × (List (Int × Int × Int × Unit))) (k10 : (Int × Int × Int × (List (Int × Int × Unit)) × Int × Int × Int × (List (Int × Int × Int × Unit))) → Option Bool) : Option Bool :=
  loop (L24_alive_L5 k10 x7) (0, x7.2.2.1, x7.2.2.2.1, x7.2.2.2.2.1, x7.2.2.2.2.2.1, x7.2.2.2.2.2.2)
def L24_alive_C8 (x10 : Int × Int × Int × (List (Int × Int × Unit)) × Int × Int × Int × (List (Int × Int × Int × Unit))) (k13 : (Int × Int × Int × (List (Int × Int × Unit)) × Int × Int × Int × (List (Int × Int × Int × Unit))) → Option Bool) : Option Bool :=
  k13 (x10.1, x10.2.1, x10.2.2.1, x10.2.2.2.1, x10.2.2.2.2.1, x10.2.2.2.2.2.1, x10.2.2.2.2.2.2.1, x10.2.2.2.2.2.2.2)
def L24_alive_J6 (k14 : (Int × Int × Int × Int × Bool × (List (Int × Int × Unit)) × Int × Int × Int × (List (Int × Int × Int × Unit))) → Option Bool) (x13 : Int × Int × Int × (List (Int × Int × Unit)) × Int × Int × Int × (List (Int × Int × Int × Unit))) (p22 : List (Int × Int × Unit)) (p23 : Int) (p24 : Int) (p25 : Int) (p26 : List (Int × Int × Int × Unit)) : Option Bool :=
  k14 (x13.1, x13.2.1, x13.2.2.1, 0, false, p22, p23, p24, p25, p26)
def L24_alive_C9 (x15 : Int × (List (Int × Int × Unit)) × Int × Int × Int × (List (Int × Int × Int × Unit))) (k16 : (Int × Int × Bool × (List (Int × Int × Unit)) × Int × Int × Int × (List (Int × Int × Int × Unit))) → Option Bool) : Option Bool :=
  bif decide (x15.1 ≥ 0) then
    bif !(decide (x15.1 < 2)) then
      Option.bind (slices_Contains_int_int [] 1) fun r16 =>
      k16 (x15.1, x15.1, r16, x15.2.1, x15.2.2.1, x15.2.2.2.1, x15.2.2.2.2.1, x15.2.2.2.2.2)
    else
      Option.bind (queue_Pool_List (x15.2.1, x15.2.2.2.2.2, (x15.2.2.1, x15.2.2.2.1, x15.2.2.2.2.1, ()), ()) x15.1) fun r17 =>
      Option.bind (slices_Contains_int_int r17.2.1 1) fun r18 =>
      k16 (x15.1, x15.1, r18, r17.1.1, r17.1.2.2.1.1, r17.1.2.2.1.2.1, r17.1.2.2.1.2.2.1, r17.1.2.1)
  else
    Option.bind (slices_Contains_int_int [] 1) fun r19 =>
    k16 (x15.1, x15.1, r19, x15.2.1, x15.2.2.1, x15.2.2.2.1, x15.2.2.2.2.1, x15.2.2.2.2.2)
def L24_alive_R9 (k14 : (Int × Int × Int × Int × Bool × (List (Int × Int × Unit)) × Int × Int × Int × (List (Int × Int × Int × Unit))) → Option Bool) (x13 : Int × Int × Int × (List (Int × Int × Unit)) × Int × Int × Int × (List (Int × Int × Int × Unit))) (k15 : (Int × (List (Int × Int × Unit)) × Int × Int × Int × (List (Int × Int × Int × Unit))) → Option Bool) (x16 : Int × Int × Bool × (List (Int × Int × Unit)) × Int × Int × Int × (List (Int × Int × Int × Unit))) : Option Bool :=
  bif x16.2.2.1 then
    k14 (x13.1, x13.2.1, x13.2.2.1, x16.1, true, x16.2.2.2.1, x16.2.2.2.2.1, x16.2.2.2.2.2.1, x16.2.2.2.2.2.2.1, x16.2.2.2.2.2.2.2)
  else
    k15 (IntKind.i64.wrap (x16.2.1 + 1), x16.2.2.2.1, x16.2.2.2.2.1, x16.2.2.2.2.2.1, x16.2.2.2.2.2.2.1, x16.2.2.2.2.2.2.2)
def L24_alive_L6 (k14 : (Int × Int × Int × Int × Bool × (List (Int × Int × Unit)) × Int × Int × Int × (List (Int × Int × Int × Unit))) → Option Bool) (x13 : Int × Int × Int × (List (Int × Int × Unit)) × Int × Int × Int × (List (Int × Int × Int × Unit))) (k15 : (Int × (List (Int × Int × Unit)) × Int × Int × Int × (List (Int × Int × Int × Unit))) → Option Bool) (x15 : Int × (List (Int × Int × Unit)) × Int × Int × Int × (List (Int × Int × Int × Unit))) : Option Bool :=
  bif decide (x15.1 < 2) then
    cutv 9 (L24_alive_C9 x15) (L24_alive_R9 k14 x13 k15)
  else
    L24_alive_J6 k14 x13 x15.2.1 x15.2.2.1 x15.2.2.2.1 x15.2.2.2.2.1 x15.2.2.2.2.2
def L24_alive_C10 (x13 : Int × Int × Int × (List (Int × Int × Unit)) × Int × Int × Int × (List (Int × Int × Int × Unit))) (k14 : (Int × Int × Int × Int × Bool × (List (Int × Int × Unit)) × Int × Int × Int × (List (Int × Int × Int × Unit))) → Option Bool) : Option Bool :=
  loop (L24_alive_L6 k14 x13) (0, x13.2.2.2.1, x13.2.2.2.2.1, x13.2.2.2.2.2.1, x13.2.2.2.2.2.2.1, x13.2.2.2.2.2.2.2)
def L24_alive_J7 (k17 : (Int × Int × Int × Int × Bool × Int × Bool × (List (Int × Int × Unit)) × Int × Int × Int × (List (Int × Int × Int × Unit)) × List Int) → Option Bool) (x14 : Int × Int × Int × Int × Bool × (List (Int × Int × Unit)) × Int × Int × Int × (List (Int × Int × Int × Unit))) (p32 : List (Int × Int × Unit)) (p33 : Int) (p34 : Int) (p35 : Int) (p36 : List (Int × Int × Int × Unit)) (p37 : List Int) : Option Bool :=
  k17 (x14.1, x14.2.1, x14.2.2.1, x14.2.2.2.1, x14.2.2.2.2.1, 0, false, p32, p33, p34, p35, p36, p37)
def L24_alive_C11 (x18 : Int × (List (Int × Int × Unit)) × Int × Int × Int × (List (Int × Int × Int × Unit)) × List Int) (k19 : (Int × Int × Bool × (List (Int × Int × Unit)) × Int × Int × Int × (List (Int × Int × Int × Unit)) × List Int) → Option Bool) : Option Bool :=
  bif decide (x18.1 ≥ 0) then
    bif !(decide (x18.1 < 2)) then
      Option.bind (slices_Contains_int_int [] 1) fun r21 =>
      k19 (x18.1, x18.1, r21, x18.2.1, x18.2.2.1, x18.2.2.2.1, x18.2.2.2.2.1, x18.2.2.2.2.2.1, x18.2.2.2.2.2.2)
    else
      Option.bind (queue_Pool_List (x18.2.1, x18.2.2.2.2.2.1, (x18.2.2.1, x18.2.2.2.1, x18.2.2.2.2.1, ()), ()) x18.1) fun r22 =>
      Option.bind (slices_Contains_int_int r22.2.1 1) fun r23 =>
      k19 (x18.1, x18.1, r23, r22.1.1, r22.1.2.2.1.1, r22.1.2.2.1.2.1, r22.1.2.2.1.2.2.1, r22.1.2.1, x18.2.2.2.2.2.2)
  else
    Option.bind (slices_Contains_int_int [] 1) fun r24 =>
    k19 (x18.1, x18.1, r24, x18.2.1, x18.2.2.1, x18.2.2.2.1, x18.2.2.2.2.1, x18.2.2.2.2.2.1, x18.2.2.2.2.2.2)
def L24_alive_R11 (k17 : (Int × Int × Int × Int × Bool × Int × Bool × (List (Int × Int × Unit)) × Int × Int × Int × (List (Int × Int × Int × Unit)) × List Int) → Option Bool) (x14 : Int × Int × Int × Int × Bool × (List (Int × Int × Unit)) × Int × Int × Int × (List (Int × Int × Int × Unit))) (k18 : (Int × (List (Int × Int × Unit)) × Int × Int × Int × (List (Int × Int × Int × Unit)) × List Int) → Option Bool) (x19 : Int × Int × Bool × (List (Int × Int × Unit)) × Int × Int × Int × (List (Int × Int × Int × Unit)) × List Int) : Option Bool :=
  bif x19.2.2.1 then
    k17 (x14.1, x14.2.1, x14.2.2.1, x14.2.2.2.1, x14.2.2.2.2.1, x19.1, true, x19.2.2.2.1, x19.2.2.2.2.1, x19.2.2.2.2.2.1, x19.2.2.2.2.2.2.1, x19.2.2.2.2.2.2.2.1, x19.2.2.2.2.2.2.2.2)
  else
    k18 (IntKind.i64.wrap (x19.2.1 + 1), x19.2.2.2.1, x19.2.2.2.2.1, x19.2.2.2.2.2.1, x19.2.2.2.2.2.2.1, x19.2.2.2.2.2.2.2.1, x19.2.2.2.2.2.2.2.2)
def L24_alive_L7 (k17 : (Int × Int × Int × Int × Bool × Int × Bool × (List (Int × Int × Unit)) × Int × Int × Int × (List (Int × Int × Int × Unit)) × List Int) → Option Bool) (x14 : Int × Int × Int × Int × Bool × (List (Int × Int × Unit)) × Int × Int × Int × (List (Int × Int × Int × Unit))) (k18 : (Int × (List (Int × Int × Unit)) × Int × Int × Int × (List (Int × Int × Int × Unit)) × List Int) → Option Bool) (x18 : Int × (List (Int × Int × Unit)) × Int × Int × Int × (List (Int × Int × Int × Unit)) × List Int) : Option Bool :=
  bif decide (x18.1 < 2) then
    cutv 11 (L24_alive_C11 x18) (L24_alive_R11 k17 x14 k18)
  else
    L24_alive_J7 k17 x14 x18.2.1 x18.2.2.1 x18.2.2.2.1 x18.2.2.2.2.1 x18.2.2.2.2.2.1 x18.2.2.2.2.2.2
def L24_alive_C12 (x14 : Int × Int × Int × Int × Bool × (List (Int × Int × Unit)) × Int × Int × Int × (List (Int × Int × Int × Unit))) (p27 : List (Int × Int × Unit)) (p28 : Int) (p29 : Int) (p30 : Int) (p31 : List (Int × Int × Int × Unit)) (r20 : ((List (Int × Int × Unit)) × (List (Int × Int × Int × Unit)) × (Int × Int × Int × Unit) × Unit) × ((List Int) × Unit)) (k17 : (Int × Int × Int × Int × Bool × Int × Bool × (List (Int × Int × Unit)) × Int × Int × Int × (List (Int × Int × Int × Unit)) × List Int) → Option Bool) : Option Bool :=
  loop (L24_alive_L7 k17 x14) (0, p27, p28, p29, p30, p31, r20.2.1)
def L24_alive_C13 (x17 : Int × Int × Int × Int × Bool × Int × Bool × (List (Int × Int × Unit)) × Int × Int × Int × (List (Int × Int × Int × Unit)) × List Int) (k21 : ((List (Int × Int × Unit)) × Int × Int × Int × (List (Int × Int × Int × Unit))) → Option Bool) : Option Bool :=
  k21 (x17.2.2.2.2.2.2.2.1, x17.2.2.2.2.2.2.2.2.1, x17.2.2.2.2.2.2.2.2.2.1, x17.2.2.2.2.2.2.2.2.2.2.1, x17.2.2.2.2.2.2.2.2.2.2.2.1)
def L24_alive_C14 (x21 : (List (Int × Int × Unit)) × Int × Int × Int × (List (Int × Int × Int × Unit))) (k22 : List Int → Option Bool) : Option Bool :=
  Option.bind (queue_Pool_List (x21.1, x21.2.2.2.2, (x21.2.1, x21.2.2.1, x21.2.2.2.1, ()), ()) 0) fun r26 =>
  k22 r26.2.1
def L24_alive_R14 (k20 : Bool → Option Bool) (x22 : List Int) : Option Bool :=
  k20 (decide ((x22.length : Int) = 0))
def L24_alive_R13 (k20 : Bool → Option Bool) (x21 : (List (Int × Int × Unit)) × Int × Int × Int × (List (Int × Int × Int × Unit))) : Option Bool :=
  cutv 14 (L24_alive_C14 x21) (L24_alive_R14 k20)
def L24_alive_C15 (x17 : Int × Int × Int × Int × Bool × Int × Bool × (List (Int × Int × Unit)) × Int × Int × Int × (List (Int × Int × Int × Unit)) × List Int) (k20 : Bool → Option Bool) : Option Bool :=
  bif decide (x17.1 = 0) then
    bif decide (x17.2.1 = 0) then
      bif decide (x17.2.2.1 = 7) then
        bif decide (x17.2.2.2.1 = 0) then
          bif x17.2.2.2.2.1 then
            Option.bind (R02_Same x17.2.2.2.2.2.2.2.2.2.2.2.2 [3, 1]) fun r25 =>
            bif r25 then
              bif !x17.2.2.2.2.2.2.1 then
                cutv 13 (L24_alive_C13 x17) (L24_alive_R13 k20)
              else
                k20 false
            else
              k20 false
          else
            k20 false
        else
          k20 false
      else
        k20 false
    else
      k20 false
  else
    k20 false
def L24_alive_R15 (x20 : Bool) : Option Bool :=
  some x20
def L24_alive_R12 (x17 : Int × Int × Int × Int × Bool × Int × Bool × (List (Int × Int × Unit)) × Int × Int × Int × (List (Int × Int × Int × Unit)) × List Int) : Option Bool :=
  cutv 15 (L24_alive_C15 x17) L24_alive_R15
def L24_alive_J8 (x14 : Int × Int × Int × Int × Bool × (List (Int × Int × Unit)) × Int × Int × Int × (List (Int × Int × Int × Unit))) (r20 : ((List (Int × Int × Unit)) × (List (Int × Int × Int × Unit)) × (Int × Int × Int × Unit) × Unit) × ((List Int) × Unit)) (p27 : List (Int × Int × Unit)) (p28 : Int) (p29 : Int) (p30 : Int) (p31 : List (Int × Int × Int × Unit)) : Option Bool :=
  cutv 12 (L24_alive_C12 x14 p27 p28 p29 p30 p31 r20) L24_alive_R12
def L24_alive_J9 (k24 : (Int × Int × Int × Int × Bool × Int × Int × Bool × (List (Int × Int × Unit)) × Int × Int × Int × (List (Int × Int × Int × Unit))) → Option Bool) (x14 : Int × Int × Int × Int × Bool × (List (Int × Int × Unit)) × Int × Int × Int × (List (Int × Int × Int × Unit))) (r27 : ((List (Int × Int × Unit)) × (List (Int × Int × Int × Unit)) × (Int × Int × Int × Unit) × Unit) × (Int × Int × Unit)) (p39 : List (Int × Int × Unit)) (p40 : Int) (p41 : Int) (p42 : Int) (p43 : List (Int × Int × Int × Unit)) : Option Bool :=
  k24 (x14.1, x14.2.1, x14.2.2.1, x14.2.2.2.1, x14.2.2.2.2.1, r27.2.2.1, 0, false, p39, p40, p41, p42, p43)
def L24_alive_C16 (x25 : Int × (List (Int × Int × Unit)) × Int × Int × Int × (List (Int × Int × Int × Unit))) (k26 : (Int × Int × Bool × (List (Int × Int × Unit)) × Int × Int × Int × (List (Int × Int × Int × Unit))) → Option Bool) : Option Bool :=
  bif decide (x25.1 ≥ 0) then
    bif !(decide (x25.1 < 2)) then
      Option.bind (slices_Contains_int_int [] 1) fun r28 =>
      k26 (x25.1, x25.1, r28, x25.2.1, x25.2.2.1, x25.2.2.2.1, x25.2.2.2.2.1, x25.2.2.2.2.2)
    else
      Option.bind (queue_Pool_List (x25.2.1, x25.2.2.2.2.2, (x25.2.2.1, x25.2.2.2.1, x25.2.2.2.2.1, ()), ()) x25.1) fun r29 =>
      Option.bind (slices_Contains_int_int r29.2.1 1) fun r30 =>
      k26 (x25.1, x25.1, r30, r29.1.1, r29.1.2.2.1.1, r29.1.2.2.1.2.1, r29.1.2.2.1.2.2.1, r29.1.2.1)
  else
    Option.bind (slices_Contains_int_int [] 1) fun r31 =>
    k26 (x25.1, x25.1, r31, x25.2.1, x25.2.2.1, x25.2.2.2.1, x25.2.2.2.2.1, x25.2.2.2.2.2)
def L24_alive_R16 (k24 : (Int × Int × Int × Int × Bool × Int × Int × Bool × (List (Int × Int × Unit)) × Int × Int × Int × (List (Int × Int × Int × Unit))) → Option Bool) (x14 : Int × Int × Int × Int × Bool × (List (Int × Int × Unit)) × Int × Int × Int × (List (Int × Int × Int × Unit))) (r27 : ((List (Int × Int × Unit)) × (List (Int × Int × Int × Unit)) × (Int × Int × Int × Unit) × Unit) × (Int × Int × Unit)) (k25 : (Int × (List (Int × Int × Unit)) × Int × Int × Int × (List (Int × Int × Int × Unit))) → Option Bool) (x26 : Int × Int × Bool × (List (Int × Int × Unit)) × Int × Int × Int × (List (Int × Int × Int × Unit))) : Option Bool :=
  bif x26.2.2.1 then
    k24 (x14.1, x14.2.1, x14.2.2.1, x14.2.2.2.1, x14.2.2.2.2.1, r27.2.2.1, x26.1, true, x26.2.2.2.1, x26.2.2.2.2.1, x26.2.2.2.2.2.1, x26.2.2.2.2.2.2.1, x26.2.2.2.2.2.2.2)
  else
    k25 (IntKind.i64.wrap (x26.2.1 + 1), x26.2.2.2.1, x26.2.2.2.2.1, x26.2.2.2.2.2.1, x26.2.2.2.2.2.2.1, x26.2.2.2.2.2.2.2)
def L24_alive_L8 (k24 : (Int × Int × Int × Int × Bool × Int × Int × Bool × (List (Int × Int × Unit)) × Int × Int × Int × (List (Int × Int × Int × Unit))) → Option Bool) (x14 : Int × Int × Int × Int × Bool × (List (Int × Int × Unit)) × Int × Int × Int × (List (Int × Int × Int × Unit))) (r27 : ((List (Int × Int × Unit)) × (List (Int × Int × Int × Unit)) × (Int × Int × Int × Unit) × Unit) × (Int × Int × Unit)) (k25 : (Int × (List (Int × Int × Unit)) × Int × Int × Int × (List (Int × Int × Int × Unit))) → Option Bool) (x25 : Int × (List (Int × Int × Unit)) × Int × Int × Int × (List (Int × Int × Int × Unit))) : Option Bool :=
  bif decide (x25.1 < 2) then
    cutv 16 (L24_alive_C16 x25) (L24_alive_R16 k24 x14 r27 k25)
  else
    L24_alive_J9 k24 x14 r27 x25.2.1 x25.2.2.1 x25.2.2.2.1 x25.2.2.2.2.1 x25.2.2.2.2.2
def L24_alive_C17 (x14 : Int × Int × Int × Int × Bool × (List (Int × Int × Unit)) × Int × Int × Int × (List (Int × Int × Int × Unit))) (r27 : ((List (Int × Int × Unit)) × (List (Int × Int × Int × Unit)) × (Int × Int × Int × Unit) × Unit) × (Int × Int × Unit)) (k24 : (Int × Int × Int × Int × Bool × Int × Int × Bool × (List (Int × Int × Unit)) × Int × Int × Int × (List (Int × Int × Int × Unit))) → Option Bool) : Option Bool :=
  loop (L24_alive_L8 k24 x14 r27) (0, r27.1.1, r27.1.2.2.1.1, r27.1.2.2.1.2.1, r27.1.2.2.1.2.2.1, r27.1.2.1)
def L24_alive_C18 (x24 : Int × Int × Int × Int × Bool × Int × Int × Bool × (List (Int × Int × Unit)) × Int × Int × Int × (List (Int × Int × Int × Unit))) (k28 : ((List (Int × Int × Unit)) × Int × Int × Int × (List (Int × Int × Int × Unit))) → Option Bool) : Option Bool :=
  k28 (x24.2.2.2.2.2.2.2.2.1, x24.2.2.2.2.2.2.2.2.2.1, x24.2.2.2.2.2.2.2.2.2.2.1, x24.2.2.2.2.2.2.2.2.2.2.2.1, x24.2.2.2.2.2.2.2.2.2.2.2.2)
def L24_alive_C19 (x28 : (List (Int × Int × Unit)) × Int × Int × Int × (List (Int × Int × Int × Unit))) (k29 : List Int → Option Bool) : Option Bool :=
  Option.bind (queue_Pool_List (x28.1, x28.2.2.2.2, (x28.2.1, x28.2.2.1, x28.2.2.2.1, ()), ()) 0) fun r33 =>
  k29 r33.2.1
def L24_alive_R19 (k27 : Bool → Option Bool) (x29 : List Int) : Option Bool :=
  k27 (decide ((x29.length : Int) = 0))
def L24_alive_R18 (k27 : Bool → Option Bool) (x28 : (List (Int × Int × Unit)) × Int × Int × Int × (List (Int × Int × Int × Unit))) : Option Bool :=
  cutv 19 (L24_alive_C19 x28) (L24_alive_R19 k27)
def L24_alive_C20 (x24 : Int × Int × Int × Int × Bool × Int × Int × Bool × (List (Int × Int × Unit)) × Int × Int × Int × (List (Int × Int × Int × Unit))) (k27 : Bool → Option Bool) : Option Bool :=
  bif decide (x24.1 = 0) then
    bif decide (x24.2.1 = 0) then
      bif decide (x24.2.2.1 = 7) then
        bif decide (x24.2.2.2.1 = 0) then
          bif x24.2.2.2.2.1 then
            Option.bind (R02_Same [] [3, 1]) fun r32 =>
            bif r32 then
              bif decide (x24.2.2.2.2.2.1 = 0) then
                bif !x24.2.2.2.2.2.2.2.1 then
                  cutv 18 (L24_alive_C18 x24) (L24_alive_R18 k27)
                else
                  k27 false
              else
                k27 false
            else
              k27 false
          else
            k27 false
        else
          k27 false
      else
        k27 false
    else
      k27 false
  else
    k27 false
def L24_alive_R20 (x27 : Bool) : Option Bool :=
  some x27
def L24_alive_R17 (x24 : Int × Int × Int × Int × Bool × Int × Int × Bool × (List (Int × Int × Unit)) × Int × Int × Int × (List (Int × Int × Int × Unit))) : Option Bool :=
  cutv 20 (L24_alive_C20 x24) L24_alive_R20
def L24_alive_L9 (p38 : Int) (x14 : Int × Int × Int × Int × Bool × (List (Int × Int × Unit)) × Int × Int × Int × (List (Int × Int × Int × Unit))) (r20 : ((List (Int × Int × Unit)) × (List (Int × Int × Int × Unit)) × (Int × Int × Int × Unit) × Unit) × ((List Int) × Unit)) (k23 : (Int × (List (Int × Int × Unit)) × Int × Int × Int × (List (Int × Int × Int × Unit))) → Option Bool) (x23 : Int × (List (Int × Int × Unit)) × Int × Int × Int × (List (Int × Int × Int × Unit))) : Option Bool :=
  bif decide (x23.1 < p38) then
    Option.bind (queue_Pool_Pop (x23.2.1, x23.2.2.2.2.2, (x23.2.2.1, x23.2.2.2.1, x23.2.2.2.2.1, ()), ()) 0) fun r27 =>
    bif !decide (r27.2.2.1 = 0) then
      cutv 17 (L24_alive_C17 x14 r27) L24_alive_R17
    else
      k23 (IntKind.i64.wrap (x23.1 + 1), r27.1.1, r27.1.2.2.1.1, r27.1.2.2.1.2.1, r27.1.2.2.1.2.2.1, r27.1.2.1)
  else
    L24_alive_J8 x14 r20 x23.2.1 x23.2.2.1 x23.2.2.2.1 x23.2.2.2.2.1 x23.2.2.2.2.2
def L24_alive_R10 (x14 : Int × Int × Int × Int × Bool × (List (Int × Int × Unit)) × Int × Int × Int × (List (Int × Int × Int × Unit))) : Option Bool :=
  Option.bind (queue_Pool_List (x14.2.2.2.2.2.1, x14.2.2.2.2.2.2.2.2.2, (x14.2.2.2.2.2.2.1, x14.2.2.2.2.2.2.2.1, x14.2.2.2.2.2.2.2.2.1, ()), ()) 0) fun r20 =>
  loop (L24_alive_L9 (r20.2.1.length : Int) x14 r20) (0, r20.1.1, r20.1.2.2.1.1, r20.1.2.2.1.2.1, r20.1.2.2.1.2.2.1, r20.1.2.1)
def L24_alive_R8 (x13 : Int × Int × Int × (List (Int × Int × Unit)) × Int × Int × Int × (List (Int × Int × Int × Unit))) : Option Bool :=
  cutv 10 (L24_alive_C10 x13) L24_alive_R10
def L24_alive_R7 (x10 : Int × Int × Int × (List (Int × Int × Unit)) × Int × Int × Int × (List (Int × Int × Int × Unit))) : Option Bool :=
  cutv 8 (L24_alive_C8 x10) L24_alive_R8
def L24_alive_R5 (x7 : Int × Int × (List (Int × Int × Unit)) × Int × Int × Int × (List (Int × Int × Int × Unit))) : Option Bool :=
  cutv 7 (L24_alive_C7 x7) L24_alive_R7
def L24_alive_R3 (x4 : Int × (List (Int × Int × Unit)) × Int × Int × Int × (List (Int × Int × Int × Unit))) : Option Bool :=
  cutv 5 (L24_alive_C5 x4) L24_alive_R5
def L24_alive_R1 (x1 : (List (Int × Int × Unit)) × Int × Int × Int × (List (Int × Int × Int × Unit))) : Option Bool :=
  cutv 3 (L24_alive_C3 x1) L24_alive_R3
def L24_alive : Option Bool :=
  cutv 1 L24_alive_C1 L24_alive_R1
end Go.Proofs.YtiicmhholjpcbaaV
