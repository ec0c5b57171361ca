import Derived.Test.YtiicmhholjpcbaaVcMt
import Derived.Test.YtiicmhholjpcbaaDL24
import Derived.Test.YtiicmhholjpcbaaDqueue
import Derived.Test.YtiicmhholjpcbaaDslices
namespace Go.Proofs.YtiicmhholjpcbaaV
set_option linter.unusedVariables false
def L24_BucketOnce_J1 (k1 : (List (List Int) × (List (Int × Int × Unit)) × Int × Int × Int × (List (Int × Int × Int × Unit))) → Option Bool) (a0 : List (List Int)) (p1 : List (Int × Int × Int × Unit)) (p2 : List (Int × Int × Unit)) (p3 : Int) (p4 : Int) (p5 : Int) : Option Bool :=
  k1 (a0, p2, p3, p4, p5, p1)
def L24_BucketOnce_L1 (p6 : Int) (k1 : (List (List Int) × (List (Int × Int × Unit)) × Int × Int × Int × (List (Int × Int × Int × Unit))) → Option Bool) (a0 : List (List Int)) (p1 : List (Int × Int × Int × Unit)) (k2 : (Int × (List (Int × Int × Unit)) × Int × Int × Int) → Option Bool) (x2 : Int × (List (Int × Int × Unit)) × Int × Int × Int) : Option Bool :=
  bif decide (x2.1 < p6) then
    chk (0 ≤ x2.1 ∧ x2.1 < (x2.2.1.length : Int)) <|
    letv (x2.2.1.set x2.1.toNat ((x2.2.1.getD x2.1.toNat (0, 0, ())).1, (-1), ())) fun l2 =>
    bif decide (x2.2.2.2.2 = 0) then
      k2 (IntKind.i64.wrap (x2.1 + 1), l2, x2.1, x2.1, IntKind.i64.wrap (x2.2.2.2.2 + 1))
    else
      chk (0 ≤ x2.2.2.2.1 ∧ x2.2.2.2.1 < (l2.length : Int)) <|
      letv (l2.set x2.2.2.2.1.toNat ((l2.getD x2.2.2.2.1.toNat (0, 0, ())).1, x2.1, ())) fun l3 =>
      k2 (IntKind.i64.wrap (x2.1 + 1), l3, x2.2.2.1, x2.1, IntKind.i64.wrap (x2.2.2.2.2 + 1))
  else
    L24_BucketOnce_J1 k1 a0 p1 x2.2.1 x2.2.2.1 x2.2.2.2.1 x2.2.2.2.2
def L24_BucketOnce_J2 (l1 : List (Int × Int × Unit)) (k1 : (List (List Int) × (List (Int × Int × Unit)) × Int × Int × Int × (List (Int × Int × Int × Unit))) → Option Bool) (a0 : List (List Int)) (p1 : List (Int × Int × Int × Unit)) : Option Bool :=
  loop (L24_BucketOnce_L1 (l1.length : Int) k1 a0 p1) (0, l1, (-1), (-1), 0)
def L24_BucketOnce_L2 (l1 : List (Int × Int × Unit)) (k1 : (List (List Int) × (List (Int × Int × Unit)) × Int × Int × Int × (List (Int × Int × Int × Unit))) → Option Bool) (a0 : List (List Int)) (k3 : (Int × (List (Int × Int × Int × Unit))) → Option Bool) (x3 : Int × (List (Int × Int × Int × Unit))) : Option Bool :=
  bif decide (x3.1 < 5) then
    chk (x3.2.length + ([((-1), (-1), 0, ())] : List (Int × Int × Int × Unit)).length ≤ 4294967296) <|
    k3 (IntKind.i64.wrap (x3.1 + 1), x3.2 ++ [((-1), (-1), 0, ())])
  else
    L24_BucketOnce_J2 l1 k1 a0 x3.2
def L24_BucketOnce_C1 (a0 : List (List Int)) (k1 : (List (List Int) × (List (Int × Int × Unit)) × Int × Int × Int × (List (Int × Int × Int × Unit))) → Option Bool) : Option Bool :=
  chk ((16 : Int) = (16 : Int) ∧ 0 ≤ (16 : Int) ∧ (16 : Int) ≤ 4294967296) <|
  letv (List.replicate (16 : Int).toNat (0, 0, ())) fun l1 =>
  loop (L24_BucketOnce_L2 l1 k1 a0) (0, [])
def L24_BucketOnce_J3 : Option Bool :=
  Option.bind (L24_alive) fun r2 =>
  some r2
def L24_BucketOnce_C2 (v1 : Int) (v2 : Int) (x4 : List (List Int) × Int × Int × List Int × List Int × (List (Int × Int × Unit)) × Int × Int × Int × (List (Int × Int × Int × Unit))) (k7 : (Int × Int × Bool × List Int × List Int × (List (Int × Int × Unit)) × Int × Int × Int × (List (Int × Int × Int × Unit))) → Option Bool) : Option Bool :=
  bif decide (v1 ≥ 0) then
    bif !(decide (v1 < 4)) then
      k7 (v1, v2, true, x4.2.2.2.1, x4.2.2.2.2.1, x4.2.2.2.2.2.1, x4.2.2.2.2.2.2.1, x4.2.2.2.2.2.2.2.1, x4.2.2.2.2.2.2.2.2.1, x4.2.2.2.2.2.2.2.2.2)
    else
      bif decide (v2 < 0) then
        k7 (v1, v2, true, x4.2.2.2.1, x4.2.2.2.2.1, x4.2.2.2.2.2.1, x4.2.2.2.2.2.2.1, x4.2.2.2.2.2.2.2.1, x4.2.2.2.2.2.2.2.2.1, x4.2.2.2.2.2.2.2.2.2)
      else
        k7 (v1, v2, decide (v2 ≥ 16), x4.2.2.2.1, x4.2.2.2.2.1, x4.2.2.2.2.2.1, x4.2.2.2.2.2.2.1, x4.2.2.2.2.2.2.2.1, x4.2.2.2.2.2.2.2.2.1, x4.2.2.2.2.2.2.2.2.2)
  else
    k7 (v1, v2, true, x4.2.2.2.1, x4.2.2.2.2.1, x4.2.2.2.2.2.1, x4.2.2.2.2.2.2.1, x4.2.2.2.2.2.2.2.1, x4.2.2.2.2.2.2.2.2.1, x4.2.2.2.2.2.2.2.2.2)
def L24_BucketOnce_J4 (x7 : Int × Int × Bool × List Int × List Int × (List (Int × Int × Unit)) × Int × Int × Int × (List (Int × Int × Int × Unit))) (k6 : (Int × Int × Int × List (List Int) × Int × Int × Int × List Int × List Int × (List (Int × Int × Unit)) × Int × Int × Int × (List (Int × Int × Int × Unit))) → Option Bool) (x4 : List (List Int) × Int × Int × List Int × List Int × (List (Int × Int × Unit)) × Int × Int × Int × (List (Int × Int × Int × Unit))) (v1 : Int) (v2 : Int) (p7 : List Int) (p8 : List Int) (p9 : List (Int × Int × Unit)) (p10 : Int) (p11 : Int) (p12 : Int) (p13 : List (Int × Int × Int × Unit)) : Option Bool :=
  Option.bind (queue_Pool_Push (p9, p13, (p10, p11, p12, ()), ()) x7.1 x7.2.1) fun r3 =>
  k6 (x4.2.2.1, v1, v2, x4.1, x4.2.1, x4.2.2.1, r3.2.1, p7, p8, r3.1.1, r3.1.2.2.1.1, r3.1.2.2.1.2.1, r3.1.2.2.1.2.2.1, r3.1.2.1)
def L24_BucketOnce_C3 (x8 : Int × Int × List Int × List Int × (List (Int × Int × Unit)) × Int × Int × Int × (List (Int × Int × Int × Unit))) (k9 : (Int × Int × Int × Bool × List Int × List Int × (List (Int × Int × Unit)) × Int × Int × Int × (List (Int × Int × Int × Unit))) → Option Bool) : Option Bool :=
  bif decide (x8.2.1 ≥ 0) then
    bif !(decide (x8.2.1 < 4)) then
      Option.bind (slices_Contains_int_int [] x8.1) fun r4 =>
      k9 (x8.1, x8.2.1, x8.2.1, r4, x8.2.2.1, x8.2.2.2.1, x8.2.2.2.2.1, x8.2.2.2.2.2.1, x8.2.2.2.2.2.2.1, x8.2.2.2.2.2.2.2.1, x8.2.2.2.2.2.2.2.2)
    else
      Option.bind (queue_Pool_List (x8.2.2.2.2.1, x8.2.2.2.2.2.2.2.2, (x8.2.2.2.2.2.1, x8.2.2.2.2.2.2.1, x8.2.2.2.2.2.2.2.1, ()), ()) x8.2.1) fun r5 =>
      Option.bind (slices_Contains_int_int r5.2.1 x8.1) fun r6 =>
      k9 (x8.1, x8.2.1, x8.2.1, r6, x8.2.2.1, x8.2.2.2.1, r5.1.1, r5.1.2.2.1.1, r5.1.2.2.1.2.1, r5.1.2.2.1.2.2.1, r5.1.2.1)
  else
    Option.bind (slices_Contains_int_int [] x8.1) fun r7 =>
    k9 (x8.1, x8.2.1, x8.2.1, r7, x8.2.2.1, x8.2.2.2.1, x8.2.2.2.2.1, x8.2.2.2.2.2.1, x8.2.2.2.2.2.2.1, x8.2.2.2.2.2.2.2.1, x8.2.2.2.2.2.2.2.2)
def L24_BucketOnce_R3 (k6 : (Int × Int × Int × List (List Int) × Int × Int × Int × List Int × List Int × (List (Int × Int × Unit)) × Int × Int × Int × (List (Int × Int × Int × Unit))) → Option Bool) (x4 : List (List Int) × Int × Int × List Int × List Int × (List (Int × Int × Unit)) × Int × Int × Int × (List (Int × Int × Int × Unit))) (v1 : Int) (v2 : Int) (k8 : (Int × Int × List Int × List Int × (List (Int × Int × Unit)) × Int × Int × Int × (List (Int × Int × Int × Unit))) → Option Bool) (x9 : Int × Int × Int × Bool × List Int × List Int × (List (Int × Int × Unit)) × Int × Int × Int × (List (Int × Int × Int × Unit))) : Option Bool :=
  bif x9.2.2.2.1 then
    k6 (x4.2.2.1, v1, v2, x4.1, x4.2.1, x4.2.2.1, 7, x9.2.2.2.2.1, x9.2.2.2.2.2.1, x9.2.2.2.2.2.2.1, x9.2.2.2.2.2.2.2.1, x9.2.2.2.2.2.2.2.2.1, x9.2.2.2.2.2.2.2.2.2.1, x9.2.2.2.2.2.2.2.2.2.2)
  else
    k8 (x9.1, IntKind.i64.wrap (x9.2.2.1 + 1), x9.2.2.2.2.1, x9.2.2.2.2.2.1, x9.2.2.2.2.2.2.1, x9.2.2.2.2.2.2.2.1, x9.2.2.2.2.2.2.2.2.1, x9.2.2.2.2.2.2.2.2.2.1, x9.2.2.2.2.2.2.2.2.2.2)
def L24_BucketOnce_L3 (k6 : (Int × Int × Int × List (List Int) × Int × Int × Int × List Int × List Int × (List (Int × Int × Unit)) × Int × Int × Int × (List (Int × Int × Int × Unit))) → Option Bool) (x4 : List (List Int) × Int × Int × List Int × List Int × (List (Int × Int × Unit)) × Int × Int × Int × (List (Int × Int × Int × Unit))) (v1 : Int) (v2 : Int) (x7 : Int × Int × Bool × List Int × List Int × (List (Int × Int × Unit)) × Int × Int × Int × (List (Int × Int × Int × Unit))) (k8 : (Int × Int × List Int × List Int × (List (Int × Int × Unit)) × Int × Int × Int × (List (Int × Int × Int × Unit))) → Option Bool) (x8 : Int × Int × List Int × List Int × (List (Int × Int × Unit)) × Int × Int × Int × (List (Int × Int × Int × Unit))) : Option Bool :=
  bif decide (x8.2.1 < 4) then
    cutv 3 (L24_BucketOnce_C3 x8) (L24_BucketOnce_R3 k6 x4 v1 v2 k8)
  else
    L24_BucketOnce_J4 x7 k6 x4 v1 v2 x8.2.2.1 x8.2.2.2.1 x8.2.2.2.2.1 x8.2.2.2.2.2.1 x8.2.2.2.2.2.2.1 x8.2.2.2.2.2.2.2.1 x8.2.2.2.2.2.2.2.2
def L24_BucketOnce_R2 (k6 : (Int × Int × Int × List (List Int) × Int × Int × Int × List Int × List Int × (List (Int × Int × Unit)) × Int × Int × Int × (List (Int × Int × Int × Unit))) → Option Bool) (x4 : List (List Int) × Int × Int × List Int × List Int × (List (Int × Int × Unit)) × Int × Int × Int × (List (Int × Int × Int × Unit))) (v1 : Int) (v2 : Int) (x7 : Int × Int × Bool × List Int × List Int × (List (Int × Int × Unit)) × Int × Int × Int × (List (Int × Int × Int × Unit))) : Option Bool :=
  bif x7.2.2.1 then
    k6 (x4.2.2.1, v1, v2, x4.1, x4.2.1, x4.2.2.1, 8, x7.2.2.2.1, x7.2.2.2.2.1, x7.2.2.2.2.2.1, x7.2.2.2.2.2.2.1, x7.2.2.2.2.2.2.2.1, x7.2.2.2.2.2.2.2.2.1, x7.2.2.2.2.2.2.2.2.2)
  else
    loop (L24_BucketOnce_L3 k6 x4 v1 v2 x7) (x7.2.1, 0, x7.2.2.2.1, x7.2.2.2.2.1, x7.2.2.2.2.2.1, x7.2.2.2.2.2.2.1, x7.2.2.2.2.2.2.2.1, x7.2.2.2.2.2.2.2.2.1, x7.2.2.2.2.2.2.2.2.2)
def L24_BucketOnce_C4 (v1 : Int) (v2 : Int) (x4 : List (List Int) × Int × Int × List Int × List Int × (List (Int × Int × Unit)) × Int × Int × Int × (List (Int × Int × Int × Unit))) (k6 : (Int × Int × Int × List (List Int) × Int × Int × Int × List Int × List Int × (List (Int × Int × Unit)) × Int × Int × Int × (List (Int × Int × Int × Unit))) → Option Bool) : Option Bool :=
  cutv 2 (L24_BucketOnce_C2 v1 v2 x4) (L24_BucketOnce_R2 k6 x4 v1 v2)
def L24_BucketOnce_R4 (k5 : (List (List Int) × Int × Int × List Int × List Int × (List (Int × Int × Unit)) × Int × Int × Int × (List (Int × Int × Int × Unit))) → Option Bool) (x6 : Int × Int × Int × List (List Int) × Int × Int × Int × List Int × List Int × (List (Int × Int × Unit)) × Int × Int × Int × (List (Int × Int × Int × Unit))) : Option Bool :=
  chk (0 ≤ x6.2.2.1 ∧ x6.2.2.1 < (16 : Int)) <|
  bif !((decide (x6.2.2.2.2.2.2.1 = 0)) == (decide ((x6.2.2.2.2.2.2.2.1.getD x6.2.2.1.toNat 0) = 0))) then
    some false
  else
    bif decide (x6.2.2.2.2.2.2.1 = 0) then
      chk (0 ≤ x6.2.2.1 ∧ x6.2.2.1 < (16 : Int)) <|
      chk (0 ≤ x6.2.2.1 ∧ x6.2.2.1 < (16 : Int)) <|
      k5 (x6.2.2.2.1, x6.2.2.2.2.1, x6.2.2.2.2.2.1, x6.2.2.2.2.2.2.2.1.set x6.2.2.1.toNat (IntKind.i64.wrap (x6.1 + 1)), x6.2.2.2.2.2.2.2.2.1.set x6.2.2.1.toNat x6.2.1, x6.2.2.2.2.2.2.2.2.2.1, x6.2.2.2.2.2.2.2.2.2.2.1, x6.2.2.2.2.2.2.2.2.2.2.2.1, x6.2.2.2.2.2.2.2.2.2.2.2.2.1, x6.2.2.2.2.2.2.2.2.2.2.2.2.2)
    else
      k5 (x6.2.2.2.1, x6.2.2.2.2.1, x6.2.2.2.2.2.1, x6.2.2.2.2.2.2.2.1, x6.2.2.2.2.2.2.2.2.1, x6.2.2.2.2.2.2.2.2.2.1, x6.2.2.2.2.2.2.2.2.2.2.1, x6.2.2.2.2.2.2.2.2.2.2.2.1, x6.2.2.2.2.2.2.2.2.2.2.2.2.1, x6.2.2.2.2.2.2.2.2.2.2.2.2.2)
def L24_BucketOnce_J5 (k5 : (List (List Int) × Int × Int × List Int × List Int × (List (Int × Int × Unit)) × Int × Int × Int × (List (Int × Int × Int × Unit))) → Option Bool) (x4 : List (List Int) × Int × Int × List Int × List Int × (List (Int × Int × Unit)) × Int × Int × Int × (List (Int × Int × Int × Unit))) : Option Bool :=
  k5 (x4.1, x4.2.1, x4.2.2.1, x4.2.2.2.1, x4.2.2.2.2.1, x4.2.2.2.2.2.1, x4.2.2.2.2.2.2.1, x4.2.2.2.2.2.2.2.1, x4.2.2.2.2.2.2.2.2.1, x4.2.2.2.2.2.2.2.2.2)
def L24_BucketOnce_L4 (x4 : List (List Int) × Int × Int × List Int × List Int × (List (Int × Int × Unit)) × Int × Int × Int × (List (Int × Int × Int × Unit))) (v1 : Int) (k5 : (List (List Int) × Int × Int × List Int × List Int × (List (Int × Int × Unit)) × Int × Int × Int × (List (Int × Int × Int × Unit))) → Option Bool) (k10 : Int → Option Bool) (x10 : Int) : Option Bool :=
  bif decide (x10 < 16) then
    chk (0 ≤ x10 ∧ x10 < (16 : Int)) <|
    bif decide ((x4.2.2.2.1.getD x10.toNat 0) > 0) then
      chk (0 ≤ x10 ∧ x10 < (16 : Int)) <|
      bif decide ((x4.2.2.2.2.1.getD x10.toNat 0) = v1) then
        some false
      else
        k10 (IntKind.i64.wrap (x10 + 1))
    else
      k10 (IntKind.i64.wrap (x10 + 1))
  else
    L24_BucketOnce_J5 k5 x4
def L24_BucketOnce_J6 (x4 : List (List Int) × Int × Int × List Int × List Int × (List (Int × Int × Unit)) × Int × Int × Int × (List (Int × Int × Int × Unit))) (v1 : Int) (k5 : (List (List Int) × Int × Int × List Int × List Int × (List (Int × Int × Unit)) × Int × Int × Int × (List (Int × Int × Int × Unit))) → Option Bool) : Option Bool :=
  loop (L24_BucketOnce_L4 x4 v1 k5) 0
def L24_BucketOnce_L5 (x4 : List (List Int) × Int × Int × List Int × List Int × (List (Int × Int × Unit)) × Int × Int × Int × (List (Int × Int × Int × Unit))) (v1 : Int) (k5 : (List (List Int) × Int × Int × List Int × List Int × (List (Int × Int × Unit)) × Int × Int × Int × (List (Int × Int × Int × Unit))) → Option Bool) (k11 : Unit → Option Bool) (x11 : Unit) : Option Bool :=
  L24_BucketOnce_J6 x4 v1 k5
def L24_BucketOnce_J7 (x4 : List (List Int) × Int × Int × List Int × List Int × (List (Int × Int × Unit)) × Int × Int × Int × (List (Int × Int × Int × Unit))) (v1 : Int) (k5 : (List (List Int) × Int × Int × List Int × List Int × (List (Int × Int × Unit)) × Int × Int × Int × (List (Int × Int × Int × Unit))) → Option Bool) : Option Bool :=
  loop (L24_BucketOnce_L5 x4 v1 k5) ()
def L24_BucketOnce_L6 (x4 : List (List Int) × Int × Int × List Int × List Int × (List (Int × Int × Unit)) × Int × Int × Int × (List (Int × Int × Int × Unit))) (v1 : Int) (k5 : (List (List Int) × Int × Int × List Int × List Int × (List (Int × Int × Unit)) × Int × Int × Int × (List (Int × Int × Int × Unit))) → Option Bool) (k12 : Unit → Option Bool) (x12 : Unit) : Option Bool :=
  L24_BucketOnce_J7 x4 v1 k5
def L24_BucketOnce_J8 (k5 : (List (List Int) × Int × Int × List Int × List Int × (List (Int × Int × Unit)) × Int × Int × Int × (List (Int × Int × Int × Unit))) → Option Bool) (x4 : List (List Int) × Int × Int × List Int × List Int × (List (Int × Int × Unit)) × Int × Int × Int × (List (Int × Int × Int × Unit))) (p19 : List Int) (p14 : List (Int × Int × Unit)) (p15 : Int) (p16 : Int) (p17 : Int) (p18 : List (Int × Int × Int × Unit)) : Option Bool :=
  k5 (x4.1, x4.2.1, x4.2.2.1, p19, x4.2.2.2.2.1, p14, p15, p16, p17, p18)
def L24_BucketOnce_L7 (p19 : List Int) (x4 : List (List Int) × Int × Int × List Int × List Int × (List (Int × Int × Unit)) × Int × Int × Int × (List (Int × Int × Int × Unit))) (v1 : Int) (k5 : (List (List Int) × Int × Int × List Int × List Int × (List (Int × Int × Unit)) × Int × Int × Int × (List (Int × Int × Int × Unit))) → Option Bool) (p14 : List (Int × Int × Unit)) (p15 : Int) (p16 : Int) (p17 : Int) (p18 : List (Int × Int × Int × Unit)) (k13 : Int → Option Bool) (x13 : Int) : Option Bool :=
  bif decide (x13 < 16) then
    chk (0 ≤ x13 ∧ x13 < (16 : Int)) <|
    bif decide ((p19.getD x13.toNat 0) > 0) then
      chk (0 ≤ x13 ∧ x13 < (16 : Int)) <|
      bif decide ((x4.2.2.2.2.1.getD x13.toNat 0) = v1) then
        some false
      else
        k13 (IntKind.i64.wrap (x13 + 1))
    else
      k13 (IntKind.i64.wrap (x13 + 1))
  else
    L24_BucketOnce_J8 k5 x4 p19 p14 p15 p16 p17 p18
def L24_BucketOnce_J9 (x4 : List (List Int) × Int × Int × List Int × List Int × (List (Int × Int × Unit)) × Int × Int × Int × (List (Int × Int × Int × Unit))) (v1 : Int) (k5 : (List (List Int) × Int × Int × List Int × List Int × (List (Int × Int × Unit)) × Int × Int × Int × (List (Int × Int × Int × Unit))) → Option Bool) (p14 : List (Int × Int × Unit)) (p15 : Int) (p16 : Int) (p17 : Int) (p18 : List (Int × Int × Int × Unit)) (p19 : List Int) : Option Bool :=
  loop (L24_BucketOnce_L7 p19 x4 v1 k5 p14 p15 p16 p17 p18) 0
def L24_BucketOnce_L8 (p20 : Int) (r8 : ((List (Int × Int × Unit)) × (List (Int × Int × Int × Unit)) × (Int × Int × Int × Unit) × Unit) × ((List Int) × Unit)) (x4 : List (List Int) × Int × Int × List Int × List Int × (List (Int × Int × Unit)) × Int × Int × Int × (List (Int × Int × Int × Unit))) (v1 : Int) (k5 : (List (List Int) × Int × Int × List Int × List Int × (List (Int × Int × Unit)) × Int × Int × Int × (List (Int × Int × Int × Unit))) → Option Bool) (p14 : List (Int × Int × Unit)) (p15 : Int) (p16 : Int) (p17 : Int) (p18 : List (Int × Int × Int × Unit)) (k14 : (Int × Int × List Int) → Option Bool) (x14 : Int × Int × List Int) : Option Bool :=
  bif decide (x14.2.1 < p20) then
    chk (0 ≤ x14.2.1 ∧ x14.2.1 < (r8.2.1.length : Int)) <|
    bif decide ((r8.2.1.getD x14.2.1.toNat 0) < 0) then
      some false
    else
      bif decide ((r8.2.1.getD x14.2.1.toNat 0) > 15) then
        some false
      else
        chk (0 ≤ (r8.2.1.getD x14.2.1.toNat 0) ∧ (r8.2.1.getD x14.2.1.toNat 0) < (16 : Int)) <|
        bif decide ((x14.2.2.getD (r8.2.1.getD x14.2.1.toNat 0).toNat 0) ≤ x14.1) then
          some false
        else
          chk (0 ≤ (r8.2.1.getD x14.2.1.toNat 0) ∧ (r8.2.1.getD x14.2.1.toNat 0) < (16 : Int)) <|
          bif !decide ((x4.2.2.2.2.1.getD (r8.2.1.getD x14.2.1.toNat 0).toNat 0) = v1) then
            some false
          else
            chk (0 ≤ (r8.2.1.getD x14.2.1.toNat 0) ∧ (r8.2.1.getD x14.2.1.toNat 0) < (16 : Int)) <|
            letv (x14.2.2.getD (r8.2.1.getD x14.2.1.toNat 0).toNat 0) fun v3 =>
            chk (0 ≤ (r8.2.1.getD x14.2.1.toNat 0) ∧ (r8.2.1.getD x14.2.1.toNat 0) < (16 : Int)) <|
            k14 (v3, IntKind.i64.wrap (x14.2.1 + 1), x14.2.2.set (r8.2.1.getD x14.2.1.toNat 0).toNat 0)
  else
    L24_BucketOnce_J9 x4 v1 k5 p14 p15 p16 p17 p18 x14.2.2
def L24_BucketOnce_J10 (r8 : ((List (Int × Int × Unit)) × (List (Int × Int × Int × Unit)) × (Int × Int × Int × Unit) × Unit) × ((List Int) × Unit)) (x4 : List (List Int) × Int × Int × List Int × List Int × (List (Int × Int × Unit)) × Int × Int × Int × (List (Int × Int × Int × Unit))) (v1 : Int) (k5 : (List (List Int) × Int × Int × List Int × List Int × (List (Int × Int × Unit)) × Int × Int × Int × (List (Int × Int × Int × Unit))) → Option Bool) (p14 : List (Int × Int × Unit)) (p15 : Int) (p16 : Int) (p17 : Int) (p18 : List (Int × Int × Int × Unit)) : Option Bool :=
  loop (L24_BucketOnce_L8 (r8.2.1.length : Int) r8 x4 v1 k5 p14 p15 p16 p17 p18) (0, 0, x4.2.2.2.1)
def L24_BucketOnce_J11 (k5 : (List (List Int) × Int × Int × List Int × List Int × (List (Int × Int × Unit)) × Int × Int × Int × (List (Int × Int × Int × Unit))) → Option Bool) (x4 : List (List Int) × Int × Int × List Int × List Int × (List (Int × Int × Unit)) × Int × Int × Int × (List (Int × Int × Int × Unit))) (r9 : ((List (Int × Int × Unit)) × (List (Int × Int × Int × Unit)) × (Int × Int × Int × Unit) × Unit) × (Int × Int × Unit)) : Option Bool :=
  k5 (x4.1, x4.2.1, x4.2.2.1, x4.2.2.2.1, x4.2.2.2.2.1, r9.1.1, r9.1.2.2.1.1, r9.1.2.2.1.2.1, r9.1.2.2.1.2.2.1, r9.1.2.1)
def L24_BucketOnce_L9 (x4 : List (List Int) × Int × Int × List Int × List Int × (List (Int × Int × Unit)) × Int × Int × Int × (List (Int × Int × Int × Unit))) (v1 : Int) (k5 : (List (List Int) × Int × Int × List Int × List Int × (List (Int × Int × Unit)) × Int × Int × Int × (List (Int × Int × Int × Unit))) → Option Bool) (r9 : ((List (Int × Int × Unit)) × (List (Int × Int × Int × Unit)) × (Int × Int × Int × Unit) × Unit) × (Int × Int × Unit)) (k16 : Int → Option Bool) (x16 : Int) : Option Bool :=
  bif decide (x16 < 16) then
    chk (0 ≤ x16 ∧ x16 < (16 : Int)) <|
    bif decide ((x4.2.2.2.1.getD x16.toNat 0) > 0) then
      chk (0 ≤ x16 ∧ x16 < (16 : Int)) <|
      bif decide ((x4.2.2.2.2.1.getD x16.toNat 0) = v1) then
        some false
      else
        k16 (IntKind.i64.wrap (x16 + 1))
    else
      k16 (IntKind.i64.wrap (x16 + 1))
  else
    L24_BucketOnce_J11 k5 x4 r9
def L24_BucketOnce_J12 (x4 : List (List Int) × Int × Int × List Int × List Int × (List (Int × Int × Unit)) × Int × Int × Int × (List (Int × Int × Int × Unit))) (v1 : Int) (k5 : (List (List Int) × Int × Int × List Int × List Int × (List (Int × Int × Unit)) × Int × Int × Int × (List (Int × Int × Int × Unit))) → Option Bool) (r9 : ((List (Int × Int × Unit)) × (List (Int × Int × Int × Unit)) × (Int × Int × Int × Unit) × Unit) × (Int × Int × Unit)) : Option Bool :=
  loop (L24_BucketOnce_L9 x4 v1 k5 r9) 0
def L24_BucketOnce_L10 (x4 : List (List Int) × Int × Int × List Int × List Int × (List (Int × Int × Unit)) × Int × Int × Int × (List (Int × Int × Int × Unit))) (v1 : Int) (k5 : (List (List Int) × Int × Int × List Int × List Int × (List (Int × Int × Unit)) × Int × Int × Int × (List (Int × Int × Int × Unit))) → Option Bool) (r9 : ((List (Int × Int × Unit)) × (List (Int × Int × Int × Unit)) × (Int × Int × Int × Unit) × Unit) × (Int × Int × Unit)) (k17 : Unit → Option Bool) (x17 : Unit) : Option Bool :=
  L24_BucketOnce_J12 x4 v1 k5 r9
def L24_BucketOnce_L11 (p21 : Int) (v1 : Int) (x4 : List (List Int) × Int × Int × List Int × List Int × (List (Int × Int × Unit)) × Int × Int × Int × (List (Int × Int × Int × Unit))) (k5 : (List (List Int) × Int × Int × List Int × List Int × (List (Int × Int × Unit)) × Int × Int × Int × (List (Int × Int × Int × Unit))) → Option Bool) (r8 : ((List (Int × Int × Unit)) × (List (Int × Int × Int × Unit)) × (Int × Int × Int × Unit) × Unit) × ((List Int) × Unit)) (k15 : (Int × (List (Int × Int × Unit)) × Int × Int × Int × (List (Int × Int × Int × Unit))) → Option Bool) (x15 : Int × (List (Int × Int × Unit)) × Int × Int × Int × (List (Int × Int × Int × Unit))) : Option Bool :=
  bif decide (x15.1 < p21) then
    Option.bind (queue_Pool_Pop (x15.2.1, x15.2.2.2.2.2, (x15.2.2.1, x15.2.2.2.1, x15.2.2.2.2.1, ()), ()) v1) fun r9 =>
    bif !decide (r9.2.2.1 = 0) then
      bif !decide (r9.2.2.1 = 0) then
        some false
      else
        loop (L24_BucketOnce_L10 x4 v1 k5 r9) ()
    else
      k15 (IntKind.i64.wrap (x15.1 + 1), r9.1.1, r9.1.2.2.1.1, r9.1.2.2.1.2.1, r9.1.2.2.1.2.2.1, r9.1.2.1)
  else
    L24_BucketOnce_J10 r8 x4 v1 k5 x15.2.1 x15.2.2.1 x15.2.2.2.1 x15.2.2.2.2.1 x15.2.2.2.2.2
def L24_BucketOnce_J13 (k5 : (List (List Int) × Int × Int × List Int × List Int × (List (Int × Int × Unit)) × Int × Int × Int × (List (Int × Int × Int × Unit))) → Option Bool) (x4 : List (List Int) × Int × Int × List Int × List Int × (List (Int × Int × Unit)) × Int × Int × Int × (List (Int × Int × Int × Unit))) : Option Bool :=
  k5 (x4.1, x4.2.1, x4.2.2.1, x4.2.2.2.1, x4.2.2.2.2.1, x4.2.2.2.2.2.1, x4.2.2.2.2.2.2.1, x4.2.2.2.2.2.2.2.1, x4.2.2.2.2.2.2.2.2.1, x4.2.2.2.2.2.2.2.2.2)
def L24_BucketOnce_L12 (x4 : List (List Int) × Int × Int × List Int × List Int × (List (Int × Int × Unit)) × Int × Int × Int × (List (Int × Int × Int × Unit))) (v1 : Int) (k5 : (List (List Int) × Int × Int × List Int × List Int × (List (Int × Int × Unit)) × Int × Int × Int × (List (Int × Int × Int × Unit))) → Option Bool) (k18 : Int → Option Bool) (x18 : Int) : Option Bool :=
  bif decide (x18 < 16) then
    chk (0 ≤ x18 ∧ x18 < (16 : Int)) <|
    bif decide ((x4.2.2.2.1.getD x18.toNat 0) > 0) then
      chk (0 ≤ x18 ∧ x18 < (16 : Int)) <|
      bif decide ((x4.2.2.2.2.1.getD x18.toNat 0) = v1) then
        some false
      else
        k18 (IntKind.i64.wrap (x18 + 1))
    else
      k18 (IntKind.i64.wrap (x18 + 1))
  else
    L24_BucketOnce_J13 k5 x4
def L24_BucketOnce_J14 (x4 : List (List Int) × Int × Int × List Int × List Int × (List (Int × Int × Unit)) × Int × Int × Int × (List (Int × Int × Int × Unit))) (v1 : Int) (k5 : (List (List Int) × Int × Int × List Int × List Int × (List (Int × Int × Unit)) × Int × Int × Int × (List (Int × Int × Int × Unit))) → Option Bool) : Option Bool :=
  loop (L24_BucketOnce_L12 x4 v1 k5) 0
def L24_BucketOnce_L13 (x4 : List (List Int) × Int × Int × List Int × List Int × (List (Int × Int × Unit)) × Int × Int × Int × (List (Int × Int × Int × Unit))) (v1 : Int) (k5 : (List (List Int) × Int × Int × List Int × List Int × (List (Int × Int × Unit)) × Int × Int × Int × (List (Int × Int × Int × Unit))) → Option Bool) (k19 : Unit → Option Bool) (x19 : Unit) : Option Bool :=
  L24_BucketOnce_J14 x4 v1 k5
def L24_BucketOnce_J15 (x4 : List (List Int) × Int × Int × List Int × List Int × (List (Int × Int × Unit)) × Int × Int × Int × (List (Int × Int × Int × Unit))) (v1 : Int) (k5 : (List (List Int) × Int × Int × List Int × List Int × (List (Int × Int × Unit)) × Int × Int × Int × (List (Int × Int × Int × Unit))) → Option Bool) : Option Bool :=
  loop (L24_BucketOnce_L13 x4 v1 k5) ()
def L24_BucketOnce_L14 (x4 : List (List Int) × Int × Int × List Int × List Int × (List (Int × Int × Unit)) × Int × Int × Int × (List (Int × Int × Int × Unit))) (v1 : Int) (k5 : (List (List Int) × Int × Int × List Int × List Int × (List (Int × Int × Unit)) × Int × Int × Int × (List (Int × Int × Int × Unit))) → Option Bool) (k20 : Unit → Option Bool) (x20 : Unit) : Option Bool :=
  L24_BucketOnce_J15 x4 v1 k5
def L24_BucketOnce_C5 (x4 : List (List Int) × Int × Int × List Int × List Int × (List (Int × Int × Unit)) × Int × Int × Int × (List (Int × Int × Int × Unit))) (k5 : (List (List Int) × Int × Int × List Int × List Int × (List (Int × Int × Unit)) × Int × Int × Int × (List (Int × Int × Int × Unit))) → Option Bool) : Option Bool :=
  chk (0 ≤ x4.2.2.1 ∧ x4.2.2.1 < (x4.1.length : Int)) <|
  chk (0 ≤ (1 : Int) ∧ (1 : Int) < (3 : Int)) <|
  chk ((4 : Int) ≠ 0) <|
  chk (0 ≤ (2 : Int) ∧ (2 : Int) < (3 : Int)) <|
  chk ((16 : Int) ≠ 0) <|
  letv (IntKind.i64.wrap (Int.tmod ((x4.1.getD x4.2.2.1.toNat (List.replicate 3 0)).getD (1 : Int).toNat 0) 4)) fun v1 =>
  letv (IntKind.i64.wrap (Int.tmod ((x4.1.getD x4.2.2.1.toNat (List.replicate 3 0)).getD (2 : Int).toNat 0) 16)) fun v2 =>
  chk (0 ≤ (0 : Int) ∧ (0 : Int) < (3 : Int)) <|
  chk ((3 : Int) ≠ 0) <|
  bif decide ((Int.tmod ((x4.1.getD x4.2.2.1.toNat (List.replicate 3 0)).getD (0 : Int).toNat 0) 3) > 0) then
    cutv 4 (L24_BucketOnce_C4 v1 v2 x4) (L24_BucketOnce_R4 k5)
  else
    bif decide (v1 ≥ 0) then
      bif !(decide (v1 < 4)) then
        some false
      else
        bif decide (v1 ≥ 0) then
          bif !(decide (v1 < 4)) then
            loop (L24_BucketOnce_L6 x4 v1 k5) ()
          else
            Option.bind (queue_Pool_List (x4.2.2.2.2.2.1, x4.2.2.2.2.2.2.2.2.2, (x4.2.2.2.2.2.2.1, x4.2.2.2.2.2.2.2.1, x4.2.2.2.2.2.2.2.2.1, ()), ()) v1) fun r8 =>
            loop (L24_BucketOnce_L11 (r8.2.1.length : Int) v1 x4 k5 r8) (0, r8.1.1, r8.1.2.2.1.1, r8.1.2.2.1.2.1, r8.1.2.2.1.2.2.1, r8.1.2.1)
        else
          loop (L24_BucketOnce_L14 x4 v1 k5) ()
    else
      some false
def L24_BucketOnce_R5 (k4 : (List (List Int) × Int × Int × List Int × List Int × (List (Int × Int × Unit)) × Int × Int × Int × (List (Int × Int × Int × Unit))) → Option Bool) (x5 : List (List Int) × Int × Int × List Int × List Int × (List (Int × Int × Unit)) × Int × Int × Int × (List (Int × Int × Int × Unit))) : Option Bool :=
  k4 (x5.1, x5.2.1, IntKind.i64.wrap (x5.2.2.1 + 1), x5.2.2.2.1, x5.2.2.2.2.1, x5.2.2.2.2.2.1, x5.2.2.2.2.2.2.1, x5.2.2.2.2.2.2.2.1, x5.2.2.2.2.2.2.2.2.1, x5.2.2.2.2.2.2.2.2.2)
def L24_BucketOnce_L15 (k4 : (List (List Int) × Int × Int × List Int × List Int × (List (Int × Int × Unit)) × Int × Int × Int × (List (Int × Int × Int × Unit))) → Option Bool) (x4 : List (List Int) × Int × Int × List Int × List Int × (List (Int × Int × Unit)) × Int × Int × Int × (List (Int × Int × Int × Unit))) : Option Bool :=
  bif decide (x4.2.2.1 < x4.2.1) then
    cutv 5 (L24_BucketOnce_C5 x4) (L24_BucketOnce_R5 k4)
  else
    L24_BucketOnce_J3
def L24_BucketOnce_R1 (x1 : List (List Int) × (List (Int × Int × Unit)) × Int × Int × Int × (List (Int × Int × Int × Unit))) : Option Bool :=
  bif decide ((x1.1.length : Int) > 80) then
    Option.bind (L24_alive) fun r1 =>
    some r1
  else
    loop L24_BucketOnce_L15 (x1.1, (x1.1.length : Int), 0, (List.replicate 16 0), (List.replicate 16 0), x1.2.1, x1.2.2.1, x1.2.2.2.1, x1.2.2.2.2.1, x1.2.2.2.2.2)
def L24_BucketOnce (a0 : List (List Int)) : Option Bool :=
  cutv 1 (L24_BucketOnce_C1 a0) L24_BucketOnce_R1
end Go.Proofs.YtiicmhholjpcbaaV
