import Derived.Test.YtiicmhholjpcbaaVcMt
import Derived.Test.YtiicmhholjpcbaaDL03
import Derived.Test.YtiicmhholjpcbaaDqueue
namespace Go.Proofs.YtiicmhholjpcbaaV
set_option linter.unusedVariables false
def L03_QueueOrder_J1 (k1 : (List (List Int) × (List (Int × Int × Unit)) × Int × Int × Int × (List (Int × Int × Int × Unit))) → Option Bool) (a0 : List (List Int)) (p1 : List (Int × Int × Int × Unit)) (p2 : List (Int × Int × Unit)) (p3 : Int) (p4 : Int) (p5 : Int) : Option Bool :=
  k1 (a0, p2, p3, p4, p5, p1)
def L03_QueueOrder_L1 (p6 : Int) (k1 : (List (List Int) × (List (Int × Int × Unit)) × Int × Int × Int × (List (Int × Int × Int × Unit))) → Option Bool) (a0 : List (List Int)) (p1 : List (Int × Int × Int × Unit)) (k2 : (Int × (List (Int × Int × Unit)) × Int × Int × Int) → Option Bool) (x2 : Int × (List (Int × Int × Unit)) × Int × Int × Int) : Option Bool :=
  bif decide (x2.1 < p6) then
    chk (0 ≤ x2.1 ∧ x2.1 < (x2.2.1.length : Int)) <|
    letv (x2.2.1.set x2.1.toNat ((x2.2.1.getD x2.1.toNat (0, 0, ())).1, (-1), ())) fun l2 =>
    bif decide (x2.2.2.2.2 = 0) then
      k2 (IntKind.i64.wrap (x2.1 + 1), l2, x2.1, x2.1, IntKind.i64.wrap (x2.2.2.2.2 + 1))
    else
      chk (0 ≤ x2.2.2.2.1 ∧ x2.2.2.2.1 < (l2.length : Int)) <|
      letv (l2.set x2.2.2.2.1.toNat ((l2.getD x2.2.2.2.1.toNat (0, 0, ())).1, x2.1, ())) fun l3 =>
      k2 (IntKind.i64.wrap (x2.1 + 1), l3, x2.2.2.1, x2.1, IntKind.i64.wrap (x2.2.2.2.2 + 1))
  else
    L03_QueueOrder_J1 k1 a0 p1 x2.2.1 x2.2.2.1 x2.2.2.2.1 x2.2.2.2.2
def L03_QueueOrder_J2 (l1 : List (Int × Int × Unit)) (k1 : (List (List Int) × (List (Int × Int × Unit)) × Int × Int × Int × (List (Int × Int × Int × Unit))) → Option Bool) (a0 : List (List Int)) (p1 : List (Int × Int × Int × Unit)) : Option Bool :=
  loop (L03_QueueOrder_L1 (l1.length : Int) k1 a0 p1) (0, l1, (-1), (-1), 0)
def L03_QueueOrder_L2 (l1 : List (Int × Int × Unit)) (k1 : (List (List Int) × (List (Int × Int × Unit)) × Int × Int × Int × (List (Int × Int × Int × Unit))) → Option Bool) (a0 : List (List Int)) (k3 : (Int × (List (Int × Int × Int × Unit))) → Option Bool) (x3 : Int × (List (Int × Int × Int × Unit))) : Option Bool :=
  bif decide (x3.1 < 4) then
    chk (x3.2.length + ([((-1), (-1), 0, ())] : List (Int × Int × Int × Unit)).length ≤ 4294967296) <|
    k3 (IntKind.i64.wrap (x3.1 + 1), x3.2 ++ [((-1), (-1), 0, ())])
  else
    L03_QueueOrder_J2 l1 k1 a0 x3.2
def L03_QueueOrder_C1 (a0 : List (List Int)) (k1 : (List (List Int) × (List (Int × Int × Unit)) × Int × Int × Int × (List (Int × Int × Int × Unit))) → Option Bool) : Option Bool :=
  chk ((60 : Int) = (60 : Int) ∧ 0 ≤ (60 : Int) ∧ (60 : Int) ≤ 4294967296) <|
  letv (List.replicate (60 : Int).toNat (0, 0, ())) fun l1 =>
  loop (L03_QueueOrder_L2 l1 k1 a0) (0, [])
def L03_QueueOrder_J3 (p12 : List (Int × Int × Unit)) (p13 : Int) (p14 : Int) (p15 : Int) (p16 : List (Int × Int × Int × Unit)) : Option Bool :=
  Option.bind (queue_Pool_Free (p12, p16, (p13, p14, p15, ()), ())) fun r2 =>
  bif decide (r2.2.1 = 60) then
    Option.bind (L03_alive) fun r3 =>
    some r3
  else
    some false
def L03_QueueOrder_J4 (k4 : (Int × (List (Int × Int × Unit)) × Int × Int × Int × (List (Int × Int × Int × Unit))) → Option Bool) (x4 : Int × (List (Int × Int × Unit)) × Int × Int × Int × (List (Int × Int × Int × Unit))) (p17 : List (Int × Int × Unit)) (p18 : Int) (p19 : Int) (p20 : Int) (p21 : List (Int × Int × Int × Unit)) : Option Bool :=
  k4 (IntKind.i64.wrap (x4.1 + 1), p17, p18, p19, p20, p21)
def L03_QueueOrder_J5 (x4 : Int × (List (Int × Int × Unit)) × Int × Int × Int × (List (Int × Int × Int × Unit))) (k4 : (Int × (List (Int × Int × Unit)) × Int × Int × Int × (List (Int × Int × Int × Unit))) → Option Bool) (p22 : List (Int × Int × Unit)) (p23 : Int) (p24 : Int) (p25 : Int) (p26 : List (Int × Int × Int × Unit)) : Option Bool :=
  Option.bind (queue_Pool_Pop (p22, p26, (p23, p24, p25, ()), ()) x4.1) fun r4 =>
  bif !decide (r4.2.2.1 = 11) then
    some false
  else
    L03_QueueOrder_J4 k4 x4 r4.1.1 r4.1.2.2.1.1 r4.1.2.2.1.2.1 r4.1.2.2.1.2.2.1 r4.1.2.1
def L03_QueueOrder_L3 (p27 : Int) (x1 : List (List Int) × (List (Int × Int × Unit)) × Int × Int × Int × (List (Int × Int × Int × Unit))) (x4 : Int × (List (Int × Int × Unit)) × Int × Int × Int × (List (Int × Int × Int × Unit))) (k4 : (Int × (List (Int × Int × Unit)) × Int × Int × Int × (List (Int × Int × Int × Unit))) → Option Bool) (k5 : (Int × (List (Int × Int × Unit)) × Int × Int × Int × (List (Int × Int × Int × Unit))) → Option Bool) (x5 : Int × (List (Int × Int × Unit)) × Int × Int × Int × (List (Int × Int × Int × Unit))) : Option Bool :=
  bif decide (x5.1 < p27) then
    chk (0 ≤ x5.1 ∧ x5.1 < (x1.1.length : Int)) <|
    chk (0 ≤ (0 : Int) ∧ (0 : Int) < (2 : Int)) <|
    chk ((4 : Int) ≠ 0) <|
    bif !decide ((IntKind.i64.wrap (Int.tmod ((x1.1.getD x5.1.toNat (List.replicate 2 0)).getD (0 : Int).toNat 0) 4)) = x4.1) then
      k5 (IntKind.i64.wrap (x5.1 + 1), x5.2.1, x5.2.2.1, x5.2.2.2.1, x5.2.2.2.2.1, x5.2.2.2.2.2)
    else
      Option.bind (queue_Pool_Pop (x5.2.1, x5.2.2.2.2.2, (x5.2.2.1, x5.2.2.2.1, x5.2.2.2.2.1, ()), ()) x4.1) fun r5 =>
      bif !decide (r5.2.2.1 = 0) then
        some false
      else
        chk (0 ≤ (1 : Int) ∧ (1 : Int) < (2 : Int)) <|
        bif !decide (r5.2.1 = (IntKind.i64.wrap ((x1.1.getD x5.1.toNat (List.replicate 2 0)).getD (1 : Int).toNat 0))) then
          some false
        else
          k5 (IntKind.i64.wrap (x5.1 + 1), r5.1.1, r5.1.2.2.1.1, r5.1.2.2.1.2.1, r5.1.2.2.1.2.2.1, r5.1.2.1)
  else
    L03_QueueOrder_J5 x4 k4 x5.2.1 x5.2.2.1 x5.2.2.2.1 x5.2.2.2.2.1 x5.2.2.2.2.2
def L03_QueueOrder_L4 (x1 : List (List Int) × (List (Int × Int × Unit)) × Int × Int × Int × (List (Int × Int × Int × Unit))) (k4 : (Int × (List (Int × Int × Unit)) × Int × Int × Int × (List (Int × Int × Int × Unit))) → Option Bool) (x4 : Int × (List (Int × Int × Unit)) × Int × Int × Int × (List (Int × Int × Int × Unit))) : Option Bool :=
  bif decide (x4.1 < 4) then
    loop (L03_QueueOrder_L3 (x1.1.length : Int) x1 x4 k4) (0, x4.2.1, x4.2.2.1, x4.2.2.2.1, x4.2.2.2.2.1, x4.2.2.2.2.2)
  else
    L03_QueueOrder_J3 x4.2.1 x4.2.2.1 x4.2.2.2.1 x4.2.2.2.2.1 x4.2.2.2.2.2
def L03_QueueOrder_J6 (x1 : List (List Int) × (List (Int × Int × Unit)) × Int × Int × Int × (List (Int × Int × Int × Unit))) (p7 : List (Int × Int × Unit)) (p8 : Int) (p9 : Int) (p10 : Int) (p11 : List (Int × Int × Int × Unit)) : Option Bool :=
  loop (L03_QueueOrder_L4 x1) (0, p7, p8, p9, p10, p11)
def L03_QueueOrder_L5 (p28 : Int) (x1 : List (List Int) × (List (Int × Int × Unit)) × Int × Int × Int × (List (Int × Int × Int × Unit))) (k6 : (Int × (List (Int × Int × Unit)) × Int × Int × Int × (List (Int × Int × Int × Unit))) → Option Bool) (x6 : Int × (List (Int × Int × Unit)) × Int × Int × Int × (List (Int × Int × Int × Unit))) : Option Bool :=
  bif decide (x6.1 < p28) then
    chk (0 ≤ x6.1 ∧ x6.1 < (x1.1.length : Int)) <|
    chk (0 ≤ (0 : Int) ∧ (0 : Int) < (2 : Int)) <|
    chk ((4 : Int) ≠ 0) <|
    chk (0 ≤ (1 : Int) ∧ (1 : Int) < (2 : Int)) <|
    Option.bind (queue_Pool_Push (x6.2.1, x6.2.2.2.2.2, (x6.2.2.1, x6.2.2.2.1, x6.2.2.2.2.1, ()), ()) (IntKind.i64.wrap (Int.tmod ((x1.1.getD x6.1.toNat (List.replicate 2 0)).getD (0 : Int).toNat 0) 4)) (IntKind.i64.wrap ((x1.1.getD x6.1.toNat (List.replicate 2 0)).getD (1 : Int).toNat 0))) fun r6 =>
    bif !decide (r6.2.1 = 0) then
      some false
    else
      k6 (IntKind.i64.wrap (x6.1 + 1), r6.1.1, r6.1.2.2.1.1, r6.1.2.2.1.2.1, r6.1.2.2.1.2.2.1, r6.1.2.1)
  else
    L03_QueueOrder_J6 x1 x6.2.1 x6.2.2.1 x6.2.2.2.1 x6.2.2.2.2.1 x6.2.2.2.2.2
def L03_QueueOrder_R1 (x1 : List (List Int) × (List (Int × Int × Unit)) × Int × Int × Int × (List (Int × Int × Int × Unit))) : Option Bool :=
  bif decide ((x1.1.length : Int) > 60) then
    Option.bind (L03_alive) fun r1 =>
    some r1
  else
    loop (L03_QueueOrder_L5 (x1.1.length : Int) x1) (0, x1.2.1, x1.2.2.1, x1.2.2.2.1, x1.2.2.2.2.1, x1.2.2.2.2.2)
def L03_QueueOrder (a0 : List (List Int)) : Option Bool :=
  cutv 1 (L03_QueueOrder_C1 a0) L03_QueueOrder_R1
end Go.Proofs.YtiicmhholjpcbaaV
