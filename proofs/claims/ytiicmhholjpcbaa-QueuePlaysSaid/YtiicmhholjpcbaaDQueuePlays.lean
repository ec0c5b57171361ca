import Derived.Test.YtiicmhholjpcbaaVcMt
import Derived.Test.YtiicmhholjpcbaaDL03
import Derived.Test.YtiicmhholjpcbaaDR03
import Derived.Test.YtiicmhholjpcbaaDqueue
namespace Go.Proofs.YtiicmhholjpcbaaV
set_option linter.unusedVariables false
def L03_QueuePlays_J1 (p7 : Int) (p8 : List (List Int)) (p9 : List (Int × Int × Unit)) (p10 : Int) (p11 : Int) (p12 : Int) (p13 : List (Int × Int × Int × Unit)) : Option Bool :=
  Option.bind (L03_as (p9, p13, (p10, p11, p12, ()), ()) (p7, p8, ()) 0) fun r11 =>
  bif r11.2.1 then
    Option.bind (L03_alive) fun r12 =>
    some r12
  else
    some false
def L03_QueuePlays_C1 (x1 : (List (Int × Int × Int × Unit)) × Int × Int × Int × List (List Int) × (List (Int × Int × Unit)) × Int × Int × Int × (List (Int × Int × Int × Unit))) (k2 : ((List (Int × Int × Int × Unit)) × Int × Int × Int × List (List Int) × Int × Int × Int × (List (Int × Int × Unit)) × Int × Int × Int × (List (Int × Int × Int × Unit))) → Option Bool) : Option Bool :=
  letv (decide ((Int.tmod (x1.1.getD x1.2.2.1.toNat (0, 0, 0, ())).1 5) = 0)) fun v1 =>
  bif v1 then
    Option.bind (queue_Pool_Remove (x1.2.2.2.2.2.1, x1.2.2.2.2.2.2.2.2.2, (x1.2.2.2.2.2.2.1, x1.2.2.2.2.2.2.2.1, x1.2.2.2.2.2.2.2.2.1, ()), ()) (x1.1.getD x1.2.2.1.toNat (0, 0, 0, ())).2.1 (x1.1.getD x1.2.2.1.toNat (0, 0, 0, ())).2.2.1) fun r13 =>
    Option.bind (R03_Remove (x1.2.2.2.1, x1.2.2.2.2.1, ()) (x1.1.getD x1.2.2.1.toNat (0, 0, 0, ())).2.1 (x1.1.getD x1.2.2.1.toNat (0, 0, 0, ())).2.2.1) fun r14 =>
    bif !(r13.2.1 == r14.2.1) then
      some false
    else
      k2 (x1.1, x1.2.1, x1.2.2.1, r14.1.1, r14.1.2.1, (x1.1.getD x1.2.2.1.toNat (0, 0, 0, ())).1, (x1.1.getD x1.2.2.1.toNat (0, 0, 0, ())).2.1, (x1.1.getD x1.2.2.1.toNat (0, 0, 0, ())).2.2.1, r13.1.1, r13.1.2.2.1.1, r13.1.2.2.1.2.1, r13.1.2.2.1.2.2.1, r13.1.2.1)
  else
    letv (decide ((Int.tmod (x1.1.getD x1.2.2.1.toNat (0, 0, 0, ())).1 5) = 1)) fun v2 =>
    bif v2 then
      Option.bind (queue_Pool_Pop (x1.2.2.2.2.2.1, x1.2.2.2.2.2.2.2.2.2, (x1.2.2.2.2.2.2.1, x1.2.2.2.2.2.2.2.1, x1.2.2.2.2.2.2.2.2.1, ()), ()) (x1.1.getD x1.2.2.1.toNat (0, 0, 0, ())).2.1) fun r15 =>
      Option.bind (R03_Pop (x1.2.2.2.1, x1.2.2.2.2.1, ()) (x1.1.getD x1.2.2.1.toNat (0, 0, 0, ())).2.1) fun r16 =>
      bif !decide (r15.2.1 = r16.2.1) then
        some false
      else
        bif !decide (r15.2.2.1 = r16.2.2.1) then
          some false
        else
          k2 (x1.1, x1.2.1, x1.2.2.1, r16.1.1, r16.1.2.1, (x1.1.getD x1.2.2.1.toNat (0, 0, 0, ())).1, (x1.1.getD x1.2.2.1.toNat (0, 0, 0, ())).2.1, (x1.1.getD x1.2.2.1.toNat (0, 0, 0, ())).2.2.1, r15.1.1, r15.1.2.2.1.1, r15.1.2.2.1.2.1, r15.1.2.2.1.2.2.1, r15.1.2.1)
    else
      Option.bind (queue_Pool_Push (x1.2.2.2.2.2.1, x1.2.2.2.2.2.2.2.2.2, (x1.2.2.2.2.2.2.1, x1.2.2.2.2.2.2.2.1, x1.2.2.2.2.2.2.2.2.1, ()), ()) (x1.1.getD x1.2.2.1.toNat (0, 0, 0, ())).2.1 (x1.1.getD x1.2.2.1.toNat (0, 0, 0, ())).2.2.1) fun r17 =>
      Option.bind (R03_Push (x1.2.2.2.1, x1.2.2.2.2.1, ()) (x1.1.getD x1.2.2.1.toNat (0, 0, 0, ())).2.1 (x1.1.getD x1.2.2.1.toNat (0, 0, 0, ())).2.2.1) fun r18 =>
      bif !decide (r17.2.1 = r18.2.1) then
        some false
      else
        k2 (x1.1, x1.2.1, x1.2.2.1, r18.1.1, r18.1.2.1, (x1.1.getD x1.2.2.1.toNat (0, 0, 0, ())).1, (x1.1.getD x1.2.2.1.toNat (0, 0, 0, ())).2.1, (x1.1.getD x1.2.2.1.toNat (0, 0, 0, ())).2.2.1, r17.1.1, r17.1.2.2.1.1, r17.1.2.2.1.2.1, r17.1.2.2.1.2.2.1, r17.1.2.1)
def L03_QueuePlays_R1 (k1 : ((List (Int × Int × Int × Unit)) × Int × Int × Int × List (List Int) × (List (Int × Int × Unit)) × Int × Int × Int × (List (Int × Int × Int × Unit))) → Option Bool) (x2 : (List (Int × Int × Int × Unit)) × Int × Int × Int × List (List Int) × Int × Int × Int × (List (Int × Int × Unit)) × Int × Int × Int × (List (Int × Int × Int × Unit))) : Option Bool :=
  Option.bind (L03_as (x2.2.2.2.2.2.2.2.2.1, x2.2.2.2.2.2.2.2.2.2.2.2.2, (x2.2.2.2.2.2.2.2.2.2.1, x2.2.2.2.2.2.2.2.2.2.2.1, x2.2.2.2.2.2.2.2.2.2.2.2.1, ()), ()) (x2.2.2.2.1, x2.2.2.2.2.1, ()) x2.2.2.2.2.2.2.1) fun r19 =>
  bif !r19.2.1 then
    some false
  else
    k1 (x2.1, x2.2.1, IntKind.i64.wrap (x2.2.2.1 + 1), x2.2.2.2.1, x2.2.2.2.2.1, r19.1.1, r19.1.2.2.1.1, r19.1.2.2.1.2.1, r19.1.2.2.1.2.2.1, r19.1.2.1)
def L03_QueuePlays_L1 (k1 : ((List (Int × Int × Int × Unit)) × Int × Int × Int × List (List Int) × (List (Int × Int × Unit)) × Int × Int × Int × (List (Int × Int × Int × Unit))) → Option Bool) (x1 : (List (Int × Int × Int × Unit)) × Int × Int × Int × List (List Int) × (List (Int × Int × Unit)) × Int × Int × Int × (List (Int × Int × Int × Unit))) : Option Bool :=
  bif decide (x1.2.2.1 < x1.2.1) then
    chk (0 ≤ x1.2.2.1 ∧ x1.2.2.1 < (x1.1.length : Int)) <|
    chk ((5 : Int) ≠ 0) <|
    cutv 1 (L03_QueuePlays_C1 x1) (L03_QueuePlays_R1 k1)
  else
    L03_QueuePlays_J1 x1.2.2.2.1 x1.2.2.2.2.1 x1.2.2.2.2.2.1 x1.2.2.2.2.2.2.1 x1.2.2.2.2.2.2.2.1 x1.2.2.2.2.2.2.2.2.1 x1.2.2.2.2.2.2.2.2.2
def L03_QueuePlays_J2 (a0 : Int) (a1 : Int) (a2 : List (Int × Int × Int × Unit)) (p2 : List (Int × Int × Int × Unit)) (p3 : List (Int × Int × Unit)) (p4 : Int) (p5 : Int) (p6 : Int) : Option Bool :=
  Option.bind (R03_New a0 a1) fun r10 =>
  bif !decide (r10.2.1 = 0) then
    some false
  else
    loop L03_QueuePlays_L1 (a2, (a2.length : Int), 0, r10.1.1, r10.1.2.1, p3, p4, p5, p6, p2)
def L03_QueuePlays_L2 (p14 : Int) (a0 : Int) (a1 : Int) (a2 : List (Int × Int × Int × Unit)) (p2 : List (Int × Int × Int × Unit)) (k3 : (Int × (List (Int × Int × Unit)) × Int × Int × Int) → Option Bool) (x3 : Int × (List (Int × Int × Unit)) × Int × Int × Int) : Option Bool :=
  bif decide (x3.1 < p14) then
    chk (0 ≤ x3.1 ∧ x3.1 < (x3.2.1.length : Int)) <|
    letv (x3.2.1.set x3.1.toNat ((x3.2.1.getD x3.1.toNat (0, 0, ())).1, (-1), ())) fun l1 =>
    bif decide (x3.2.2.2.2 = 0) then
      k3 (IntKind.i64.wrap (x3.1 + 1), l1, x3.1, x3.1, IntKind.i64.wrap (x3.2.2.2.2 + 1))
    else
      chk (0 ≤ x3.2.2.2.1 ∧ x3.2.2.2.1 < (l1.length : Int)) <|
      letv (l1.set x3.2.2.2.1.toNat ((l1.getD x3.2.2.2.1.toNat (0, 0, ())).1, x3.1, ())) fun l2 =>
      k3 (IntKind.i64.wrap (x3.1 + 1), l2, x3.2.2.1, x3.1, IntKind.i64.wrap (x3.2.2.2.2 + 1))
  else
    L03_QueuePlays_J2 a0 a1 a2 p2 x3.2.1 x3.2.2.1 x3.2.2.2.1 x3.2.2.2.2
def L03_QueuePlays_J3 (a0 : Int) (a1 : Int) (a2 : List (Int × Int × Int × Unit)) (p1 : List (Int × Int × Unit)) (p2 : List (Int × Int × Int × Unit)) : Option Bool :=
  loop (L03_QueuePlays_L2 (p1.length : Int) a0 a1 a2 p2) (0, p1, (-1), (-1), 0)
def L03_QueuePlays_L3 (a0 : Int) (a1 : Int) (a2 : List (Int × Int × Int × Unit)) (p15 : List (Int × Int × Unit)) (k4 : (Int × (List (Int × Int × Int × Unit))) → Option Bool) (x4 : Int × (List (Int × Int × Int × Unit))) : Option Bool :=
  bif decide (x4.1 < a0) then
    chk (x4.2.length + ([((-1), (-1), 0, ())] : List (Int × Int × Int × Unit)).length ≤ 4294967296) <|
    k4 (IntKind.i64.wrap (x4.1 + 1), x4.2 ++ [((-1), (-1), 0, ())])
  else
    L03_QueuePlays_J3 a0 a1 a2 p15 x4.2
def L03_QueuePlays (a0 : Int) (a1 : Int) (a2 : List (Int × Int × Int × Unit)) : Option Bool :=
  bif decide ((a2.length : Int) > 100) then
    Option.bind (L03_alive) fun r1 =>
    some r1
  else
    bif decide (a0 < 1) then
      Option.bind (R03_New a0 a1) fun r2 =>
      bif !decide (r2.2.1 = 0) then
        bif decide (1 = r2.2.1) then
          Option.bind (L03_alive) fun r3 =>
          some r3
        else
          some false
      else
        some false
    else
      bif decide (a0 > 64) then
        Option.bind (R03_New a0 a1) fun r4 =>
        bif !decide (r4.2.1 = 0) then
          bif decide (1 = r4.2.1) then
            Option.bind (L03_alive) fun r5 =>
            some r5
          else
            some false
        else
          some false
      else
        bif decide (a1 < 0) then
          Option.bind (R03_New a0 a1) fun r6 =>
          bif !decide (r6.2.1 = 0) then
            bif decide (1 = r6.2.1) then
              Option.bind (L03_alive) fun r7 =>
              some r7
            else
              some false
          else
            some false
        else
          bif decide (a1 > 1024) then
            Option.bind (R03_New a0 a1) fun r8 =>
            bif !decide (r8.2.1 = 0) then
              bif decide (1 = r8.2.1) then
                Option.bind (L03_alive) fun r9 =>
                some r9
              else
                some false
            else
              some false
          else
            chk (a1 = a1 ∧ 0 ≤ a1 ∧ a1 ≤ 4294967296) <|
            loop (L03_QueuePlays_L3 a0 a1 a2 (List.replicate a1.toNat (0, 0, ()))) (0, [])
end Go.Proofs.YtiicmhholjpcbaaV
