import Derived.Test.YtiicmhholjpcbaaVcMt
import Derived.Test.YtiicmhholjpcbaaDR02
import Derived.Test.YtiicmhholjpcbaaDR03
import Derived.Test.YtiicmhholjpcbaaDqueue
namespace Go.Proofs.YtiicmhholjpcbaaV
set_option linter.unusedVariables false
def L03_alive_J1 (k1 : ((List (Int × Int × Unit)) × Int × Int × Int × (List (Int × Int × Int × Unit))) → Option Bool) (p1 : List (Int × Int × Int × Unit)) (p2 : List (Int × Int × Unit)) (p3 : Int) (p4 : Int) (p5 : Int) : Option Bool :=
  k1 (p2, p3, p4, p5, p1)
def L03_alive_L1 (p6 : Int) (k1 : ((List (Int × Int × Unit)) × Int × Int × Int × (List (Int × Int × Int × Unit))) → Option Bool) (p1 : List (Int × Int × Int × Unit)) (k2 : (Int × (List (Int × Int × Unit)) × Int × Int × Int) → Option Bool) (x2 : Int × (List (Int × Int × Unit)) × Int × Int × Int) : Option Bool :=
  bif decide (x2.1 < p6) then
    chk (0 ≤ x2.1 ∧ x2.1 < (x2.2.1.length : Int)) <|
    letv (x2.2.1.set x2.1.toNat ((x2.2.1.getD x2.1.toNat (0, 0, ())).1, (-1), ())) fun l2 =>
    bif decide (x2.2.2.2.2 = 0) then
      k2 (IntKind.i64.wrap (x2.1 + 1), l2, x2.1, x2.1, IntKind.i64.wrap (x2.2.2.2.2 + 1))
    else
      chk (0 ≤ x2.2.2.2.1 ∧ x2.2.2.2.1 < (l2.length : Int)) <|
      letv (l2.set x2.2.2.2.1.toNat ((l2.getD x2.2.2.2.1.toNat (0, 0, ())).1, x2.1, ())) fun l3 =>
      k2 (IntKind.i64.wrap (x2.1 + 1), l3, x2.2.2.1, x2.1, IntKind.i64.wrap (x2.2.2.2.2 + 1))
  else
    L03_alive_J1 k1 p1 x2.2.1 x2.2.2.1 x2.2.2.2.1 x2.2.2.2.2
def L03_alive_J2 (l1 : List (Int × Int × Unit)) (k1 : ((List (Int × Int × Unit)) × Int × Int × Int × (List (Int × Int × Int × Unit))) → Option Bool) (p1 : List (Int × Int × Int × Unit)) : Option Bool :=
  loop (L03_alive_L1 (l1.length : Int) k1 p1) (0, l1, (-1), (-1), 0)
def L03_alive_L2 (l1 : List (Int × Int × Unit)) (k1 : ((List (Int × Int × Unit)) × Int × Int × Int × (List (Int × Int × Int × Unit))) → Option Bool) (k3 : (Int × (List (Int × Int × Int × Unit))) → Option Bool) (x3 : Int × (List (Int × Int × Int × Unit))) : Option Bool :=
  bif decide (x3.1 < 2) then
    chk (x3.2.length + ([((-1), (-1), 0, ())] : List (Int × Int × Int × Unit)).length ≤ 4294967296) <|
    k3 (IntKind.i64.wrap (x3.1 + 1), x3.2 ++ [((-1), (-1), 0, ())])
  else
    L03_alive_J2 l1 k1 x3.2
def L03_alive_C1 (k1 : ((List (Int × Int × Unit)) × Int × Int × Int × (List (Int × Int × Int × Unit))) → Option Bool) : Option Bool :=
  chk ((3 : Int) = (3 : Int) ∧ 0 ≤ (3 : Int) ∧ (3 : Int) ≤ 4294967296) <|
  letv (List.replicate (3 : Int).toNat (0, 0, ())) fun l1 =>
  loop (L03_alive_L2 l1 k1) (0, [])
def L03_alive_C2 (r1 : ((List (Int × Int × Unit)) × (List (Int × Int × Int × Unit)) × (Int × Int × Int × Unit) × Unit) × (Int × Unit)) (r2 : ((List (Int × Int × Unit)) × (List (Int × Int × Int × Unit)) × (Int × Int × Int × Unit) × Unit) × (Int × Unit)) (r3 : ((List (Int × Int × Unit)) × (List (Int × Int × Int × Unit)) × (Int × Int × Int × Unit) × Unit) × (Int × Unit)) (r4 : ((List (Int × Int × Unit)) × (List (Int × Int × Int × Unit)) × (Int × Int × Int × Unit) × Unit) × (Int × Unit)) (r5 : ((List (Int × Int × Unit)) × (List (Int × Int × Int × Unit)) × (Int × Int × Int × Unit) × Unit) × (Int × Int × Unit)) (r6 : ((List (Int × Int × Unit)) × (List (Int × Int × Int × Unit)) × (Int × Int × Int × Unit) × Unit) × (Int × Int × Unit)) (k4 : Bool → Option Bool) : Option Bool :=
  bif decide (r1.2.1 = 0) then
    bif decide (r2.2.1 = 0) then
      bif decide (r3.2.1 = 0) then
        bif decide (r4.2.1 = 10) then
          bif decide (r5.2.1 = 5) then
            bif decide (r5.2.2.1 = 0) then
              bif decide (r6.2.1 = 7) then
                bif decide (r6.2.2.1 = 0) then
                  Option.bind (queue_Pool_Len r6.1 0) fun r7 =>
                  bif decide (r7.2.1 = 1) then
                    Option.bind (queue_Pool_Free r7.1) fun r8 =>
                    bif decide (r8.2.1 = 1) then
                      Option.bind (queue_Pool_Remove r8.1 0 6) fun r9 =>
                      bif r9.2.1 then
                        Option.bind (queue_Pool_List r9.1 0) fun r10 =>
                        k4 (decide ((r10.2.1.length : Int) = 0))
                      else
                        k4 false
                    else
                      k4 false
                  else
                    k4 false
                else
                  k4 false
              else
                k4 false
            else
              k4 false
          else
            k4 false
        else
          k4 false
      else
        k4 false
    else
      k4 false
  else
    k4 false
def L03_alive_R2 (x4 : Bool) : Option Bool :=
  some x4
def L03_alive_R1 (x1 : (List (Int × Int × Unit)) × Int × Int × Int × (List (Int × Int × Int × Unit))) : Option Bool :=
  Option.bind (queue_Pool_Push (x1.1, x1.2.2.2.2, (x1.2.1, x1.2.2.1, x1.2.2.2.1, ()), ()) 0 5) fun r1 =>
  Option.bind (queue_Pool_Push r1.1 0 6) fun r2 =>
  Option.bind (queue_Pool_Push r2.1 1 7) fun r3 =>
  Option.bind (queue_Pool_Push r3.1 1 8) fun r4 =>
  Option.bind (queue_Pool_Pop r4.1 0) fun r5 =>
  Option.bind (queue_Pool_First r5.1 1) fun r6 =>
  cutv 2 (L03_alive_C2 r1 r2 r3 r4 r5 r6) L03_alive_R2
def L03_alive : Option Bool :=
  cutv 1 L03_alive_C1 L03_alive_R1
def L03_as_C1 (r1 : ((List (Int × Int × Unit)) × (List (Int × Int × Int × Unit)) × (Int × Int × Int × Unit) × Unit) × (Int × Int × Unit)) (r2 : Int × Int × Unit) (a1 : Int) (a0 : Int × (List (List Int)) × Unit) (k1 : (Bool × Int × Int × Int × (List (Int × Int × Unit)) × (List (Int × Int × Int × Unit))) → Option (((List (Int × Int × Unit)) × (List (Int × Int × Int × Unit)) × (Int × Int × Int × Unit) × Unit) × (Bool × Unit))) : Option (((List (Int × Int × Unit)) × (List (Int × Int × Int × Unit)) × (Int × Int × Int × Unit) × Unit) × (Bool × Unit)) :=
  bif decide (r1.2.1 = r2.1) then
    bif decide (r1.2.2.1 = r2.2.1) then
      Option.bind (queue_Pool_List r1.1 a1) fun r3 =>
      Option.bind (R03_List a0 a1) fun r4 =>
      Option.bind (R02_Same r3.2.1 r4) fun r5 =>
      bif r5 then
        Option.bind (queue_Pool_Len r3.1 a1) fun r6 =>
        Option.bind (R03_List a0 a1) fun r7 =>
        bif decide (r6.2.1 = (r7.length : Int)) then
          Option.bind (queue_Pool_Free r6.1) fun r8 =>
          Option.bind (R03_Free a0) fun r9 =>
          k1 (decide (r8.2.1 = r9), r8.1.2.2.1.1, r8.1.2.2.1.2.1, r8.1.2.2.1.2.2.1, r8.1.1, r8.1.2.1)
        else
          k1 (false, r6.1.2.2.1.1, r6.1.2.2.1.2.1, r6.1.2.2.1.2.2.1, r6.1.1, r6.1.2.1)
      else
        k1 (false, r3.1.2.2.1.1, r3.1.2.2.1.2.1, r3.1.2.2.1.2.2.1, r3.1.1, r3.1.2.1)
    else
      k1 (false, r1.1.2.2.1.1, r1.1.2.2.1.2.1, r1.1.2.2.1.2.2.1, r1.1.1, r1.1.2.1)
  else
    k1 (false, r1.1.2.2.1.1, r1.1.2.2.1.2.1, r1.1.2.2.1.2.2.1, r1.1.1, r1.1.2.1)
def L03_as_R1 (x1 : Bool × Int × Int × Int × (List (Int × Int × Unit)) × (List (Int × Int × Int × Unit))) : Option (((List (Int × Int × Unit)) × (List (Int × Int × Int × Unit)) × (Int × Int × Int × Unit) × Unit) × (Bool × Unit)) :=
  some ((x1.2.2.2.2.1, x1.2.2.2.2.2, (x1.2.1, x1.2.2.1, x1.2.2.2.1, ()), ()), (x1.1, ()))
def L03_as (x : (List (Int × Int × Unit)) × (List (Int × Int × Int × Unit)) × (Int × Int × Int × Unit) × Unit) (a0 : Int × (List (List Int)) × Unit) (a1 : Int) : Option (((List (Int × Int × Unit)) × (List (Int × Int × Int × Unit)) × (Int × Int × Int × Unit) × Unit) × (Bool × Unit)) :=
  Option.bind (queue_Pool_First x a1) fun r1 =>
  Option.bind (R03_First a0 a1) fun r2 =>
  cutv 1 (L03_as_C1 r1 r2 a1 a0) L03_as_R1
end Go.Proofs.YtiicmhholjpcbaaV
