import Derived.Test.YtejedlpnejjnbaaSVcMt
import Derived.Test.YtejedlpnejjnbaaSDbase
import Derived.Test.YtejedlpnejjnbaaSDframe
import Derived.Test.YtejedlpnejjnbaaSDhandle
namespace Go.Proofs.YtejedlpnejjnbaaSV
set_option linter.unusedVariables false
def proc_bare (a0 : Int × Bool × Int × (Int × Bool × (List Int) × (List Int) × Int × (List Int) × Unit) × Int × Int × Int × (List (Int × Int × Int × Int × Int × Unit)) × Unit) : Option Bool :=
  bif decide (a0.2.2.1 = 0) then
    bif (decide (a0.2.2.2.1.1 = 0)) && ((a0.2.2.2.1.2.1 == false) && ((decide ((a0.2.2.2.1.2.2.1 : List Int) = (List.replicate 8 0))) && ((decide ((a0.2.2.2.1.2.2.2.1 : List Int) = (List.replicate 16 0))) && ((decide (a0.2.2.2.1.2.2.2.2.1 = 0)) && ((decide ((a0.2.2.2.1.2.2.2.2.2.1 : List Int) = (List.replicate 8 0))) && true))))) then
      bif decide (a0.2.2.2.2.1 = 0) then
        bif decide (a0.2.2.2.2.2.1 = 0) then
          bif decide (a0.2.2.2.2.2.2.1 = 0) then
            letv (decide ((a0.2.2.2.2.2.2.2.1.length : Int) = 0)) fun v1 =>
            some v1
          else
            some false
        else
          some false
      else
        some false
    else
      some false
  else
    some false
def proc_one (a0 : Int × Bool × Int × (Int × Bool × (List Int) × (List Int) × Int × (List Int) × Unit) × Int × Int × Int × (List (Int × Int × Int × Int × Int × Unit)) × Unit) : Option Bool :=
  bif decide (a0.1 < 0) then
    some false
  else
    bif decide (a0.1 > 65535) then
      some false
    else
      bif !a0.2.1 then
        Option.bind (proc_bare a0) fun r1 =>
        some r1
      else
        bif decide (a0.1 > 0) then
          bif decide (a0.2.2.2.2.1 ≥ 0) then
            bif decide (a0.2.2.2.2.1 ≤ 3) then
              Option.bind (frame_Fine a0.2.2.2.1) fun r2 =>
              bif r2 then
                letv ((decide (a0.2.2.2.2.1 = 1)) == (decide ((a0.2.2.2.2.2.2.2.1.length : Int) > 0))) fun v1 =>
                some v1
              else
                some false
            else
              some false
          else
            some false
        else
          some false
def proc_Fine_J1 (a0 : List (Int × Bool × Int × (Int × Bool × (List Int) × (List Int) × Int × (List Int) × Unit) × Int × Int × Int × (List (Int × Int × Int × Int × Int × Unit)) × Unit)) : Option Bool :=
  some (decide ((a0.length : Int) = 16))
def proc_Fine_L1 (p1 : Int) (a0 : List (Int × Bool × Int × (Int × Bool × (List Int) × (List Int) × Int × (List Int) × Unit) × Int × Int × Int × (List (Int × Int × Int × Int × Int × Unit)) × Unit)) (k1 : Int → Option Bool) (x1 : Int) : Option Bool :=
  bif decide (x1 < p1) then
    chk (0 ≤ x1 ∧ x1 < (a0.length : Int)) <|
    Option.bind (proc_one (a0.getD x1.toNat (0, false, 0, (0, false, (List.replicate 8 0), (List.replicate 16 0), 0, (List.replicate 8 0), ()), 0, 0, 0, [], ()))) fun r1 =>
    bif !r1 then
      some false
    else
      k1 (IntKind.i64.wrap (x1 + 1))
  else
    proc_Fine_J1 a0
def proc_Fine (a0 : List (Int × Bool × Int × (Int × Bool × (List Int) × (List Int) × Int × (List Int) × Unit) × Int × Int × Int × (List (Int × Int × Int × Int × Int × Unit)) × Unit)) : Option Bool :=
  loop (proc_Fine_L1 (a0.length : Int) a0) 0
def proc_Find (a0 : List (Int × Bool × Int × (Int × Bool × (List Int) × (List Int) × Int × (List Int) × Unit) × Int × Int × Int × (List (Int × Int × Int × Int × Int × Unit)) × Unit)) (a1 : Int) : Option (Int × Int × Unit) :=
  Option.bind (handle_Slot a1) fun r1 =>
  Option.bind (proc_Fine a0) fun r2 =>
  bif !r2 then
    some (0, 1, ())
  else
    bif decide (r1 < 0) then
      some (0, 8, ())
    else
      bif decide (r1 ≥ (a0.length : Int)) then
        some (0, 8, ())
      else
        chk (0 ≤ r1 ∧ r1 < (a0.length : Int)) <|
        bif !(a0.getD r1.toNat (0, false, 0, (0, false, (List.replicate 8 0), (List.replicate 16 0), 0, (List.replicate 8 0), ()), 0, 0, 0, [], ())).2.1 then
          some (0, 9, ())
        else
          chk (0 ≤ r1 ∧ r1 < (a0.length : Int)) <|
          Option.bind (handle_Gen a1) fun r3 =>
          letv (!decide ((a0.getD r1.toNat (0, false, 0, (0, false, (List.replicate 8 0), (List.replicate 16 0), 0, (List.replicate 8 0), ()), 0, 0, 0, [], ())).1 = r3)) fun v1 =>
          bif v1 then
            some (0, 9, ())
          else
            some (r1, 0, ())
def proc_there (a0 : List (Int × Bool × Int × (Int × Bool × (List Int) × (List Int) × Int × (List Int) × Unit) × Int × Int × Int × (List (Int × Int × Int × Int × Int × Unit)) × Unit)) (a1 : Int) : Option Bool :=
  bif decide (a1 ≥ 0) then
    bif decide (a1 < (a0.length : Int)) then
      chk (0 ≤ a1 ∧ a1 < (a0.length : Int)) <|
      letv ((a0.getD a1.toNat (0, false, 0, (0, false, (List.replicate 8 0), (List.replicate 16 0), 0, (List.replicate 8 0), ()), 0, 0, 0, [], ())).2.1) fun v1 =>
      some v1
    else
      some false
  else
    some false
def proc_Handle (a0 : List (Int × Bool × Int × (Int × Bool × (List Int) × (List Int) × Int × (List Int) × Unit) × Int × Int × Int × (List (Int × Int × Int × Int × Int × Unit)) × Unit)) (a1 : Int) : Option Int :=
  Option.bind (proc_Fine a0) fun r1 =>
  bif !r1 then
    some 0
  else
    Option.bind (proc_there a0 a1) fun r2 =>
    bif !r2 then
      some 0
    else
      chk (0 ≤ a1 ∧ a1 < (a0.length : Int)) <|
      Option.bind (handle_Make a1 (a0.getD a1.toNat (0, false, 0, (0, false, (List.replicate 8 0), (List.replicate 16 0), 0, (List.replicate 8 0), ()), 0, 0, 0, [], ())).1) fun r3 =>
      some r3.1
def proc_In_J1 (p1 : Int) (p2 : List Int) : Option (List Int) :=
  some p2
def proc_In_C1 (x1 : (List (Int × Bool × Int × (Int × Bool × (List Int) × (List Int) × Int × (List Int) × Unit) × Int × Int × Int × (List (Int × Int × Int × Int × Int × Unit)) × Unit)) × Int × Int × Int × List Int) (k2 : ((List (Int × Bool × Int × (Int × Bool × (List Int) × (List Int) × Int × (List Int) × Unit) × Int × Int × Int × (List (Int × Int × Int × Int × Int × Unit)) × Unit)) × Int × Int × Int × List Int) → Option (List Int)) : Option (List Int) :=
  chk (0 ≤ x1.2.2.1 ∧ x1.2.2.1 < (x1.1.length : Int)) <|
  bif (x1.1.getD x1.2.2.1.toNat (0, false, 0, (0, false, (List.replicate 8 0), (List.replicate 16 0), 0, (List.replicate 8 0), ()), 0, 0, 0, [], ())).2.1 then
    letv (decide ((x1.1.getD x1.2.2.1.toNat (0, false, 0, (0, false, (List.replicate 8 0), (List.replicate 16 0), 0, (List.replicate 8 0), ()), 0, 0, 0, [], ())).2.2.2.2.1 = x1.2.2.2.1)) fun v1 =>
    bif v1 then
      chk (x1.2.2.2.2.length + ([x1.2.2.1] : List Int).length ≤ 4294967296) <|
      k2 (x1.1, x1.2.1, x1.2.2.1, x1.2.2.2.1, x1.2.2.2.2 ++ [x1.2.2.1])
    else
      k2 (x1.1, x1.2.1, x1.2.2.1, x1.2.2.2.1, x1.2.2.2.2)
  else
    k2 (x1.1, x1.2.1, x1.2.2.1, x1.2.2.2.1, x1.2.2.2.2)
def proc_In_R1 (k1 : ((List (Int × Bool × Int × (Int × Bool × (List Int) × (List Int) × Int × (List Int) × Unit) × Int × Int × Int × (List (Int × Int × Int × Int × Int × Unit)) × Unit)) × Int × Int × Int × List Int) → Option (List Int)) (x2 : (List (Int × Bool × Int × (Int × Bool × (List Int) × (List Int) × Int × (List Int) × Unit) × Int × Int × Int × (List (Int × Int × Int × Int × Int × Unit)) × Unit)) × Int × Int × Int × List Int) : Option (List Int) :=
  k1 (x2.1, x2.2.1, IntKind.i64.wrap (x2.2.2.1 + 1), x2.2.2.2.1, x2.2.2.2.2)
def proc_In_L1 (k1 : ((List (Int × Bool × Int × (Int × Bool × (List Int) × (List Int) × Int × (List Int) × Unit) × Int × Int × Int × (List (Int × Int × Int × Int × Int × Unit)) × Unit)) × Int × Int × Int × List Int) → Option (List Int)) (x1 : (List (Int × Bool × Int × (Int × Bool × (List Int) × (List Int) × Int × (List Int) × Unit) × Int × Int × Int × (List (Int × Int × Int × Int × Int × Unit)) × Unit)) × Int × Int × Int × List Int) : Option (List Int) :=
  bif decide (x1.2.2.1 < x1.2.1) then
    cutv 1 (proc_In_C1 x1) (proc_In_R1 k1)
  else
    proc_In_J1 x1.2.2.2.1 x1.2.2.2.2
def proc_In (a0 : List (Int × Bool × Int × (Int × Bool × (List Int) × (List Int) × Int × (List Int) × Unit) × Int × Int × Int × (List (Int × Int × Int × Int × Int × Unit)) × Unit)) (a1 : Int) : Option (List Int) :=
  Option.bind (proc_Fine a0) fun r1 =>
  bif !r1 then
    some []
  else
    loop proc_In_L1 (a0, (a0.length : Int), 0, a1, [])
def proc_Handles_1 (a0 : Int × Bool × Int × (Int × Bool × (List Int) × (List Int) × Int × (List Int) × Unit) × Int × Int × Int × (List (Int × Int × Int × Int × Int × Unit)) × Unit) : Option Bool :=
  some (!decide (a0.2.2.2.2.1 = 3))
def proc_Handles_J1 : Option (List Int) :=
  some []
def proc_Handles_L1 (k1 : Unit → Option (List Int)) (x1 : Unit) : Option (List Int) :=
  proc_Handles_J1
def proc_Handles_J2 (p2 : List Int) : Option (List Int) :=
  some p2
def proc_Handles_L2 (p3 : Int) (a0 : List (Int × Bool × Int × (Int × Bool × (List Int) × (List Int) × Int × (List Int) × Unit) × Int × Int × Int × (List (Int × Int × Int × Int × Int × Unit)) × Unit)) (k2 : (Int × List Int) → Option (List Int)) (x2 : Int × List Int) : Option (List Int) :=
  bif decide (x2.1 < p3) then
    chk (0 ≤ x2.1 ∧ x2.1 < (x2.2.length : Int)) <|
    Option.bind (proc_Handle a0 (x2.2.getD x2.1.toNat 0)) fun r2 =>
    chk (0 ≤ x2.1 ∧ x2.1 < (x2.2.length : Int)) <|
    k2 (IntKind.i64.wrap (x2.1 + 1), x2.2.set x2.1.toNat r2)
  else
    proc_Handles_J2 x2.2
def proc_Handles_J3 (a0 : List (Int × Bool × Int × (Int × Bool × (List Int) × (List Int) × Int × (List Int) × Unit) × Int × Int × Int × (List (Int × Int × Int × Int × Int × Unit)) × Unit)) (p1 : List Int) : Option (List Int) :=
  loop (proc_Handles_L2 (p1.length : Int) a0) (0, p1)
def proc_Handles_C1 (x3 : (List (Int × Bool × Int × (Int × Bool × (List Int) × (List Int) × Int × (List Int) × Unit) × Int × Int × Int × (List (Int × Int × Int × Int × Int × Unit)) × Unit)) × Int × Int × List Int) (k4 : ((List (Int × Bool × Int × (Int × Bool × (List Int) × (List Int) × Int × (List Int) × Unit) × Int × Int × Int × (List (Int × Int × Int × Int × Int × Unit)) × Unit)) × Int × Int × List Int) → Option (List Int)) : Option (List Int) :=
  chk (0 ≤ x3.2.2.1 ∧ x3.2.2.1 < (x3.1.length : Int)) <|
  bif (x3.1.getD x3.2.2.1.toNat (0, false, 0, (0, false, (List.replicate 8 0), (List.replicate 16 0), 0, (List.replicate 8 0), ()), 0, 0, 0, [], ())).2.1 then
    Option.bind (proc_Handles_1 (x3.1.getD x3.2.2.1.toNat (0, false, 0, (0, false, (List.replicate 8 0), (List.replicate 16 0), 0, (List.replicate 8 0), ()), 0, 0, 0, [], ()))) fun r3 =>
    bif r3 then
      chk (x3.2.2.2.length + ([x3.2.2.1] : List Int).length ≤ 4294967296) <|
      k4 (x3.1, x3.2.1, x3.2.2.1, x3.2.2.2 ++ [x3.2.2.1])
    else
      k4 (x3.1, x3.2.1, x3.2.2.1, x3.2.2.2)
  else
    k4 (x3.1, x3.2.1, x3.2.2.1, x3.2.2.2)
def proc_Handles_R1 (k3 : ((List (Int × Bool × Int × (Int × Bool × (List Int) × (List Int) × Int × (List Int) × Unit) × Int × Int × Int × (List (Int × Int × Int × Int × Int × Unit)) × Unit)) × Int × Int × List Int) → Option (List Int)) (x4 : (List (Int × Bool × Int × (Int × Bool × (List Int) × (List Int) × Int × (List Int) × Unit) × Int × Int × Int × (List (Int × Int × Int × Int × Int × Unit)) × Unit)) × Int × Int × List Int) : Option (List Int) :=
  k3 (x4.1, x4.2.1, IntKind.i64.wrap (x4.2.2.1 + 1), x4.2.2.2)
def proc_Handles_L3 (a0 : List (Int × Bool × Int × (Int × Bool × (List Int) × (List Int) × Int × (List Int) × Unit) × Int × Int × Int × (List (Int × Int × Int × Int × Int × Unit)) × Unit)) (k3 : ((List (Int × Bool × Int × (Int × Bool × (List Int) × (List Int) × Int × (List Int) × Unit) × Int × Int × Int × (List (Int × Int × Int × Int × Int × Unit)) × Unit)) × Int × Int × List Int) → Option (List Int)) (x3 : (List (Int × Bool × Int × (Int × Bool × (List Int) × (List Int) × Int × (List Int) × Unit) × Int × Int × Int × (List (Int × Int × Int × Int × Int × Unit)) × Unit)) × Int × Int × List Int) : Option (List Int) :=
  bif decide (x3.2.2.1 < x3.2.1) then
    cutv 1 (proc_Handles_C1 x3) (proc_Handles_R1 k3)
  else
    proc_Handles_J3 a0 x3.2.2.2
def proc_Handles (a0 : List (Int × Bool × Int × (Int × Bool × (List Int) × (List Int) × Int × (List Int) × Unit) × Int × Int × Int × (List (Int × Int × Int × Int × Int × Unit)) × Unit)) : Option (List Int) :=
  Option.bind (proc_Fine a0) fun r1 =>
  bif !r1 then
    loop proc_Handles_L1 ()
  else
    loop (proc_Handles_L3 a0) (a0, (a0.length : Int), 0, [])
def proc_with (a0 : List (Int × Bool × Int × (Int × Bool × (List Int) × (List Int) × Int × (List Int) × Unit) × Int × Int × Int × (List (Int × Int × Int × Int × Int × Unit)) × Unit)) (a1 : Int) (a2 : Int × Bool × Int × (Int × Bool × (List Int) × (List Int) × Int × (List Int) × Unit) × Int × Int × Int × (List (Int × Int × Int × Int × Int × Unit)) × Unit) : Option (List (Int × Bool × Int × (Int × Bool × (List Int) × (List Int) × Int × (List Int) × Unit) × Int × Int × Int × (List (Int × Int × Int × Int × Int × Unit)) × Unit)) :=
  chk ((a0.length : Int) = (a0.length : Int) ∧ 0 ≤ (a0.length : Int) ∧ (a0.length : Int) ≤ 4294967296) <|
  letv (List.replicate (a0.length : Int).toNat (0, false, 0, (0, false, (List.replicate 8 0), (List.replicate 16 0), 0, (List.replicate 8 0), ()), 0, 0, 0, [], ())) fun l1 =>
  chk (0 ≤ a1 ∧ a1 < ((a0.take l1.length ++ l1.drop a0.length).length : Int)) <|
  letv ((a0.take l1.length ++ l1.drop a0.length).set a1.toNat a2) fun l2 =>
  some l2
def proc_Spawn_J1 (a0 : List (Int × Bool × Int × (Int × Bool × (List Int) × (List Int) × Int × (List Int) × Unit) × Int × Int × Int × (List (Int × Int × Int × Int × Int × Unit)) × Unit)) : Option ((List (Int × Bool × Int × (Int × Bool × (List Int) × (List Int) × Int × (List Int) × Unit) × Int × Int × Int × (List (Int × Int × Int × Int × Int × Unit)) × Unit)) × Int × Int × Unit) :=
  some (a0, 0, 10, ())
def proc_Spawn_L1 (p1 : Int) (a0 : List (Int × Bool × Int × (Int × Bool × (List Int) × (List Int) × Int × (List Int) × Unit) × Int × Int × Int × (List (Int × Int × Int × Int × Int × Unit)) × Unit)) (a2 : Int) (a1 : Int) (k1 : Int → Option ((List (Int × Bool × Int × (Int × Bool × (List Int) × (List Int) × Int × (List Int) × Unit) × Int × Int × Int × (List (Int × Int × Int × Int × Int × Unit)) × Unit)) × Int × Int × Unit)) (x1 : Int) : Option ((List (Int × Bool × Int × (Int × Bool × (List Int) × (List Int) × Int × (List Int) × Unit) × Int × Int × Int × (List (Int × Int × Int × Int × Int × Unit)) × Unit)) × Int × Int × Unit) :=
  bif decide (x1 < p1) then
    chk (0 ≤ x1 ∧ x1 < (a0.length : Int)) <|
    bif (a0.getD x1.toNat (0, false, 0, (0, false, (List.replicate 8 0), (List.replicate 16 0), 0, (List.replicate 8 0), ()), 0, 0, 0, [], ())).2.1 then
      k1 (IntKind.i64.wrap (x1 + 1))
    else
      bif decide ((a0.getD x1.toNat (0, false, 0, (0, false, (List.replicate 8 0), (List.replicate 16 0), 0, (List.replicate 8 0), ()), 0, 0, 0, [], ())).1 = 65535) then
        k1 (IntKind.i64.wrap (x1 + 1))
      else
        Option.bind (frame_New a2) fun r3 =>
        bif !decide (r3.2.1 = 0) then
          some (a0, 0, r3.2.1, ())
        else
          Option.bind (handle_Make x1 (IntKind.i64.wrap ((a0.getD x1.toNat (0, false, 0, (0, false, (List.replicate 8 0), (List.replicate 16 0), 0, (List.replicate 8 0), ()), 0, 0, 0, [], ())).1 + 1))) fun r4 =>
          Option.bind (proc_with a0 x1 (IntKind.i64.wrap ((a0.getD x1.toNat (0, false, 0, (0, false, (List.replicate 8 0), (List.replicate 16 0), 0, (List.replicate 8 0), ()), 0, 0, 0, [], ())).1 + 1), true, a1, r3.1, 0, 0, 0, [], ())) fun r5 =>
          some (r5, r4.1, r4.2.1, ())
  else
    proc_Spawn_J1 a0
def proc_Spawn (a0 : List (Int × Bool × Int × (Int × Bool × (List Int) × (List Int) × Int × (List Int) × Unit) × Int × Int × Int × (List (Int × Int × Int × Int × Int × Unit)) × Unit)) (a1 : Int) (a2 : Int) : Option ((List (Int × Bool × Int × (Int × Bool × (List Int) × (List Int) × Int × (List Int) × Unit) × Int × Int × Int × (List (Int × Int × Int × Int × Int × Unit)) × Unit)) × Int × Int × Unit) :=
  Option.bind (proc_Fine a0) fun r1 =>
  bif !r1 then
    some (a0, 0, 1, ())
  else
    Option.bind (word_Fine a2) fun r2 =>
    bif !r2 then
      some (a0, 0, 8, ())
    else
      loop (proc_Spawn_L1 (a0.length : Int) a0 a2 a1) 0
def proc_End (a0 : List (Int × Bool × Int × (Int × Bool × (List Int) × (List Int) × Int × (List Int) × Unit) × Int × Int × Int × (List (Int × Int × Int × Int × Int × Unit)) × Unit)) (a1 : Int) (a2 : Int) : Option ((List (Int × Bool × Int × (Int × Bool × (List Int) × (List Int) × Int × (List Int) × Unit) × Int × Int × Int × (List (Int × Int × Int × Int × Int × Unit)) × Unit)) × Int × Unit) :=
  Option.bind (proc_Fine a0) fun r1 =>
  bif !r1 then
    some (a0, 1, ())
  else
    Option.bind (proc_there a0 a1) fun r2 =>
    bif !r2 then
      some (a0, 8, ())
    else
      chk (0 ≤ a1 ∧ a1 < (a0.length : Int)) <|
      letv (!decide ((a0.getD a1.toNat (0, false, 0, (0, false, (List.replicate 8 0), (List.replicate 16 0), 0, (List.replicate 8 0), ()), 0, 0, 0, [], ())).2.2.2.2.1 = 0)) fun v1 =>
      bif v1 then
        some (a0, 13, ())
      else
        chk (0 ≤ a1 ∧ a1 < (a0.length : Int)) <|
        Option.bind (proc_with a0 a1 ((a0.getD a1.toNat (0, false, 0, (0, false, (List.replicate 8 0), (List.replicate 16 0), 0, (List.replicate 8 0), ()), 0, 0, 0, [], ())).1, (a0.getD a1.toNat (0, false, 0, (0, false, (List.replicate 8 0), (List.replicate 16 0), 0, (List.replicate 8 0), ()), 0, 0, 0, [], ())).2.1, (a0.getD a1.toNat (0, false, 0, (0, false, (List.replicate 8 0), (List.replicate 16 0), 0, (List.replicate 8 0), ()), 0, 0, 0, [], ())).2.2.1, (a0.getD a1.toNat (0, false, 0, (0, false, (List.replicate 8 0), (List.replicate 16 0), 0, (List.replicate 8 0), ()), 0, 0, 0, [], ())).2.2.2.1, 3, a2, (a0.getD a1.toNat (0, false, 0, (0, false, (List.replicate 8 0), (List.replicate 16 0), 0, (List.replicate 8 0), ()), 0, 0, 0, [], ())).2.2.2.2.2.2.1, (a0.getD a1.toNat (0, false, 0, (0, false, (List.replicate 8 0), (List.replicate 16 0), 0, (List.replicate 8 0), ()), 0, 0, 0, [], ())).2.2.2.2.2.2.2.1, ())) fun r3 =>
        some (r3, 0, ())
def proc_Reap (a0 : List (Int × Bool × Int × (Int × Bool × (List Int) × (List Int) × Int × (List Int) × Unit) × Int × Int × Int × (List (Int × Int × Int × Int × Int × Unit)) × Unit)) (a1 : Int) : Option ((List (Int × Bool × Int × (Int × Bool × (List Int) × (List Int) × Int × (List Int) × Unit) × Int × Int × Int × (List (Int × Int × Int × Int × Int × Unit)) × Unit)) × Int × Int × Unit) :=
  Option.bind (proc_Find a0 a1) fun r1 =>
  bif !decide (r1.2.1 = 0) then
    some (a0, 0, r1.2.1, ())
  else
    chk (0 ≤ r1.1 ∧ r1.1 < (a0.length : Int)) <|
    letv (!decide ((a0.getD r1.1.toNat (0, false, 0, (0, false, (List.replicate 8 0), (List.replicate 16 0), 0, (List.replicate 8 0), ()), 0, 0, 0, [], ())).2.2.2.2.1 = 3)) fun v1 =>
    bif v1 then
      some (a0, 0, 13, ())
    else
      chk (0 ≤ r1.1 ∧ r1.1 < (a0.length : Int)) <|
      chk (0 ≤ r1.1 ∧ r1.1 < (a0.length : Int)) <|
      Option.bind (proc_with a0 r1.1 ((a0.getD r1.1.toNat (0, false, 0, (0, false, (List.replicate 8 0), (List.replicate 16 0), 0, (List.replicate 8 0), ()), 0, 0, 0, [], ())).1, false, 0, (0, false, (List.replicate 8 0), (List.replicate 16 0), 0, (List.replicate 8 0), ()), 0, 0, 0, [], ())) fun r2 =>
      letv ((a0.getD r1.1.toNat (0, false, 0, (0, false, (List.replicate 8 0), (List.replicate 16 0), 0, (List.replicate 8 0), ()), 0, 0, 0, [], ())).2.2.2.2.2.1) fun v2 =>
      some (r2, v2, 0, ())
def proc_New : Option (List (Int × Bool × Int × (Int × Bool × (List Int) × (List Int) × Int × (List Int) × Unit) × Int × Int × Int × (List (Int × Int × Int × Int × Int × Unit)) × Unit)) :=
  chk ((16 : Int) = (16 : Int) ∧ 0 ≤ (16 : Int) ∧ (16 : Int) ≤ 4294967296) <|
  letv (List.replicate (16 : Int).toNat (0, false, 0, (0, false, (List.replicate 8 0), (List.replicate 16 0), 0, (List.replicate 8 0), ()), 0, 0, 0, [], ())) fun l1 =>
  some l1
end Go.Proofs.YtejedlpnejjnbaaSV
