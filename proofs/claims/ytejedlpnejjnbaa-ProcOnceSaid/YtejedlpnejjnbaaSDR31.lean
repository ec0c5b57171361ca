import Derived.Test.YtejedlpnejjnbaaSVcMt
import Derived.Test.YtejedlpnejjnbaaSDR01
import Derived.Test.YtejedlpnejjnbaaSDR13
import Derived.Test.YtejedlpnejjnbaaSDR15
import Derived.Test.YtejedlpnejjnbaaSDbase
namespace Go.Proofs.YtejedlpnejjnbaaSV
set_option linter.unusedVariables false
def R31_SameProc (a0 : Int × Bool × Int × (Int × Bool × (List Int) × (List Int) × Int × (List Int) × Unit) × Int × Int × Int × (List (Int × Int × Int × Int × Int × Unit)) × Unit) (a1 : Int × Bool × Int × (Int × Bool × (List Int) × (List Int) × Int × (List Int) × Unit) × Int × Int × Int × (List (Int × Int × Int × Int × Int × Unit)) × Unit) : Option Bool :=
  bif decide (a0.1 = a1.1) then
    bif a0.2.1 == a1.2.1 then
      bif decide (a0.2.2.1 = a1.2.2.1) then
        bif (decide (a0.2.2.2.1.1 = a1.2.2.2.1.1)) && ((a0.2.2.2.1.2.1 == a1.2.2.2.1.2.1) && ((decide ((a0.2.2.2.1.2.2.1 : List Int) = a1.2.2.2.1.2.2.1)) && ((decide ((a0.2.2.2.1.2.2.2.1 : List Int) = a1.2.2.2.1.2.2.2.1)) && ((decide (a0.2.2.2.1.2.2.2.2.1 = a1.2.2.2.1.2.2.2.2.1)) && ((decide ((a0.2.2.2.1.2.2.2.2.2.1 : List Int) = a1.2.2.2.1.2.2.2.2.2.1)) && true))))) then
          bif decide (a0.2.2.2.2.1 = a1.2.2.2.2.1) then
            bif decide (a0.2.2.2.2.2.1 = a1.2.2.2.2.2.1) then
              bif decide (a0.2.2.2.2.2.2.1 = a1.2.2.2.2.2.2.1) then
                Option.bind (R15_SameGuards a0.2.2.2.2.2.2.2.1 a1.2.2.2.2.2.2.2.1) fun r1 =>
                some r1
              else
                some false
            else
              some false
          else
            some false
        else
          some false
      else
        some false
    else
      some false
  else
    some false
def R31_Fine_J1 : Option Bool :=
  some true
def R31_Fine_C1 (x1 : (List (Int × Bool × Int × (Int × Bool × (List Int) × (List Int) × Int × (List Int) × Unit) × Int × Int × Int × (List (Int × Int × Int × Int × Int × Unit)) × Unit)) × Int) (k2 : ((List (Int × Bool × Int × (Int × Bool × (List Int) × (List Int) × Int × (List Int) × Unit) × Int × Int × Int × (List (Int × Int × Int × Int × Int × Unit)) × Unit)) × Int) → Option Bool) : Option Bool :=
  chk (0 ≤ x1.2 ∧ x1.2 < (x1.1.length : Int)) <|
  bif decide ((x1.1.getD x1.2.toNat (0, false, 0, (0, false, (List.replicate 8 0), (List.replicate 16 0), 0, (List.replicate 8 0), ()), 0, 0, 0, [], ())).1 < 0) then
    some false
  else
    bif decide ((x1.1.getD x1.2.toNat (0, false, 0, (0, false, (List.replicate 8 0), (List.replicate 16 0), 0, (List.replicate 8 0), ()), 0, 0, 0, [], ())).1 > 65535) then
      some false
    else
      bif !(x1.1.getD x1.2.toNat (0, false, 0, (0, false, (List.replicate 8 0), (List.replicate 16 0), 0, (List.replicate 8 0), ()), 0, 0, 0, [], ())).2.1 then
        Option.bind (R31_SameProc (x1.1.getD x1.2.toNat (0, false, 0, (0, false, (List.replicate 8 0), (List.replicate 16 0), 0, (List.replicate 8 0), ()), 0, 0, 0, [], ())) ((x1.1.getD x1.2.toNat (0, false, 0, (0, false, (List.replicate 8 0), (List.replicate 16 0), 0, (List.replicate 8 0), ()), 0, 0, 0, [], ())).1, false, 0, (0, false, (List.replicate 8 0), (List.replicate 16 0), 0, (List.replicate 8 0), ()), 0, 0, 0, [], ())) fun r1 =>
        bif !r1 then
          some false
        else
          bif (x1.1.getD x1.2.toNat (0, false, 0, (0, false, (List.replicate 8 0), (List.replicate 16 0), 0, (List.replicate 8 0), ()), 0, 0, 0, [], ())).2.1 then
            bif decide ((x1.1.getD x1.2.toNat (0, false, 0, (0, false, (List.replicate 8 0), (List.replicate 16 0), 0, (List.replicate 8 0), ()), 0, 0, 0, [], ())).1 = 0) then
              some false
            else
              bif decide ((x1.1.getD x1.2.toNat (0, false, 0, (0, false, (List.replicate 8 0), (List.replicate 16 0), 0, (List.replicate 8 0), ()), 0, 0, 0, [], ())).2.2.2.2.1 < 0) then
                some false
              else
                bif decide ((x1.1.getD x1.2.toNat (0, false, 0, (0, false, (List.replicate 8 0), (List.replicate 16 0), 0, (List.replicate 8 0), ()), 0, 0, 0, [], ())).2.2.2.2.1 > 3) then
                  some false
                else
                  Option.bind (R13_Fine (x1.1.getD x1.2.toNat (0, false, 0, (0, false, (List.replicate 8 0), (List.replicate 16 0), 0, (List.replicate 8 0), ()), 0, 0, 0, [], ())).2.2.2.1) fun r2 =>
                  bif !r2 then
                    some false
                  else
                    bif decide ((x1.1.getD x1.2.toNat (0, false, 0, (0, false, (List.replicate 8 0), (List.replicate 16 0), 0, (List.replicate 8 0), ()), 0, 0, 0, [], ())).2.2.2.2.1 = 1) then
                      bif decide (((x1.1.getD x1.2.toNat (0, false, 0, (0, false, (List.replicate 8 0), (List.replicate 16 0), 0, (List.replicate 8 0), ()), 0, 0, 0, [], ())).2.2.2.2.2.2.2.1.length : Int) = 0) then
                        some false
                      else
                        bif !decide ((x1.1.getD x1.2.toNat (0, false, 0, (0, false, (List.replicate 8 0), (List.replicate 16 0), 0, (List.replicate 8 0), ()), 0, 0, 0, [], ())).2.2.2.2.1 = 1) then
                          bif decide (((x1.1.getD x1.2.toNat (0, false, 0, (0, false, (List.replicate 8 0), (List.replicate 16 0), 0, (List.replicate 8 0), ()), 0, 0, 0, [], ())).2.2.2.2.2.2.2.1.length : Int) > 0) then
                            some false
                          else
                            k2 (x1.1, x1.2)
                        else
                          k2 (x1.1, x1.2)
                    else
                      bif !decide ((x1.1.getD x1.2.toNat (0, false, 0, (0, false, (List.replicate 8 0), (List.replicate 16 0), 0, (List.replicate 8 0), ()), 0, 0, 0, [], ())).2.2.2.2.1 = 1) then
                        bif decide (((x1.1.getD x1.2.toNat (0, false, 0, (0, false, (List.replicate 8 0), (List.replicate 16 0), 0, (List.replicate 8 0), ()), 0, 0, 0, [], ())).2.2.2.2.2.2.2.1.length : Int) > 0) then
                          some false
                        else
                          k2 (x1.1, x1.2)
                      else
                        k2 (x1.1, x1.2)
          else
            k2 (x1.1, x1.2)
      else
        bif (x1.1.getD x1.2.toNat (0, false, 0, (0, false, (List.replicate 8 0), (List.replicate 16 0), 0, (List.replicate 8 0), ()), 0, 0, 0, [], ())).2.1 then
          bif decide ((x1.1.getD x1.2.toNat (0, false, 0, (0, false, (List.replicate 8 0), (List.replicate 16 0), 0, (List.replicate 8 0), ()), 0, 0, 0, [], ())).1 = 0) then
            some false
          else
            bif decide ((x1.1.getD x1.2.toNat (0, false, 0, (0, false, (List.replicate 8 0), (List.replicate 16 0), 0, (List.replicate 8 0), ()), 0, 0, 0, [], ())).2.2.2.2.1 < 0) then
              some false
            else
              bif decide ((x1.1.getD x1.2.toNat (0, false, 0, (0, false, (List.replicate 8 0), (List.replicate 16 0), 0, (List.replicate 8 0), ()), 0, 0, 0, [], ())).2.2.2.2.1 > 3) then
                some false
              else
                Option.bind (R13_Fine (x1.1.getD x1.2.toNat (0, false, 0, (0, false, (List.replicate 8 0), (List.replicate 16 0), 0, (List.replicate 8 0), ()), 0, 0, 0, [], ())).2.2.2.1) fun r3 =>
                bif !r3 then
                  some false
                else
                  bif decide ((x1.1.getD x1.2.toNat (0, false, 0, (0, false, (List.replicate 8 0), (List.replicate 16 0), 0, (List.replicate 8 0), ()), 0, 0, 0, [], ())).2.2.2.2.1 = 1) then
                    bif decide (((x1.1.getD x1.2.toNat (0, false, 0, (0, false, (List.replicate 8 0), (List.replicate 16 0), 0, (List.replicate 8 0), ()), 0, 0, 0, [], ())).2.2.2.2.2.2.2.1.length : Int) = 0) then
                      some false
                    else
                      bif !decide ((x1.1.getD x1.2.toNat (0, false, 0, (0, false, (List.replicate 8 0), (List.replicate 16 0), 0, (List.replicate 8 0), ()), 0, 0, 0, [], ())).2.2.2.2.1 = 1) then
                        bif decide (((x1.1.getD x1.2.toNat (0, false, 0, (0, false, (List.replicate 8 0), (List.replicate 16 0), 0, (List.replicate 8 0), ()), 0, 0, 0, [], ())).2.2.2.2.2.2.2.1.length : Int) > 0) then
                          some false
                        else
                          k2 (x1.1, x1.2)
                      else
                        k2 (x1.1, x1.2)
                  else
                    bif !decide ((x1.1.getD x1.2.toNat (0, false, 0, (0, false, (List.replicate 8 0), (List.replicate 16 0), 0, (List.replicate 8 0), ()), 0, 0, 0, [], ())).2.2.2.2.1 = 1) then
                      bif decide (((x1.1.getD x1.2.toNat (0, false, 0, (0, false, (List.replicate 8 0), (List.replicate 16 0), 0, (List.replicate 8 0), ()), 0, 0, 0, [], ())).2.2.2.2.2.2.2.1.length : Int) > 0) then
                        some false
                      else
                        k2 (x1.1, x1.2)
                    else
                      k2 (x1.1, x1.2)
        else
          k2 (x1.1, x1.2)
def R31_Fine_R1 (k1 : ((List (Int × Bool × Int × (Int × Bool × (List Int) × (List Int) × Int × (List Int) × Unit) × Int × Int × Int × (List (Int × Int × Int × Int × Int × Unit)) × Unit)) × Int) → Option Bool) (x2 : (List (Int × Bool × Int × (Int × Bool × (List Int) × (List Int) × Int × (List Int) × Unit) × Int × Int × Int × (List (Int × Int × Int × Int × Int × Unit)) × Unit)) × Int) : Option Bool :=
  k1 (x2.1, IntKind.i64.wrap (x2.2 + 1))
def R31_Fine_L1 (k1 : ((List (Int × Bool × Int × (Int × Bool × (List Int) × (List Int) × Int × (List Int) × Unit) × Int × Int × Int × (List (Int × Int × Int × Int × Int × Unit)) × Unit)) × Int) → Option Bool) (x1 : (List (Int × Bool × Int × (Int × Bool × (List Int) × (List Int) × Int × (List Int) × Unit) × Int × Int × Int × (List (Int × Int × Int × Int × Int × Unit)) × Unit)) × Int) : Option Bool :=
  bif decide (x1.2 < 16) then
    cutv 1 (R31_Fine_C1 x1) (R31_Fine_R1 k1)
  else
    R31_Fine_J1
def R31_Fine (a0 : List (Int × Bool × Int × (Int × Bool × (List Int) × (List Int) × Int × (List Int) × Unit) × Int × Int × Int × (List (Int × Int × Int × Int × Int × Unit)) × Unit)) : Option Bool :=
  bif !decide ((a0.length : Int) = 16) then
    some false
  else
    loop R31_Fine_L1 (a0, 0)
def R31_Handle (a0 : List (Int × Bool × Int × (Int × Bool × (List Int) × (List Int) × Int × (List Int) × Unit) × Int × Int × Int × (List (Int × Int × Int × Int × Int × Unit)) × Unit)) (a1 : Int) : Option Int :=
  Option.bind (R31_Fine a0) fun r1 =>
  bif !r1 then
    some 0
  else
    bif decide (a1 < 0) then
      some 0
    else
      bif decide (a1 > 15) then
        some 0
      else
        chk (0 ≤ a1 ∧ a1 < (a0.length : Int)) <|
        bif !(a0.getD a1.toNat (0, false, 0, (0, false, (List.replicate 8 0), (List.replicate 16 0), 0, (List.replicate 8 0), ()), 0, 0, 0, [], ())).2.1 then
          some 0
        else
          chk (0 ≤ a1 ∧ a1 < (a0.length : Int)) <|
          Option.bind (R01_Make a1 (a0.getD a1.toNat (0, false, 0, (0, false, (List.replicate 8 0), (List.replicate 16 0), 0, (List.replicate 8 0), ()), 0, 0, 0, [], ())).1) fun r2 =>
          some r2.1
def R31_Find (a0 : List (Int × Bool × Int × (Int × Bool × (List Int) × (List Int) × Int × (List Int) × Unit) × Int × Int × Int × (List (Int × Int × Int × Int × Int × Unit)) × Unit)) (a1 : Int) : Option (Int × Int × Unit) :=
  Option.bind (R31_Fine a0) fun r1 =>
  bif !r1 then
    some (0, 1, ())
  else
    Option.bind (R01_Slot a1) fun r2 =>
    bif decide (r2 < 0) then
      some (0, 8, ())
    else
      bif decide (r2 > 15) then
        some (0, 8, ())
      else
        Option.bind (R31_Handle a0 r2) fun r3 =>
        bif !decide (r3 = a1) then
          some (0, 9, ())
        else
          some (r2, 0, ())
def R31_In_J1 (p1 : List Int) : Option (List Int) :=
  some p1
def R31_In_C1 (x1 : (List (Int × Bool × Int × (Int × Bool × (List Int) × (List Int) × Int × (List Int) × Unit) × Int × Int × Int × (List (Int × Int × Int × Int × Int × Unit)) × Unit)) × Int × Int × List Int) (k2 : ((List (Int × Bool × Int × (Int × Bool × (List Int) × (List Int) × Int × (List Int) × Unit) × Int × Int × Int × (List (Int × Int × Int × Int × Int × Unit)) × Unit)) × Int × Int × List Int) → Option (List Int)) : Option (List Int) :=
  chk (0 ≤ x1.2.2.1 ∧ x1.2.2.1 < (x1.1.length : Int)) <|
  bif (x1.1.getD x1.2.2.1.toNat (0, false, 0, (0, false, (List.replicate 8 0), (List.replicate 16 0), 0, (List.replicate 8 0), ()), 0, 0, 0, [], ())).2.1 then
    chk (0 ≤ x1.2.2.1 ∧ x1.2.2.1 < (x1.1.length : Int)) <|
    bif decide ((x1.1.getD x1.2.2.1.toNat (0, false, 0, (0, false, (List.replicate 8 0), (List.replicate 16 0), 0, (List.replicate 8 0), ()), 0, 0, 0, [], ())).2.2.2.2.1 = x1.2.1) then
      chk (x1.2.2.2.length + ([x1.2.2.1] : List Int).length ≤ 4294967296) <|
      k2 (x1.1, x1.2.1, x1.2.2.1, x1.2.2.2 ++ [x1.2.2.1])
    else
      k2 (x1.1, x1.2.1, x1.2.2.1, x1.2.2.2)
  else
    k2 (x1.1, x1.2.1, x1.2.2.1, x1.2.2.2)
def R31_In_R1 (k1 : ((List (Int × Bool × Int × (Int × Bool × (List Int) × (List Int) × Int × (List Int) × Unit) × Int × Int × Int × (List (Int × Int × Int × Int × Int × Unit)) × Unit)) × Int × Int × List Int) → Option (List Int)) (x2 : (List (Int × Bool × Int × (Int × Bool × (List Int) × (List Int) × Int × (List Int) × Unit) × Int × Int × Int × (List (Int × Int × Int × Int × Int × Unit)) × Unit)) × Int × Int × List Int) : Option (List Int) :=
  k1 (x2.1, x2.2.1, IntKind.i64.wrap (x2.2.2.1 + 1), x2.2.2.2)
def R31_In_L1 (k1 : ((List (Int × Bool × Int × (Int × Bool × (List Int) × (List Int) × Int × (List Int) × Unit) × Int × Int × Int × (List (Int × Int × Int × Int × Int × Unit)) × Unit)) × Int × Int × List Int) → Option (List Int)) (x1 : (List (Int × Bool × Int × (Int × Bool × (List Int) × (List Int) × Int × (List Int) × Unit) × Int × Int × Int × (List (Int × Int × Int × Int × Int × Unit)) × Unit)) × Int × Int × List Int) : Option (List Int) :=
  bif decide (x1.2.2.1 < 16) then
    Option.bind (R31_Fine x1.1) fun r1 =>
    bif r1 then
      cutv 1 (R31_In_C1 x1) (R31_In_R1 k1)
    else
      R31_In_J1 x1.2.2.2
  else
    R31_In_J1 x1.2.2.2
def R31_In (a0 : List (Int × Bool × Int × (Int × Bool × (List Int) × (List Int) × Int × (List Int) × Unit) × Int × Int × Int × (List (Int × Int × Int × Int × Int × Unit)) × Unit)) (a1 : Int) : Option (List Int) :=
  loop R31_In_L1 (a0, a1, 0, [])
def R31_Handles_J1 (p1 : List Int) : Option (List Int) :=
  some p1
def R31_Handles_C1 (x1 : (List (Int × Bool × Int × (Int × Bool × (List Int) × (List Int) × Int × (List Int) × Unit) × Int × Int × Int × (List (Int × Int × Int × Int × Int × Unit)) × Unit)) × Int × List Int) (k2 : ((List (Int × Bool × Int × (Int × Bool × (List Int) × (List Int) × Int × (List Int) × Unit) × Int × Int × Int × (List (Int × Int × Int × Int × Int × Unit)) × Unit)) × Int × List Int) → Option (List Int)) : Option (List Int) :=
  chk (0 ≤ x1.2.1 ∧ x1.2.1 < (x1.1.length : Int)) <|
  bif (x1.1.getD x1.2.1.toNat (0, false, 0, (0, false, (List.replicate 8 0), (List.replicate 16 0), 0, (List.replicate 8 0), ()), 0, 0, 0, [], ())).2.1 then
    chk (0 ≤ x1.2.1 ∧ x1.2.1 < (x1.1.length : Int)) <|
    bif !decide ((x1.1.getD x1.2.1.toNat (0, false, 0, (0, false, (List.replicate 8 0), (List.replicate 16 0), 0, (List.replicate 8 0), ()), 0, 0, 0, [], ())).2.2.2.2.1 = 3) then
      Option.bind (R31_Handle x1.1 x1.2.1) fun r2 =>
      chk (x1.2.2.length + ([r2] : List Int).length ≤ 4294967296) <|
      k2 (x1.1, x1.2.1, x1.2.2 ++ [r2])
    else
      k2 (x1.1, x1.2.1, x1.2.2)
  else
    k2 (x1.1, x1.2.1, x1.2.2)
def R31_Handles_R1 (k1 : ((List (Int × Bool × Int × (Int × Bool × (List Int) × (List Int) × Int × (List Int) × Unit) × Int × Int × Int × (List (Int × Int × Int × Int × Int × Unit)) × Unit)) × Int × List Int) → Option (List Int)) (x2 : (List (Int × Bool × Int × (Int × Bool × (List Int) × (List Int) × Int × (List Int) × Unit) × Int × Int × Int × (List (Int × Int × Int × Int × Int × Unit)) × Unit)) × Int × List Int) : Option (List Int) :=
  k1 (x2.1, IntKind.i64.wrap (x2.2.1 + 1), x2.2.2)
def R31_Handles_L1 (k1 : ((List (Int × Bool × Int × (Int × Bool × (List Int) × (List Int) × Int × (List Int) × Unit) × Int × Int × Int × (List (Int × Int × Int × Int × Int × Unit)) × Unit)) × Int × List Int) → Option (List Int)) (x1 : (List (Int × Bool × Int × (Int × Bool × (List Int) × (List Int) × Int × (List Int) × Unit) × Int × Int × Int × (List (Int × Int × Int × Int × Int × Unit)) × Unit)) × Int × List Int) : Option (List Int) :=
  bif decide (x1.2.1 < 16) then
    Option.bind (R31_Fine x1.1) fun r1 =>
    bif r1 then
      cutv 1 (R31_Handles_C1 x1) (R31_Handles_R1 k1)
    else
      R31_Handles_J1 x1.2.2
  else
    R31_Handles_J1 x1.2.2
def R31_Handles (a0 : List (Int × Bool × Int × (Int × Bool × (List Int) × (List Int) × Int × (List Int) × Unit) × Int × Int × Int × (List (Int × Int × Int × Int × Int × Unit)) × Unit)) : Option (List Int) :=
  loop R31_Handles_L1 (a0, 0, [])
def R31_Put (a0 : List (Int × Bool × Int × (Int × Bool × (List Int) × (List Int) × Int × (List Int) × Unit) × Int × Int × Int × (List (Int × Int × Int × Int × Int × Unit)) × Unit)) (a1 : Int) (a2 : Int × Bool × Int × (Int × Bool × (List Int) × (List Int) × Int × (List Int) × Unit) × Int × Int × Int × (List (Int × Int × Int × Int × Int × Unit)) × Unit) : Option (List (Int × Bool × Int × (Int × Bool × (List Int) × (List Int) × Int × (List Int) × Unit) × Int × Int × Int × (List (Int × Int × Int × Int × Int × Unit)) × Unit)) :=
  chk (a0.length ≤ 4294967296) <|
  chk (0 ≤ a1 ∧ a1 < (a0.length : Int)) <|
  some (a0.set a1.toNat a2)
def R31_Spawn_J1 (a0 : List (Int × Bool × Int × (Int × Bool × (List Int) × (List Int) × Int × (List Int) × Unit) × Int × Int × Int × (List (Int × Int × Int × Int × Int × Unit)) × Unit)) : Option ((List (Int × Bool × Int × (Int × Bool × (List Int) × (List Int) × Int × (List Int) × Unit) × Int × Int × Int × (List (Int × Int × Int × Int × Int × Unit)) × Unit)) × Int × Int × Unit) :=
  some (a0, 0, 10, ())
def R31_Spawn_L1 (a0 : List (Int × Bool × Int × (Int × Bool × (List Int) × (List Int) × Int × (List Int) × Unit) × Int × Int × Int × (List (Int × Int × Int × Int × Int × Unit)) × Unit)) (a2 : Int) (a1 : Int) (k1 : Int → Option ((List (Int × Bool × Int × (Int × Bool × (List Int) × (List Int) × Int × (List Int) × Unit) × Int × Int × Int × (List (Int × Int × Int × Int × Int × Unit)) × Unit)) × Int × Int × Unit)) (x1 : Int) : Option ((List (Int × Bool × Int × (Int × Bool × (List Int) × (List Int) × Int × (List Int) × Unit) × Int × Int × Int × (List (Int × Int × Int × Int × Int × Unit)) × Unit)) × Int × Int × Unit) :=
  bif decide (x1 < 16) then
    chk (0 ≤ x1 ∧ x1 < (a0.length : Int)) <|
    bif !(a0.getD x1.toNat (0, false, 0, (0, false, (List.replicate 8 0), (List.replicate 16 0), 0, (List.replicate 8 0), ()), 0, 0, 0, [], ())).2.1 then
      chk (0 ≤ x1 ∧ x1 < (a0.length : Int)) <|
      bif decide ((a0.getD x1.toNat (0, false, 0, (0, false, (List.replicate 8 0), (List.replicate 16 0), 0, (List.replicate 8 0), ()), 0, 0, 0, [], ())).1 < 65535) then
        Option.bind (R13_New a2) fun r3 =>
        chk (0 ≤ x1 ∧ x1 < (a0.length : Int)) <|
        Option.bind (R01_Make x1 (IntKind.i64.wrap ((a0.getD x1.toNat (0, false, 0, (0, false, (List.replicate 8 0), (List.replicate 16 0), 0, (List.replicate 8 0), ()), 0, 0, 0, [], ())).1 + 1))) fun r4 =>
        chk (0 ≤ x1 ∧ x1 < (a0.length : Int)) <|
        Option.bind (R31_Put a0 x1 (IntKind.i64.wrap ((a0.getD x1.toNat (0, false, 0, (0, false, (List.replicate 8 0), (List.replicate 16 0), 0, (List.replicate 8 0), ()), 0, 0, 0, [], ())).1 + 1), true, a1, r3.1, 0, 0, 0, [], ())) fun r5 =>
        some (r5, r4.1, 0, ())
      else
        k1 (IntKind.i64.wrap (x1 + 1))
    else
      k1 (IntKind.i64.wrap (x1 + 1))
  else
    R31_Spawn_J1 a0
def R31_Spawn (a0 : List (Int × Bool × Int × (Int × Bool × (List Int) × (List Int) × Int × (List Int) × Unit) × Int × Int × Int × (List (Int × Int × Int × Int × Int × Unit)) × Unit)) (a1 : Int) (a2 : Int) : Option ((List (Int × Bool × Int × (Int × Bool × (List Int) × (List Int) × Int × (List Int) × Unit) × Int × Int × Int × (List (Int × Int × Int × Int × Int × Unit)) × Unit)) × Int × Int × Unit) :=
  Option.bind (R31_Fine a0) fun r1 =>
  bif !r1 then
    some (a0, 0, 1, ())
  else
    Option.bind (R08_Fine a2) fun r2 =>
    bif !r2 then
      some (a0, 0, 8, ())
    else
      loop (R31_Spawn_L1 a0 a2 a1) 0
def R31_End (a0 : List (Int × Bool × Int × (Int × Bool × (List Int) × (List Int) × Int × (List Int) × Unit) × Int × Int × Int × (List (Int × Int × Int × Int × Int × Unit)) × Unit)) (a1 : Int) (a2 : Int) : Option ((List (Int × Bool × Int × (Int × Bool × (List Int) × (List Int) × Int × (List Int) × Unit) × Int × Int × Int × (List (Int × Int × Int × Int × Int × Unit)) × Unit)) × Int × Unit) :=
  Option.bind (R31_Fine a0) fun r1 =>
  bif !r1 then
    some (a0, 1, ())
  else
    bif decide (a1 < 0) then
      some (a0, 8, ())
    else
      bif decide (a1 > 15) then
        some (a0, 8, ())
      else
        chk (0 ≤ a1 ∧ a1 < (a0.length : Int)) <|
        bif !(a0.getD a1.toNat (0, false, 0, (0, false, (List.replicate 8 0), (List.replicate 16 0), 0, (List.replicate 8 0), ()), 0, 0, 0, [], ())).2.1 then
          some (a0, 8, ())
        else
          chk (0 ≤ a1 ∧ a1 < (a0.length : Int)) <|
          bif !decide ((a0.getD a1.toNat (0, false, 0, (0, false, (List.replicate 8 0), (List.replicate 16 0), 0, (List.replicate 8 0), ()), 0, 0, 0, [], ())).2.2.2.2.1 = 0) then
            some (a0, 13, ())
          else
            chk (0 ≤ a1 ∧ a1 < (a0.length : Int)) <|
            Option.bind (R31_Put a0 a1 ((a0.getD a1.toNat (0, false, 0, (0, false, (List.replicate 8 0), (List.replicate 16 0), 0, (List.replicate 8 0), ()), 0, 0, 0, [], ())).1, (a0.getD a1.toNat (0, false, 0, (0, false, (List.replicate 8 0), (List.replicate 16 0), 0, (List.replicate 8 0), ()), 0, 0, 0, [], ())).2.1, (a0.getD a1.toNat (0, false, 0, (0, false, (List.replicate 8 0), (List.replicate 16 0), 0, (List.replicate 8 0), ()), 0, 0, 0, [], ())).2.2.1, (a0.getD a1.toNat (0, false, 0, (0, false, (List.replicate 8 0), (List.replicate 16 0), 0, (List.replicate 8 0), ()), 0, 0, 0, [], ())).2.2.2.1, 3, a2, (a0.getD a1.toNat (0, false, 0, (0, false, (List.replicate 8 0), (List.replicate 16 0), 0, (List.replicate 8 0), ()), 0, 0, 0, [], ())).2.2.2.2.2.2.1, (a0.getD a1.toNat (0, false, 0, (0, false, (List.replicate 8 0), (List.replicate 16 0), 0, (List.replicate 8 0), ()), 0, 0, 0, [], ())).2.2.2.2.2.2.2.1, ())) fun r2 =>
            some (r2, 0, ())
def R31_Reap (a0 : List (Int × Bool × Int × (Int × Bool × (List Int) × (List Int) × Int × (List Int) × Unit) × Int × Int × Int × (List (Int × Int × Int × Int × Int × Unit)) × Unit)) (a1 : Int) : Option ((List (Int × Bool × Int × (Int × Bool × (List Int) × (List Int) × Int × (List Int) × Unit) × Int × Int × Int × (List (Int × Int × Int × Int × Int × Unit)) × Unit)) × Int × Int × Unit) :=
  Option.bind (R31_Find a0 a1) fun r1 =>
  bif !decide (r1.2.1 = 0) then
    some (a0, 0, r1.2.1, ())
  else
    chk (0 ≤ r1.1 ∧ r1.1 < (a0.length : Int)) <|
    bif !decide ((a0.getD r1.1.toNat (0, false, 0, (0, false, (List.replicate 8 0), (List.replicate 16 0), 0, (List.replicate 8 0), ()), 0, 0, 0, [], ())).2.2.2.2.1 = 3) then
      some (a0, 0, 13, ())
    else
      chk (0 ≤ r1.1 ∧ r1.1 < (a0.length : Int)) <|
      chk (0 ≤ r1.1 ∧ r1.1 < (a0.length : Int)) <|
      Option.bind (R31_Put a0 r1.1 ((a0.getD r1.1.toNat (0, false, 0, (0, false, (List.replicate 8 0), (List.replicate 16 0), 0, (List.replicate 8 0), ()), 0, 0, 0, [], ())).1, false, 0, (0, false, (List.replicate 8 0), (List.replicate 16 0), 0, (List.replicate 8 0), ()), 0, 0, 0, [], ())) fun r2 =>
      letv ((a0.getD r1.1.toNat (0, false, 0, (0, false, (List.replicate 8 0), (List.replicate 16 0), 0, (List.replicate 8 0), ()), 0, 0, 0, [], ())).2.2.2.2.2.1) fun v1 =>
      some (r2, v1, 0, ())
def R31_Same_J1 : Option Bool :=
  some true
def R31_Same_L1 (a0 : List (Int × Bool × Int × (Int × Bool × (List Int) × (List Int) × Int × (List Int) × Unit) × Int × Int × Int × (List (Int × Int × Int × Int × Int × Unit)) × Unit)) (a1 : List (Int × Bool × Int × (Int × Bool × (List Int) × (List Int) × Int × (List Int) × Unit) × Int × Int × Int × (List (Int × Int × Int × Int × Int × Unit)) × Unit)) (k1 : Int → Option Bool) (x1 : Int) : Option Bool :=
  bif decide (x1 < (a0.length : Int)) then
    chk (0 ≤ x1 ∧ x1 < (a0.length : Int)) <|
    chk (0 ≤ x1 ∧ x1 < (a1.length : Int)) <|
    Option.bind (R31_SameProc (a0.getD x1.toNat (0, false, 0, (0, false, (List.replicate 8 0), (List.replicate 16 0), 0, (List.replicate 8 0), ()), 0, 0, 0, [], ())) (a1.getD x1.toNat (0, false, 0, (0, false, (List.replicate 8 0), (List.replicate 16 0), 0, (List.replicate 8 0), ()), 0, 0, 0, [], ()))) fun r1 =>
    bif !r1 then
      some false
    else
      k1 (IntKind.i64.wrap (x1 + 1))
  else
    R31_Same_J1
def R31_Same (a0 : List (Int × Bool × Int × (Int × Bool × (List Int) × (List Int) × Int × (List Int) × Unit) × Int × Int × Int × (List (Int × Int × Int × Int × Int × Unit)) × Unit)) (a1 : List (Int × Bool × Int × (Int × Bool × (List Int) × (List Int) × Int × (List Int) × Unit) × Int × Int × Int × (List (Int × Int × Int × Int × Int × Unit)) × Unit)) : Option Bool :=
  bif !decide ((a0.length : Int) = (a1.length : Int)) then
    some false
  else
    loop (R31_Same_L1 a0 a1) 0
end Go.Proofs.YtejedlpnejjnbaaSV
