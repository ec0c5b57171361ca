import Derived.Test.YtkpobmmabmelfaaDoorVcG1
import Derived.Test.YtkpobmmabmelfaaDoorDL22
import Derived.Test.YtkpobmmabmelfaaDoorDR02
import Derived.Test.YtkpobmmabmelfaaDoorDR23
import Derived.Test.YtkpobmmabmelfaaDoorDbarrier
import Derived.Test.YtkpobmmabmelfaaDoorDbartab
import Derived.Test.YtkpobmmabmelfaaDoorDbitset
namespace Go.Proofs.YtkpobmmabmelfaaDoorV
set_option linter.unusedVariables false
def L23_Small_J1 (a0 : List ((Bool × Int × Unit) × ((List Int) × (List Int) × Unit) × Int × Unit)) : Option Bool :=
  some (decide ((a0.length : Int) ≤ 10))
def L23_Small_L1 (p1 : Int) (a0 : List ((Bool × Int × Unit) × ((List Int) × (List Int) × Unit) × Int × Unit)) (k1 : Int → Option Bool) (x1 : Int) : Option Bool :=
  bif decide (x1 < p1) then
    chk (0 ≤ x1 ∧ x1 < (a0.length : Int)) <|
    Option.bind (L22_Small (a0.getD x1.toNat ((false, 0, ()), ([], [], ()), 0, ()))) fun r1 =>
    bif !r1 then
      some false
    else
      k1 (IntKind.i64.wrap (x1 + 1))
  else
    L23_Small_J1 a0
def L23_Small (a0 : List ((Bool × Int × Unit) × ((List Int) × (List Int) × Unit) × Int × Unit)) : Option Bool :=
  loop (L23_Small_L1 (a0.length : Int) a0) 0
def L23_alive : Option Bool :=
  Option.bind (bartab_New [(true, 5, ()), (false, 5, ())]) fun r1 =>
  Option.bind (bartab_Enrol r1.1 0 3) fun r2 =>
  Option.bind (bartab_Enrol r2.1 1 3) fun r3 =>
  letv ([(3, 0, 0, 0, 0, ()), (3, 1, 0, 0, 0, ())]) fun l1 =>
  Option.bind (bartab_Offer r3.1 3 l1 true) fun r4 =>
  Option.bind (bartab_Offer r3.1 3 [(3, 0, 0, 0, 0, ())] true) fun r5 =>
  Option.bind (bartab_Fire r5.1 0) fun r6 =>
  Option.bind (bartab_Resign r6.1 2 3) fun r7 =>
  bif decide (r1.2.1 = 0) then
    bif decide (r1.2.2.1 = 0) then
      bif decide (r2.2.1 = 0) then
        bif decide (r3.2.1 = 0) then
          bif decide (r4.2.1 = 1) then
            bif decide (r4.2.2.1 = 12) then
              bif decide (r5.2.2.1 = 0) then
                Option.bind (bartab_Ready r5.1) fun r8 =>
                Option.bind (R02_Same r8 [0]) fun r9 =>
                bif r9 then
                  Option.bind (bartab_Leave r5.1 3) fun r10 =>
                  Option.bind (bartab_Ready r10) fun r11 =>
                  bif decide ((r11.length : Int) = 0) then
                    bif decide (r6.2.2.1 = 0) then
                      Option.bind (R02_Same r6.2.1 [3]) fun r12 =>
                      bif r12 then
                        bif decide (r7.2.1 = 8) then
                          Option.bind (bartab_Quit r6.1 3) fun r13 =>
                          chk (0 ≤ (1 : Int) ∧ (1 : Int) < (r13.length : Int)) <|
                          letv (decide (((r13.getD (1 : Int).toNat ((false, 0, ()), ((List.replicate 4 0), (List.replicate 4 0), ()), 0, ())).2.1.1 : List Int) = (List.replicate 4 0))) fun v1 =>
                          some v1
                        else
                          some false
                      else
                        some false
                    else
                      some false
                  else
                    some false
                else
                  some false
              else
                some false
            else
              some false
          else
            some false
        else
          some false
      else
        some false
    else
      some false
  else
    some false
def L23_Plain_J1 (p1 : List ((Bool × Int × Unit) × ((List Int) × (List Int) × Unit) × Int × Unit)) : Option (List ((Bool × Int × Unit) × ((List Int) × (List Int) × Unit) × Int × Unit)) :=
  some p1
def L23_Plain_L1 (p2 : Int) (a0 : List ((Bool × Int × Unit) × ((List Int) × (List Int) × Unit) × Int × Unit)) (k1 : (Int × (List ((Bool × Int × Unit) × ((List Int) × (List Int) × Unit) × Int × Unit))) → Option (List ((Bool × Int × Unit) × ((List Int) × (List Int) × Unit) × Int × Unit))) (x1 : Int × (List ((Bool × Int × Unit) × ((List Int) × (List Int) × Unit) × Int × Unit))) : Option (List ((Bool × Int × Unit) × ((List Int) × (List Int) × Unit) × Int × Unit)) :=
  bif decide (x1.1 < p2) then
    chk (0 ≤ x1.1 ∧ x1.1 < (a0.length : Int)) <|
    Option.bind (L22_Plain (a0.getD x1.1.toNat ((false, 0, ()), ([], [], ()), 0, ()))) fun r1 =>
    chk (x1.2.length + ([r1] : List ((Bool × Int × Unit) × ((List Int) × (List Int) × Unit) × Int × Unit)).length ≤ 4294967296) <|
    k1 (IntKind.i64.wrap (x1.1 + 1), x1.2 ++ [r1])
  else
    L23_Plain_J1 x1.2
def L23_Plain (a0 : List ((Bool × Int × Unit) × ((List Int) × (List Int) × Unit) × Int × Unit)) : Option (List ((Bool × Int × Unit) × ((List Int) × (List Int) × Unit) × Int × Unit)) :=
  loop (L23_Plain_L1 (a0.length : Int) a0) (0, [])
def L23_To_J1 (p1 : List ((Bool × Int × Unit) × ((List Int) × (List Int) × Unit) × Int × Unit)) : Option (List ((Bool × Int × Unit) × ((List Int) × (List Int) × Unit) × Int × Unit)) :=
  some p1
def L23_To_L1 (p2 : Int) (a0 : List ((Bool × Int × Unit) × ((List Int) × (List Int) × Unit) × Int × Unit)) (k1 : (Int × (List ((Bool × Int × Unit) × ((List Int) × (List Int) × Unit) × Int × Unit))) → Option (List ((Bool × Int × Unit) × ((List Int) × (List Int) × Unit) × Int × Unit))) (x1 : Int × (List ((Bool × Int × Unit) × ((List Int) × (List Int) × Unit) × Int × Unit))) : Option (List ((Bool × Int × Unit) × ((List Int) × (List Int) × Unit) × Int × Unit)) :=
  bif decide (x1.1 < p2) then
    chk (0 ≤ x1.1 ∧ x1.1 < (a0.length : Int)) <|
    Option.bind (L22_To (a0.getD x1.1.toNat ((false, 0, ()), ([], [], ()), 0, ()))) fun r1 =>
    chk (x1.2.length + ([r1] : List ((Bool × Int × Unit) × ((List Int) × (List Int) × Unit) × Int × Unit)).length ≤ 4294967296) <|
    k1 (IntKind.i64.wrap (x1.1 + 1), x1.2 ++ [r1])
  else
    L23_To_J1 x1.2
def L23_To (a0 : List ((Bool × Int × Unit) × ((List Int) × (List Int) × Unit) × Int × Unit)) : Option (List ((Bool × Int × Unit) × ((List Int) × (List Int) × Unit) × Int × Unit)) :=
  loop (L23_To_L1 (a0.length : Int) a0) (0, [])
def L23_Same_J1 : Option Bool :=
  some true
def L23_Same_L1 (p1 : Int) (a0 : List ((Bool × Int × Unit) × ((List Int) × (List Int) × Unit) × Int × Unit)) (a1 : List ((Bool × Int × Unit) × ((List Int) × (List Int) × Unit) × Int × Unit)) (k1 : Int → Option Bool) (x1 : Int) : Option Bool :=
  bif decide (x1 < p1) then
    chk (0 ≤ x1 ∧ x1 < (a0.length : Int)) <|
    chk (0 ≤ x1 ∧ x1 < (a1.length : Int)) <|
    Option.bind (L22_Same (a0.getD x1.toNat ((false, 0, ()), ([], [], ()), 0, ())) (a1.getD x1.toNat ((false, 0, ()), ([], [], ()), 0, ()))) fun r1 =>
    bif !r1 then
      some false
    else
      k1 (IntKind.i64.wrap (x1 + 1))
  else
    L23_Same_J1
def L23_Same (a0 : List ((Bool × Int × Unit) × ((List Int) × (List Int) × Unit) × Int × Unit)) (a1 : List ((Bool × Int × Unit) × ((List Int) × (List Int) × Unit) × Int × Unit)) : Option Bool :=
  bif !decide ((a0.length : Int) = (a1.length : Int)) then
    some false
  else
    loop (L23_Same_L1 (a0.length : Int) a0 a1) 0
def L23_From_J1 (p1 : List ((Bool × Int × Unit) × ((List Int) × (List Int) × Unit) × Int × Unit)) : Option (List ((Bool × Int × Unit) × ((List Int) × (List Int) × Unit) × Int × Unit)) :=
  some p1
def L23_From_L1 (p2 : Int) (a0 : List ((Bool × Int × Unit) × ((List Int) × (List Int) × Unit) × Int × Unit)) (k1 : (Int × (List ((Bool × Int × Unit) × ((List Int) × (List Int) × Unit) × Int × Unit))) → Option (List ((Bool × Int × Unit) × ((List Int) × (List Int) × Unit) × Int × Unit))) (x1 : Int × (List ((Bool × Int × Unit) × ((List Int) × (List Int) × Unit) × Int × Unit))) : Option (List ((Bool × Int × Unit) × ((List Int) × (List Int) × Unit) × Int × Unit)) :=
  bif decide (x1.1 < p2) then
    chk (0 ≤ x1.1 ∧ x1.1 < (a0.length : Int)) <|
    Option.bind (L22_From (a0.getD x1.1.toNat ((false, 0, ()), ((List.replicate 4 0), (List.replicate 4 0), ()), 0, ()))) fun r1 =>
    chk (x1.2.length + ([r1] : List ((Bool × Int × Unit) × ((List Int) × (List Int) × Unit) × Int × Unit)).length ≤ 4294967296) <|
    k1 (IntKind.i64.wrap (x1.1 + 1), x1.2 ++ [r1])
  else
    L23_From_J1 x1.2
def L23_From (a0 : List ((Bool × Int × Unit) × ((List Int) × (List Int) × Unit) × Int × Unit)) : Option (List ((Bool × Int × Unit) × ((List Int) × (List Int) × Unit) × Int × Unit)) :=
  loop (L23_From_L1 (a0.length : Int) a0) (0, [])
end Go.Proofs.YtkpobmmabmelfaaDoorV
