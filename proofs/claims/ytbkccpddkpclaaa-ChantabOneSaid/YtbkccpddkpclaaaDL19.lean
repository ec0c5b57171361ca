import Derived.Test.YtbkccpddkpclaaaVcG1
import Derived.Test.YtbkccpddkpclaaaDL18
import Derived.Test.YtbkccpddkpclaaaDR02
import Derived.Test.YtbkccpddkpclaaaDR19
import Derived.Test.YtbkccpddkpclaaaDchannel
import Derived.Test.YtbkccpddkpclaaaDchantab
namespace Go.Proofs.YtbkccpddkpclaaaV
set_option linter.unusedVariables false
def L19_Small_J1 : Option Bool :=
  some true
def L19_Small_L1 (p1 : Int) (a0 : List ((Int × Int × Int × Int × Unit) × Int × (List Int) × (Bool × (List Int) × Unit) × (List Int) × (Bool × (List Int) × Unit) × Unit)) (k1 : Int → Option Bool) (x1 : Int) : Option Bool :=
  bif decide (x1 < p1) then
    chk (0 ≤ x1 ∧ x1 < (a0.length : Int)) <|
    bif decide (((a0.getD x1.toNat ((0, 0, 0, 0, ()), 0, [], (false, [], ()), [], (false, [], ()), ())).2.2.1.length : Int) > 20) then
      some false
    else
      bif decide (((a0.getD x1.toNat ((0, 0, 0, 0, ()), 0, [], (false, [], ()), [], (false, [], ()), ())).2.2.2.1.2.1.length : Int) > 20) then
        some false
      else
        bif decide (((a0.getD x1.toNat ((0, 0, 0, 0, ()), 0, [], (false, [], ()), [], (false, [], ()), ())).2.2.2.2.1.length : Int) > 20) then
          some false
        else
          bif decide (((a0.getD x1.toNat ((0, 0, 0, 0, ()), 0, [], (false, [], ()), [], (false, [], ()), ())).2.2.2.2.2.1.2.1.length : Int) > 20) then
            some false
          else
            k1 (IntKind.i64.wrap (x1 + 1))
  else
    L19_Small_J1
def L19_Small (a0 : List ((Int × Int × Int × Int × Unit) × Int × (List Int) × (Bool × (List Int) × Unit) × (List Int) × (Bool × (List Int) × Unit) × Unit)) : Option Bool :=
  bif decide ((a0.length : Int) > 10) then
    some false
  else
    loop (L19_Small_L1 (a0.length : Int) a0) 0
def L19_alive : Option Bool :=
  letv ([(0, 0, 0, 0, ()), (0, 1, 0, 0, ()), (2, 0, 0, 0, ())]) fun l1 =>
  Option.bind (chantab_New l1) fun r1 =>
  letv ([(1, 0, 0, 0, 0, ()), (5, 0, 0, 0, 0, ()), (1, 1, 0, 0, 0, ())]) fun l2 =>
  Option.bind (chantab_Offer r1.1 3 l2 true) fun r2 =>
  letv ([(1, 0, 0, 0, 0, ()), (1, 2, 0, 0, 0, ())]) fun l3 =>
  Option.bind (chantab_Offer r2.1 4 l3 true) fun r3 =>
  Option.bind (chantab_Offer r2.1 5 [(2, 1, 9, 0, 0, ())] false) fun r4 =>
  Option.bind (chantab_Moves r4.1) fun r5 =>
  bif decide (r1.2.1 = 0) then
    bif decide (r1.2.2.1 = 0) then
      bif decide (r2.2.1 = 0) then
        bif decide (r2.2.2.1 = 0) then
          bif decide (r3.2.1 = 0) then
            bif decide (r3.2.2.1 = 15) then
              bif decide (r4.2.2.1 = 0) then
                bif decide ((r5.length : Int) = 1) then
                  chk (0 ≤ (0 : Int) ∧ (0 : Int) < (r5.length : Int)) <|
                  bif (decide ((r5.getD (0 : Int).toNat (0, 0, ())).1 = 1)) && ((decide ((r5.getD (0 : Int).toNat (0, 0, ())).2.1 = 2)) && true) then
                    Option.bind (chantab_Leave r2.1 3) fun r6 =>
                    chk (0 ≤ (0 : Int) ∧ (0 : Int) < (r6.length : Int)) <|
                    bif decide (((r6.getD (0 : Int).toNat ((0, 0, 0, 0, ()), 0, [], (false, [], ()), [], (false, [], ()), ())).2.2.2.2.2.1.2.1.length : Int) = 0) then
                      Option.bind (chantab_Hits r2.1 3) fun r7 =>
                      some (decide ((r7.length : Int) = 0))
                    else
                      some false
                  else
                    some false
                else
                  some false
              else
                some false
            else
              some false
          else
            some false
        else
          some false
      else
        some false
    else
      some false
  else
    some false
def L19_To_J1 (p1 : List ((Int × Int × Int × Int × Unit) × Int × (List Int) × (Bool × (List Int) × Unit) × (List Int) × (Bool × (List Int) × Unit) × Unit)) : Option (List ((Int × Int × Int × Int × Unit) × Int × (List Int) × (Bool × (List Int) × Unit) × (List Int) × (Bool × (List Int) × Unit) × Unit)) :=
  some p1
def L19_To_L1 (p2 : Int) (a0 : List ((Int × Int × Int × Int × Unit) × Int × (List Int) × (Bool × (List Int) × Unit) × (List Int) × (Bool × (List Int) × Unit) × Unit)) (k1 : (Int × (List ((Int × Int × Int × Int × Unit) × Int × (List Int) × (Bool × (List Int) × Unit) × (List Int) × (Bool × (List Int) × Unit) × Unit))) → Option (List ((Int × Int × Int × Int × Unit) × Int × (List Int) × (Bool × (List Int) × Unit) × (List Int) × (Bool × (List Int) × Unit) × Unit))) (x1 : Int × (List ((Int × Int × Int × Int × Unit) × Int × (List Int) × (Bool × (List Int) × Unit) × (List Int) × (Bool × (List Int) × Unit) × Unit))) : Option (List ((Int × Int × Int × Int × Unit) × Int × (List Int) × (Bool × (List Int) × Unit) × (List Int) × (Bool × (List Int) × Unit) × Unit)) :=
  bif decide (x1.1 < p2) then
    chk (0 ≤ x1.1 ∧ x1.1 < (a0.length : Int)) <|
    Option.bind (L18_To (a0.getD x1.1.toNat ((0, 0, 0, 0, ()), 0, [], (false, [], ()), [], (false, [], ()), ()))) fun r1 =>
    chk (x1.2.length + ([r1] : List ((Int × Int × Int × Int × Unit) × Int × (List Int) × (Bool × (List Int) × Unit) × (List Int) × (Bool × (List Int) × Unit) × Unit)).length ≤ 4294967296) <|
    k1 (IntKind.i64.wrap (x1.1 + 1), x1.2 ++ [r1])
  else
    L19_To_J1 x1.2
def L19_To (a0 : List ((Int × Int × Int × Int × Unit) × Int × (List Int) × (Bool × (List Int) × Unit) × (List Int) × (Bool × (List Int) × Unit) × Unit)) : Option (List ((Int × Int × Int × Int × Unit) × Int × (List Int) × (Bool × (List Int) × Unit) × (List Int) × (Bool × (List Int) × Unit) × Unit)) :=
  loop (L19_To_L1 (a0.length : Int) a0) (0, [])
def L19_Same_J1 : Option Bool :=
  some true
def L19_Same_L1 (p1 : Int) (a0 : List ((Int × Int × Int × Int × Unit) × Int × (List Int) × (Bool × (List Int) × Unit) × (List Int) × (Bool × (List Int) × Unit) × Unit)) (a1 : List ((Int × Int × Int × Int × Unit) × Int × (List Int) × (Bool × (List Int) × Unit) × (List Int) × (Bool × (List Int) × Unit) × Unit)) (k1 : Int → Option Bool) (x1 : Int) : Option Bool :=
  bif decide (x1 < p1) then
    chk (0 ≤ x1 ∧ x1 < (a0.length : Int)) <|
    chk (0 ≤ x1 ∧ x1 < (a1.length : Int)) <|
    Option.bind (L18_Same (a0.getD x1.toNat ((0, 0, 0, 0, ()), 0, [], (false, [], ()), [], (false, [], ()), ())) (a1.getD x1.toNat ((0, 0, 0, 0, ()), 0, [], (false, [], ()), [], (false, [], ()), ()))) fun r1 =>
    bif !r1 then
      some false
    else
      k1 (IntKind.i64.wrap (x1 + 1))
  else
    L19_Same_J1
def L19_Same (a0 : List ((Int × Int × Int × Int × Unit) × Int × (List Int) × (Bool × (List Int) × Unit) × (List Int) × (Bool × (List Int) × Unit) × Unit)) (a1 : List ((Int × Int × Int × Int × Unit) × Int × (List Int) × (Bool × (List Int) × Unit) × (List Int) × (Bool × (List Int) × Unit) × Unit)) : Option Bool :=
  bif !decide ((a0.length : Int) = (a1.length : Int)) then
    some false
  else
    loop (L19_Same_L1 (a0.length : Int) a0 a1) 0
def L19_From_J1 (p1 : List ((Int × Int × Int × Int × Unit) × Int × (List Int) × (Bool × (List Int) × Unit) × (List Int) × (Bool × (List Int) × Unit) × Unit)) : Option (List ((Int × Int × Int × Int × Unit) × Int × (List Int) × (Bool × (List Int) × Unit) × (List Int) × (Bool × (List Int) × Unit) × Unit)) :=
  some p1
def L19_From_L1 (p2 : Int) (a0 : List ((Int × Int × Int × Int × Unit) × Int × (List Int) × (Bool × (List Int) × Unit) × (List Int) × (Bool × (List Int) × Unit) × Unit)) (k1 : (Int × (List ((Int × Int × Int × Int × Unit) × Int × (List Int) × (Bool × (List Int) × Unit) × (List Int) × (Bool × (List Int) × Unit) × Unit))) → Option (List ((Int × Int × Int × Int × Unit) × Int × (List Int) × (Bool × (List Int) × Unit) × (List Int) × (Bool × (List Int) × Unit) × Unit))) (x1 : Int × (List ((Int × Int × Int × Int × Unit) × Int × (List Int) × (Bool × (List Int) × Unit) × (List Int) × (Bool × (List Int) × Unit) × Unit))) : Option (List ((Int × Int × Int × Int × Unit) × Int × (List Int) × (Bool × (List Int) × Unit) × (List Int) × (Bool × (List Int) × Unit) × Unit)) :=
  bif decide (x1.1 < p2) then
    chk (0 ≤ x1.1 ∧ x1.1 < (a0.length : Int)) <|
    Option.bind (L18_From (a0.getD x1.1.toNat ((0, 0, 0, 0, ()), 0, [], (false, [], ()), [], (false, [], ()), ()))) fun r1 =>
    chk (x1.2.length + ([r1] : List ((Int × Int × Int × Int × Unit) × Int × (List Int) × (Bool × (List Int) × Unit) × (List Int) × (Bool × (List Int) × Unit) × Unit)).length ≤ 4294967296) <|
    k1 (IntKind.i64.wrap (x1.1 + 1), x1.2 ++ [r1])
  else
    L19_From_J1 x1.2
def L19_From (a0 : List ((Int × Int × Int × Int × Unit) × Int × (List Int) × (Bool × (List Int) × Unit) × (List Int) × (Bool × (List Int) × Unit) × Unit)) : Option (List ((Int × Int × Int × Int × Unit) × Int × (List Int) × (Bool × (List Int) × Unit) × (List Int) × (Bool × (List Int) × Unit) × Unit)) :=
  loop (L19_From_L1 (a0.length : Int) a0) (0, [])
def L19_ChantabTells_J1 : Option Bool :=
  Option.bind (L19_alive) fun r15 =>
  some r15
def L19_ChantabTells_L1 (p1 : Int) (r7 : List (Int × Int × Unit)) (r8 : List (Int × Int × Unit)) (k1 : Int → Option Bool) (x1 : Int) : Option Bool :=
  bif decide (x1 < p1) then
    chk (0 ≤ x1 ∧ x1 < (r7.length : Int)) <|
    chk (0 ≤ x1 ∧ x1 < (r8.length : Int)) <|
    bif !((decide ((r7.getD x1.toNat (0, 0, ())).1 = (r8.getD x1.toNat (0, 0, ())).1)) && ((decide ((r7.getD x1.toNat (0, 0, ())).2.1 = (r8.getD x1.toNat (0, 0, ())).2.1)) && true)) then
      some false
    else
      k1 (IntKind.i64.wrap (x1 + 1))
  else
    L19_ChantabTells_J1
def L19_ChantabTells (a0 : List (Int × Int × Int × Int × Unit)) (a1 : List ((Int × Int × Int × Int × Unit) × Int × (List Int) × (Bool × (List Int) × Unit) × (List Int) × (Bool × (List Int) × Unit) × Unit)) (a2 : Int) : Option Bool :=
  Option.bind (L19_Small a1) fun r1 =>
  bif !r1 then
    Option.bind (L19_alive) fun r2 =>
    some r2
  else
    bif decide ((a0.length : Int) > 20) then
      Option.bind (L19_alive) fun r3 =>
      some r3
    else
      Option.bind (chantab_New a0) fun r4 =>
      Option.bind (R19_New a0) fun r5 =>
      Option.bind (L19_To a1) fun r6 =>
      Option.bind (chantab_Moves r6) fun r7 =>
      Option.bind (R19_Moves a1) fun r8 =>
      Option.bind (L19_From r4.1) fun r9 =>
      Option.bind (L19_Same r9 r5.1) fun r10 =>
      bif !r10 then
        some false
      else
        bif !decide (r4.2.1 = r5.2.1) then
          some false
        else
          bif !decide (r4.2.2.1 = r5.2.2.1) then
            some false
          else
            bif !decide ((r7.length : Int) = (r8.length : Int)) then
              some false
            else
              Option.bind (L19_To a1) fun r11 =>
              Option.bind (chantab_Hits r11 a2) fun r12 =>
              Option.bind (R19_Hits a1 a2) fun r13 =>
              Option.bind (R02_Same r12 r13) fun r14 =>
              bif !r14 then
                some false
              else
                loop (L19_ChantabTells_L1 (r7.length : Int) r7 r8) 0
def L19_ChantabOne_J1 (p1 : List ((Int × Int × Int × Int × Unit) × Int × (List Int) × (Bool × (List Int) × Unit) × (List Int) × (Bool × (List Int) × Unit) × Unit)) (p3 : Bool) (p4 : Int) (p5 : Int) : Option Bool :=
  Option.bind (chantab_Do p1 (p4, p5, ())) fun r10 =>
  bif p3 == (decide (r10.2.2.1 = 0)) then
    Option.bind (L19_alive) fun r11 =>
    some r11
  else
    some false
def L19_ChantabOne_L1 (p6 : Int) (r9 : List (Int × Int × Unit)) (p7 : Int) (p8 : Int) (p1 : List ((Int × Int × Int × Int × Unit) × Int × (List Int) × (Bool × (List Int) × Unit) × (List Int) × (Bool × (List Int) × Unit) × Unit)) (k1 : (Bool × Int) → Option Bool) (x1 : Bool × Int) : Option Bool :=
  bif decide (x1.2 < p6) then
    chk (0 ≤ x1.2 ∧ x1.2 < (r9.length : Int)) <|
    bif x1.1 then
      k1 (true, IntKind.i64.wrap (x1.2 + 1))
    else
      letv ((decide ((r9.getD x1.2.toNat (0, 0, ())).1 = p7)) && ((decide ((r9.getD x1.2.toNat (0, 0, ())).2.1 = p8)) && true)) fun v1 =>
      k1 (v1, IntKind.i64.wrap (x1.2 + 1))
  else
    L19_ChantabOne_J1 p1 x1.1 p7 p8
def L19_ChantabOne_J2 (p1 : List ((Int × Int × Int × Int × Unit) × Int × (List Int) × (Bool × (List Int) × Unit) × (List Int) × (Bool × (List Int) × Unit) × Unit)) (p2 : List Int) : Option Bool :=
  chk (0 ≤ (0 : Int) ∧ (0 : Int) < (2 : Int)) <|
  chk (0 ≤ (1 : Int) ∧ (1 : Int) < (2 : Int)) <|
  Option.bind (chantab_Moves p1) fun r9 =>
  loop (L19_ChantabOne_L1 (r9.length : Int) r9 (IntKind.i64.wrap (p2.getD (0 : Int).toNat 0)) (IntKind.i64.wrap (p2.getD (1 : Int).toNat 0)) p1) (false, 0)
def L19_ChantabOne_J3 (k2 : (Int × (List ((Int × Int × Int × Int × Unit) × Int × (List Int) × (Bool × (List Int) × Unit) × (List Int) × (Bool × (List Int) × Unit) × Unit)) × (List ((Int × Int × Int × Int × Unit) × Int × (List Int) × (Bool × (List Int) × Unit) × (List Int) × (Bool × (List Int) × Unit) × Unit)) × Int × Int × List Int) → Option Bool) (x2 : Int × (List ((Int × Int × Int × Int × Unit) × Int × (List Int) × (Bool × (List Int) × Unit) × (List Int) × (Bool × (List Int) × Unit) × Unit)) × (List ((Int × Int × Int × Int × Unit) × Int × (List Int) × (Bool × (List Int) × Unit) × (List Int) × (Bool × (List Int) × Unit) × Unit)) × Int × Int × List Int) : Option Bool :=
  k2 (x2.1, x2.2.1, x2.2.2.1, x2.2.2.2.1, IntKind.i64.wrap (x2.2.2.2.2.1 + 1), x2.2.2.2.2.2)
def L19_ChantabOne_J4 (k2 : (Int × (List ((Int × Int × Int × Int × Unit) × Int × (List Int) × (Bool × (List Int) × Unit) × (List Int) × (Bool × (List Int) × Unit) × Unit)) × (List ((Int × Int × Int × Int × Unit) × Int × (List Int) × (Bool × (List Int) × Unit) × (List Int) × (Bool × (List Int) × Unit) × Unit)) × Int × Int × List Int) → Option Bool) (p9 : Int) (p10 : List ((Int × Int × Int × Int × Unit) × Int × (List Int) × (Bool × (List Int) × Unit) × (List Int) × (Bool × (List Int) × Unit) × Unit)) (p11 : List ((Int × Int × Int × Int × Unit) × Int × (List Int) × (Bool × (List Int) × Unit) × (List Int) × (Bool × (List Int) × Unit) × Unit)) (p12 : Int) (p13 : Int) (p14 : List Int) : Option Bool :=
  k2 (p9, p10, p11, p12, IntKind.i64.wrap (p13 + 1), p14)
def L19_ChantabOne_C1 (x2 : Int × (List ((Int × Int × Int × Int × Unit) × Int × (List Int) × (Bool × (List Int) × Unit) × (List Int) × (Bool × (List Int) × Unit) × Unit)) × (List ((Int × Int × Int × Int × Unit) × Int × (List Int) × (Bool × (List Int) × Unit) × (List Int) × (Bool × (List Int) × Unit) × Unit)) × Int × Int × List Int) (k3 : (Int × (List ((Int × Int × Int × Int × Unit) × Int × (List Int) × (Bool × (List Int) × Unit) × (List Int) × (Bool × (List Int) × Unit) × Unit)) × (List ((Int × Int × Int × Int × Unit) × Int × (List Int) × (Bool × (List Int) × Unit) × (List Int) × (Bool × (List Int) × Unit) × Unit)) × Int × Int × Int × List Int × List Int) → Option Bool) : Option Bool :=
  chk (([] : List Int).length + (x2.2.2.1.getD x2.2.2.2.2.1.toNat ((0, 0, 0, 0, ()), 0, [], (false, [], ()), [], (false, [], ()), ())).2.2.2.1.2.1.length ≤ 4294967296) <|
  letv (([] : List Int) ++ (x2.2.2.1.getD x2.2.2.2.2.1.toNat ((0, 0, 0, 0, ()), 0, [], (false, [], ()), [], (false, [], ()), ())).2.2.2.1.2.1) fun l1 =>
  chk (l1.length + (x2.2.2.1.getD x2.2.2.2.2.1.toNat ((0, 0, 0, 0, ()), 0, [], (false, [], ()), [], (false, [], ()), ())).2.2.2.2.2.1.2.1.length ≤ 4294967296) <|
  letv (l1 ++ (x2.2.2.1.getD x2.2.2.2.2.1.toNat ((0, 0, 0, 0, ()), 0, [], (false, [], ()), [], (false, [], ()), ())).2.2.2.2.2.1.2.1) fun l2 =>
  k3 (x2.1, x2.2.1, x2.2.2.1, x2.2.2.2.1, x2.2.2.2.2.1, (l2.length : Int), x2.2.2.2.2.2, l2)
def L19_ChantabOne_J5 (k2 : (Int × (List ((Int × Int × Int × Int × Unit) × Int × (List Int) × (Bool × (List Int) × Unit) × (List Int) × (Bool × (List Int) × Unit) × Unit)) × (List ((Int × Int × Int × Int × Unit) × Int × (List Int) × (Bool × (List Int) × Unit) × (List Int) × (Bool × (List Int) × Unit) × Unit)) × Int × Int × List Int) → Option Bool) (x3 : Int × (List ((Int × Int × Int × Int × Unit) × Int × (List Int) × (Bool × (List Int) × Unit) × (List Int) × (Bool × (List Int) × Unit) × Unit)) × (List ((Int × Int × Int × Int × Unit) × Int × (List Int) × (Bool × (List Int) × Unit) × (List Int) × (Bool × (List Int) × Unit) × Unit)) × Int × Int × Int × List Int × List Int) : Option Bool :=
  L19_ChantabOne_J4 k2 x3.1 x3.2.1 x3.2.2.1 x3.2.2.2.1 x3.2.2.2.2.1 x3.2.2.2.2.2.2.1
def L19_ChantabOne_L2 (x3 : Int × (List ((Int × Int × Int × Int × Unit) × Int × (List Int) × (Bool × (List Int) × Unit) × (List Int) × (Bool × (List Int) × Unit) × Unit)) × (List ((Int × Int × Int × Int × Unit) × Int × (List Int) × (Bool × (List Int) × Unit) × (List Int) × (Bool × (List Int) × Unit) × Unit)) × Int × Int × Int × List Int × List Int) (k2 : (Int × (List ((Int × Int × Int × Int × Unit) × Int × (List Int) × (Bool × (List Int) × Unit) × (List Int) × (Bool × (List Int) × Unit) × Unit)) × (List ((Int × Int × Int × Int × Unit) × Int × (List Int) × (Bool × (List Int) × Unit) × (List Int) × (Bool × (List Int) × Unit) × Unit)) × Int × Int × List Int) → Option Bool) (k4 : Int → Option Bool) (x4 : Int) : Option Bool :=
  bif decide (x4 < x3.2.2.2.2.2.1) then
    chk (0 ≤ x4 ∧ x4 < (x3.2.2.2.2.2.2.2.length : Int)) <|
    bif decide ((x3.2.2.2.2.2.2.2.getD x4.toNat 0) = x3.1) then
      some false
    else
      k4 (IntKind.i64.wrap (x4 + 1))
  else
    L19_ChantabOne_J5 k2 x3
def L19_ChantabOne_R1 (k2 : (Int × (List ((Int × Int × Int × Int × Unit) × Int × (List Int) × (Bool × (List Int) × Unit) × (List Int) × (Bool × (List Int) × Unit) × Unit)) × (List ((Int × Int × Int × Int × Unit) × Int × (List Int) × (Bool × (List Int) × Unit) × (List Int) × (Bool × (List Int) × Unit) × Unit)) × Int × Int × List Int) → Option Bool) (x3 : Int × (List ((Int × Int × Int × Int × Unit) × Int × (List Int) × (Bool × (List Int) × Unit) × (List Int) × (Bool × (List Int) × Unit) × Unit)) × (List ((Int × Int × Int × Int × Unit) × Int × (List Int) × (Bool × (List Int) × Unit) × (List Int) × (Bool × (List Int) × Unit) × Unit)) × Int × Int × Int × List Int × List Int) : Option Bool :=
  loop (L19_ChantabOne_L2 x3 k2) 0
def L19_ChantabOne_L3 (k2 : (Int × (List ((Int × Int × Int × Int × Unit) × Int × (List Int) × (Bool × (List Int) × Unit) × (List Int) × (Bool × (List Int) × Unit) × Unit)) × (List ((Int × Int × Int × Int × Unit) × Int × (List Int) × (Bool × (List Int) × Unit) × (List Int) × (Bool × (List Int) × Unit) × Unit)) × Int × Int × List Int) → Option Bool) (x2 : Int × (List ((Int × Int × Int × Int × Unit) × Int × (List Int) × (Bool × (List Int) × Unit) × (List Int) × (Bool × (List Int) × Unit) × Unit)) × (List ((Int × Int × Int × Int × Unit) × Int × (List Int) × (Bool × (List Int) × Unit) × (List Int) × (Bool × (List Int) × Unit) × Unit)) × Int × Int × List Int) : Option Bool :=
  bif decide (x2.2.2.2.2.1 < x2.2.2.2.1) then
    chk (0 ≤ x2.2.2.2.2.1 ∧ x2.2.2.2.2.1 < (x2.2.2.1.length : Int)) <|
    Option.bind (channel_Fine (x2.2.2.1.getD x2.2.2.2.2.1.toNat ((0, 0, 0, 0, ()), 0, [], (false, [], ()), [], (false, [], ()), ()))) fun r12 =>
    bif !r12 then
      L19_ChantabOne_J3 k2 x2
    else
      cutv 1 (L19_ChantabOne_C1 x2) (L19_ChantabOne_R1 k2)
  else
    L19_ChantabOne_J2 x2.2.1 x2.2.2.2.2.2
def L19_ChantabOne_J6 (p15 : List ((Int × Int × Int × Int × Unit) × Int × (List Int) × (Bool × (List Int) × Unit) × (List Int) × (Bool × (List Int) × Unit) × Unit)) (p17 : Bool) (p18 : Int) (p19 : Int) : Option Bool :=
  Option.bind (chantab_Do p15 (p18, p19, ())) fun r15 =>
  bif p17 == (decide (r15.2.2.1 = 0)) then
    Option.bind (L19_alive) fun r16 =>
    some r16
  else
    some false
def L19_ChantabOne_L4 (p20 : Int) (r14 : List (Int × Int × Unit)) (p21 : Int) (p22 : Int) (p15 : List ((Int × Int × Int × Int × Unit) × Int × (List Int) × (Bool × (List Int) × Unit) × (List Int) × (Bool × (List Int) × Unit) × Unit)) (k5 : (Bool × Int) → Option Bool) (x5 : Bool × Int) : Option Bool :=
  bif decide (x5.2 < p20) then
    chk (0 ≤ x5.2 ∧ x5.2 < (r14.length : Int)) <|
    bif x5.1 then
      k5 (true, IntKind.i64.wrap (x5.2 + 1))
    else
      letv ((decide ((r14.getD x5.2.toNat (0, 0, ())).1 = p21)) && ((decide ((r14.getD x5.2.toNat (0, 0, ())).2.1 = p22)) && true)) fun v2 =>
      k5 (v2, IntKind.i64.wrap (x5.2 + 1))
  else
    L19_ChantabOne_J6 p15 x5.1 p21 p22
def L19_ChantabOne_J7 (p15 : List ((Int × Int × Int × Int × Unit) × Int × (List Int) × (Bool × (List Int) × Unit) × (List Int) × (Bool × (List Int) × Unit) × Unit)) (p16 : List Int) : Option Bool :=
  chk (0 ≤ (0 : Int) ∧ (0 : Int) < (2 : Int)) <|
  chk (0 ≤ (1 : Int) ∧ (1 : Int) < (2 : Int)) <|
  Option.bind (chantab_Moves p15) fun r14 =>
  loop (L19_ChantabOne_L4 (r14.length : Int) r14 (IntKind.i64.wrap (p16.getD (0 : Int).toNat 0)) (IntKind.i64.wrap (p16.getD (1 : Int).toNat 0)) p15) (false, 0)
def L19_ChantabOne_J8 (k6 : (Int × (List ((Int × Int × Int × Int × Unit) × Int × (List Int) × (Bool × (List Int) × Unit) × (List Int) × (Bool × (List Int) × Unit) × Unit)) × (List ((Int × Int × Int × Int × Unit) × Int × (List Int) × (Bool × (List Int) × Unit) × (List Int) × (Bool × (List Int) × Unit) × Unit)) × Int × Int × List Int) → Option Bool) (x6 : Int × (List ((Int × Int × Int × Int × Unit) × Int × (List Int) × (Bool × (List Int) × Unit) × (List Int) × (Bool × (List Int) × Unit) × Unit)) × (List ((Int × Int × Int × Int × Unit) × Int × (List Int) × (Bool × (List Int) × Unit) × (List Int) × (Bool × (List Int) × Unit) × Unit)) × Int × Int × List Int) : Option Bool :=
  k6 (x6.1, x6.2.1, x6.2.2.1, x6.2.2.2.1, IntKind.i64.wrap (x6.2.2.2.2.1 + 1), x6.2.2.2.2.2)
def L19_ChantabOne_J9 (k6 : (Int × (List ((Int × Int × Int × Int × Unit) × Int × (List Int) × (Bool × (List Int) × Unit) × (List Int) × (Bool × (List Int) × Unit) × Unit)) × (List ((Int × Int × Int × Int × Unit) × Int × (List Int) × (Bool × (List Int) × Unit) × (List Int) × (Bool × (List Int) × Unit) × Unit)) × Int × Int × List Int) → Option Bool) (p23 : Int) (p24 : List ((Int × Int × Int × Int × Unit) × Int × (List Int) × (Bool × (List Int) × Unit) × (List Int) × (Bool × (List Int) × Unit) × Unit)) (p25 : List ((Int × Int × Int × Int × Unit) × Int × (List Int) × (Bool × (List Int) × Unit) × (List Int) × (Bool × (List Int) × Unit) × Unit)) (p26 : Int) (p27 : Int) (p28 : List Int) : Option Bool :=
  k6 (p23, p24, p25, p26, IntKind.i64.wrap (p27 + 1), p28)
def L19_ChantabOne_C2 (x6 : Int × (List ((Int × Int × Int × Int × Unit) × Int × (List Int) × (Bool × (List Int) × Unit) × (List Int) × (Bool × (List Int) × Unit) × Unit)) × (List ((Int × Int × Int × Int × Unit) × Int × (List Int) × (Bool × (List Int) × Unit) × (List Int) × (Bool × (List Int) × Unit) × Unit)) × Int × Int × List Int) (k7 : (Int × (List ((Int × Int × Int × Int × Unit) × Int × (List Int) × (Bool × (List Int) × Unit) × (List Int) × (Bool × (List Int) × Unit) × Unit)) × (List ((Int × Int × Int × Int × Unit) × Int × (List Int) × (Bool × (List Int) × Unit) × (List Int) × (Bool × (List Int) × Unit) × Unit)) × Int × Int × Int × List Int × List Int) → Option Bool) : Option Bool :=
  chk (([] : List Int).length + (x6.2.2.1.getD x6.2.2.2.2.1.toNat ((0, 0, 0, 0, ()), 0, [], (false, [], ()), [], (false, [], ()), ())).2.2.2.1.2.1.length ≤ 4294967296) <|
  letv (([] : List Int) ++ (x6.2.2.1.getD x6.2.2.2.2.1.toNat ((0, 0, 0, 0, ()), 0, [], (false, [], ()), [], (false, [], ()), ())).2.2.2.1.2.1) fun l3 =>
  chk (l3.length + (x6.2.2.1.getD x6.2.2.2.2.1.toNat ((0, 0, 0, 0, ()), 0, [], (false, [], ()), [], (false, [], ()), ())).2.2.2.2.2.1.2.1.length ≤ 4294967296) <|
  letv (l3 ++ (x6.2.2.1.getD x6.2.2.2.2.1.toNat ((0, 0, 0, 0, ()), 0, [], (false, [], ()), [], (false, [], ()), ())).2.2.2.2.2.1.2.1) fun l4 =>
  k7 (x6.1, x6.2.1, x6.2.2.1, x6.2.2.2.1, x6.2.2.2.2.1, (l4.length : Int), x6.2.2.2.2.2, l4)
def L19_ChantabOne_J10 (k6 : (Int × (List ((Int × Int × Int × Int × Unit) × Int × (List Int) × (Bool × (List Int) × Unit) × (List Int) × (Bool × (List Int) × Unit) × Unit)) × (List ((Int × Int × Int × Int × Unit) × Int × (List Int) × (Bool × (List Int) × Unit) × (List Int) × (Bool × (List Int) × Unit) × Unit)) × Int × Int × List Int) → Option Bool) (x7 : Int × (List ((Int × Int × Int × Int × Unit) × Int × (List Int) × (Bool × (List Int) × Unit) × (List Int) × (Bool × (List Int) × Unit) × Unit)) × (List ((Int × Int × Int × Int × Unit) × Int × (List Int) × (Bool × (List Int) × Unit) × (List Int) × (Bool × (List Int) × Unit) × Unit)) × Int × Int × Int × List Int × List Int) : Option Bool :=
  L19_ChantabOne_J9 k6 x7.1 x7.2.1 x7.2.2.1 x7.2.2.2.1 x7.2.2.2.2.1 x7.2.2.2.2.2.2.1
def L19_ChantabOne_L5 (x7 : Int × (List ((Int × Int × Int × Int × Unit) × Int × (List Int) × (Bool × (List Int) × Unit) × (List Int) × (Bool × (List Int) × Unit) × Unit)) × (List ((Int × Int × Int × Int × Unit) × Int × (List Int) × (Bool × (List Int) × Unit) × (List Int) × (Bool × (List Int) × Unit) × Unit)) × Int × Int × Int × List Int × List Int) (k6 : (Int × (List ((Int × Int × Int × Int × Unit) × Int × (List Int) × (Bool × (List Int) × Unit) × (List Int) × (Bool × (List Int) × Unit) × Unit)) × (List ((Int × Int × Int × Int × Unit) × Int × (List Int) × (Bool × (List Int) × Unit) × (List Int) × (Bool × (List Int) × Unit) × Unit)) × Int × Int × List Int) → Option Bool) (k8 : Int → Option Bool) (x8 : Int) : Option Bool :=
  bif decide (x8 < x7.2.2.2.2.2.1) then
    chk (0 ≤ x8 ∧ x8 < (x7.2.2.2.2.2.2.2.length : Int)) <|
    bif decide ((x7.2.2.2.2.2.2.2.getD x8.toNat 0) = x7.1) then
      some false
    else
      k8 (IntKind.i64.wrap (x8 + 1))
  else
    L19_ChantabOne_J10 k6 x7
def L19_ChantabOne_R2 (k6 : (Int × (List ((Int × Int × Int × Int × Unit) × Int × (List Int) × (Bool × (List Int) × Unit) × (List Int) × (Bool × (List Int) × Unit) × Unit)) × (List ((Int × Int × Int × Int × Unit) × Int × (List Int) × (Bool × (List Int) × Unit) × (List Int) × (Bool × (List Int) × Unit) × Unit)) × Int × Int × List Int) → Option Bool) (x7 : Int × (List ((Int × Int × Int × Int × Unit) × Int × (List Int) × (Bool × (List Int) × Unit) × (List Int) × (Bool × (List Int) × Unit) × Unit)) × (List ((Int × Int × Int × Int × Unit) × Int × (List Int) × (Bool × (List Int) × Unit) × (List Int) × (Bool × (List Int) × Unit) × Unit)) × Int × Int × Int × List Int × List Int) : Option Bool :=
  loop (L19_ChantabOne_L5 x7 k6) 0
def L19_ChantabOne_L6 (k6 : (Int × (List ((Int × Int × Int × Int × Unit) × Int × (List Int) × (Bool × (List Int) × Unit) × (List Int) × (Bool × (List Int) × Unit) × Unit)) × (List ((Int × Int × Int × Int × Unit) × Int × (List Int) × (Bool × (List Int) × Unit) × (List Int) × (Bool × (List Int) × Unit) × Unit)) × Int × Int × List Int) → Option Bool) (x6 : Int × (List ((Int × Int × Int × Int × Unit) × Int × (List Int) × (Bool × (List Int) × Unit) × (List Int) × (Bool × (List Int) × Unit) × Unit)) × (List ((Int × Int × Int × Int × Unit) × Int × (List Int) × (Bool × (List Int) × Unit) × (List Int) × (Bool × (List Int) × Unit) × Unit)) × Int × Int × List Int) : Option Bool :=
  bif decide (x6.2.2.2.2.1 < x6.2.2.2.1) then
    chk (0 ≤ x6.2.2.2.2.1 ∧ x6.2.2.2.2.1 < (x6.2.2.1.length : Int)) <|
    Option.bind (channel_Fine (x6.2.2.1.getD x6.2.2.2.2.1.toNat ((0, 0, 0, 0, ()), 0, [], (false, [], ()), [], (false, [], ()), ()))) fun r17 =>
    bif !r17 then
      L19_ChantabOne_J8 k6 x6
    else
      cutv 2 (L19_ChantabOne_C2 x6) (L19_ChantabOne_R2 k6)
  else
    L19_ChantabOne_J7 x6.2.1 x6.2.2.2.2.2
def L19_ChantabOne (a0 : List ((Int × Int × Int × Int × Unit) × Int × (List Int) × (Bool × (List Int) × Unit) × (List Int) × (Bool × (List Int) × Unit) × Unit)) (a1 : Int × (List (Int × Int × Int × Int × Int × Unit)) × Bool × Unit) (a2 : List Int) : Option Bool :=
  Option.bind (L19_Small a0) fun r1 =>
  bif !r1 then
    Option.bind (L19_alive) fun r2 =>
    some r2
  else
    bif decide ((a1.2.1.length : Int) > 8) then
      Option.bind (L19_alive) fun r3 =>
      some r3
    else
      Option.bind (L19_To a0) fun r4 =>
      Option.bind (chantab_Offer r4 a1.1 a1.2.1 true) fun r5 =>
      bif !decide (r5.2.2.1 = 0) then
        Option.bind (L19_From r5.1) fun r6 =>
        Option.bind (L19_Same r6 a0) fun r7 =>
        bif !r7 then
          some false
        else
          Option.bind (chantab_Leave r5.1 a1.1) fun r8 =>
          loop L19_ChantabOne_L3 (a1.1, r4, r8, (r8.length : Int), 0, a2)
      else
        Option.bind (chantab_Leave r5.1 a1.1) fun r13 =>
        loop L19_ChantabOne_L6 (a1.1, r4, r13, (r13.length : Int), 0, a2)
def L19_ChantabActs (a0 : List ((Int × Int × Int × Int × Unit) × Int × (List Int) × (Bool × (List Int) × Unit) × (List Int) × (Bool × (List Int) × Unit) × Unit)) (a1 : List Int) : Option Bool :=
  Option.bind (L19_Small a0) fun r1 =>
  bif !r1 then
    Option.bind (L19_alive) fun r2 =>
    some r2
  else
    Option.bind (L19_To a0) fun r3 =>
    chk (0 ≤ (0 : Int) ∧ (0 : Int) < (3 : Int)) <|
    chk (0 ≤ (1 : Int) ∧ (1 : Int) < (3 : Int)) <|
    Option.bind (chantab_Poison r3 (a1.getD (0 : Int).toNat 0) (a1.getD (1 : Int).toNat 0)) fun r4 =>
    chk (0 ≤ (0 : Int) ∧ (0 : Int) < (3 : Int)) <|
    chk (0 ≤ (1 : Int) ∧ (1 : Int) < (3 : Int)) <|
    Option.bind (R19_Poison a0 (a1.getD (0 : Int).toNat 0) (a1.getD (1 : Int).toNat 0)) fun r5 =>
    chk (0 ≤ (0 : Int) ∧ (0 : Int) < (3 : Int)) <|
    chk (0 ≤ (2 : Int) ∧ (2 : Int) < (3 : Int)) <|
    Option.bind (chantab_Do r3 (a1.getD (0 : Int).toNat 0, a1.getD (2 : Int).toNat 0, ())) fun r6 =>
    chk (0 ≤ (0 : Int) ∧ (0 : Int) < (3 : Int)) <|
    chk (0 ≤ (2 : Int) ∧ (2 : Int) < (3 : Int)) <|
    Option.bind (R19_Do a0 (a1.getD (0 : Int).toNat 0, a1.getD (2 : Int).toNat 0, ())) fun r7 =>
    chk (0 ≤ (1 : Int) ∧ (1 : Int) < (3 : Int)) <|
    chk (0 ≤ (1 : Int) ∧ (1 : Int) < (3 : Int)) <|
    Option.bind (chantab_Leave r3 (a1.getD (1 : Int).toNat 0)) fun r8 =>
    Option.bind (L19_From r8) fun r9 =>
    Option.bind (R19_Leave a0 (a1.getD (1 : Int).toNat 0)) fun r10 =>
    Option.bind (L19_Same r9 r10) fun r11 =>
    bif r11 then
      Option.bind (L19_From r4.1) fun r12 =>
      Option.bind (L19_Same r12 r5.1) fun r13 =>
      bif r13 then
        bif decide (r4.2.1 = r5.2.1) then
          Option.bind (L19_From r6.1) fun r14 =>
          Option.bind (L19_Same r14 r7.1) fun r15 =>
          bif r15 then
            bif (decide (r6.2.1.1 = r7.2.1.1)) && ((decide (r6.2.1.2.1 = r7.2.1.2.1)) && ((decide (r6.2.1.2.2.1 = r7.2.1.2.2.1)) && true)) then
              bif decide (r6.2.2.1 = r7.2.2.1) then
                Option.bind (L19_alive) fun r16 =>
                some r16
              else
                some false
            else
              some false
          else
            some false
        else
          some false
      else
        some false
    else
      some false
end Go.Proofs.YtbkccpddkpclaaaV
