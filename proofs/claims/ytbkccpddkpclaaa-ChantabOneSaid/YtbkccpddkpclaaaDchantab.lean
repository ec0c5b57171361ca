import Derived.Test.YtbkccpddkpclaaaVcG1
import Derived.Test.YtbkccpddkpclaaaDchannel
namespace Go.Proofs.YtbkccpddkpclaaaV
set_option linter.unusedVariables false
def chantab_New_J1 (p1 : List ((Int × Int × Int × Int × Unit) × Int × (List Int) × (Bool × (List Int) × Unit) × (List Int) × (Bool × (List Int) × Unit) × Unit)) : Option ((List ((Int × Int × Int × Int × Unit) × Int × (List Int) × (Bool × (List Int) × Unit) × (List Int) × (Bool × (List Int) × Unit) × Unit)) × Int × Int × Unit) :=
  some (p1, 0, 0, ())
def chantab_New_L1 (p2 : Int) (a0 : List (Int × Int × Int × Int × Unit)) (k1 : (Int × (List ((Int × Int × Int × Int × Unit) × Int × (List Int) × (Bool × (List Int) × Unit) × (List Int) × (Bool × (List Int) × Unit) × Unit))) → Option ((List ((Int × Int × Int × Int × Unit) × Int × (List Int) × (Bool × (List Int) × Unit) × (List Int) × (Bool × (List Int) × Unit) × Unit)) × Int × Int × Unit)) (x1 : Int × (List ((Int × Int × Int × Int × Unit) × Int × (List Int) × (Bool × (List Int) × Unit) × (List Int) × (Bool × (List Int) × Unit) × Unit))) : Option ((List ((Int × Int × Int × Int × Unit) × Int × (List Int) × (Bool × (List Int) × Unit) × (List Int) × (Bool × (List Int) × Unit) × Unit)) × Int × Int × Unit) :=
  bif decide (x1.1 < p2) then
    chk (0 ≤ x1.1 ∧ x1.1 < (a0.length : Int)) <|
    Option.bind (channel_New (a0.getD x1.1.toNat (0, 0, 0, 0, ()))) fun r1 =>
    bif !decide (r1.2.1 = 0) then
      some ([], x1.1, r1.2.1, ())
    else
      chk (x1.2.length + ([r1.1] : List ((Int × Int × Int × Int × Unit) × Int × (List Int) × (Bool × (List Int) × Unit) × (List Int) × (Bool × (List Int) × Unit) × Unit)).length ≤ 4294967296) <|
      k1 (IntKind.i64.wrap (x1.1 + 1), x1.2 ++ [r1.1])
  else
    chantab_New_J1 x1.2
def chantab_New (a0 : List (Int × Int × Int × Int × Unit)) : Option ((List ((Int × Int × Int × Int × Unit) × Int × (List Int) × (Bool × (List Int) × Unit) × (List Int) × (Bool × (List Int) × Unit) × Unit)) × Int × Int × Unit) :=
  bif decide ((a0.length : Int) > 8) then
    some ([], 8, 5, ())
  else
    loop (chantab_New_L1 (a0.length : Int) a0) (0, [])
def chantab_Moves_J1 (p1 : List (Int × Int × Unit)) : Option (List (Int × Int × Unit)) :=
  some p1
def chantab_Moves_J2 (k1 : (Int × Int × (List (Int × Int × Unit))) → Option (List (Int × Int × Unit))) (x1 : Int × Int × (List (Int × Int × Unit))) (p2 : List (Int × Int × Unit)) : Option (List (Int × Int × Unit)) :=
  k1 (x1.1, IntKind.i64.wrap (x1.2.1 + 1), p2)
def chantab_Moves_J3 (k1 : (Int × Int × (List (Int × Int × Unit))) → Option (List (Int × Int × Unit))) (x1 : Int × Int × (List (Int × Int × Unit))) (p3 : List (Int × Int × Unit)) : Option (List (Int × Int × Unit)) :=
  chantab_Moves_J2 k1 x1 p3
def chantab_Moves_L1 (p4 : Int) (r1 : List Int) (x1 : Int × Int × (List (Int × Int × Unit))) (k1 : (Int × Int × (List (Int × Int × Unit))) → Option (List (Int × Int × Unit))) (k2 : (Int × (List (Int × Int × Unit))) → Option (List (Int × Int × Unit))) (x2 : Int × (List (Int × Int × Unit))) : Option (List (Int × Int × Unit)) :=
  bif decide (x2.1 < p4) then
    chk (0 ≤ x2.1 ∧ x2.1 < (r1.length : Int)) <|
    chk (x2.2.length + ([(x1.2.1, r1.getD x2.1.toNat 0, ())] : List (Int × Int × Unit)).length ≤ 4294967296) <|
    letv (x2.2 ++ [(x1.2.1, r1.getD x2.1.toNat 0, ())]) fun l1 =>
    k2 (IntKind.i64.wrap (x2.1 + 1), l1)
  else
    chantab_Moves_J3 k1 x1 x2.2
def chantab_Moves_L2 (a0 : List ((Int × Int × Int × Int × Unit) × Int × (List Int) × (Bool × (List Int) × Unit) × (List Int) × (Bool × (List Int) × Unit) × Unit)) (k1 : (Int × Int × (List (Int × Int × Unit))) → Option (List (Int × Int × Unit))) (x1 : Int × Int × (List (Int × Int × Unit))) : Option (List (Int × Int × Unit)) :=
  bif decide (x1.2.1 < x1.1) then
    chk (0 ≤ x1.2.1 ∧ x1.2.1 < (a0.length : Int)) <|
    Option.bind (channel_What (a0.getD x1.2.1.toNat ((0, 0, 0, 0, ()), 0, [], (false, [], ()), [], (false, [], ()), ()))) fun r1 =>
    loop (chantab_Moves_L1 (r1.length : Int) r1 x1 k1) (0, x1.2.2)
  else
    chantab_Moves_J1 x1.2.2
def chantab_Moves (a0 : List ((Int × Int × Int × Int × Unit) × Int × (List Int) × (Bool × (List Int) × Unit) × (List Int) × (Bool × (List Int) × Unit) × Unit)) : Option (List (Int × Int × Unit)) :=
  loop (chantab_Moves_L2 a0) ((a0.length : Int), 0, [])
def chantab_Hits_J1 (p1 : List Int) : Option (List Int) :=
  some p1
def chantab_Hits_L1 (p2 : Int) (a0 : List ((Int × Int × Int × Int × Unit) × Int × (List Int) × (Bool × (List Int) × Unit) × (List Int) × (Bool × (List Int) × Unit) × Unit)) (a1 : Int) (k1 : (Int × List Int) → Option (List Int)) (x1 : Int × List Int) : Option (List Int) :=
  bif decide (x1.1 < p2) then
    chk (0 ≤ x1.1 ∧ x1.1 < (a0.length : Int)) <|
    Option.bind (channel_Hit (a0.getD x1.1.toNat ((0, 0, 0, 0, ()), 0, [], (false, [], ()), [], (false, [], ()), ())) a1) fun r1 =>
    bif r1 then
      chk (x1.2.length + ([x1.1] : List Int).length ≤ 4294967296) <|
      k1 (IntKind.i64.wrap (x1.1 + 1), x1.2 ++ [x1.1])
    else
      k1 (IntKind.i64.wrap (x1.1 + 1), x1.2)
  else
    chantab_Hits_J1 x1.2
def chantab_Hits (a0 : List ((Int × Int × Int × Int × Unit) × Int × (List Int) × (Bool × (List Int) × Unit) × (List Int) × (Bool × (List Int) × Unit) × Unit)) (a1 : Int) : Option (List Int) :=
  loop (chantab_Hits_L1 (a0.length : Int) a0 a1) (0, [])
def chantab_is (a0 : List ((Int × Int × Int × Int × Unit) × Int × (List Int) × (Bool × (List Int) × Unit) × (List Int) × (Bool × (List Int) × Unit) × Unit)) (a1 : Int) : Option Bool :=
  bif decide (a1 ≥ 0) then
    some (decide (a1 < (a0.length : Int)))
  else
    some false
def chantab_Offer_J1 (p1 : List ((Int × Int × Int × Int × Unit) × Int × (List Int) × (Bool × (List Int) × Unit) × (List Int) × (Bool × (List Int) × Unit) × Unit)) : Option ((List ((Int × Int × Int × Int × Unit) × Int × (List Int) × (Bool × (List Int) × Unit) × (List Int) × (Bool × (List Int) × Unit) × Unit)) × Int × Int × Unit) :=
  some (p1, 0, 0, ())
def chantab_Offer_C1 (x1 : (List ((Int × Int × Int × Int × Unit) × Int × (List Int) × (Bool × (List Int) × Unit) × (List Int) × (Bool × (List Int) × Unit) × Unit)) × Int × Bool × (List (Int × Int × Int × Int × Int × Unit)) × Int × Int × (List ((Int × Int × Int × Int × Unit) × Int × (List Int) × (Bool × (List Int) × Unit) × (List Int) × (Bool × (List Int) × Unit) × Unit))) (k3 : ((List ((Int × Int × Int × Int × Unit) × Int × (List Int) × (Bool × (List Int) × Unit) × (List Int) × (Bool × (List Int) × Unit) × Unit)) × Int × Bool × Int × Int × (List (Int × Int × Int × Int × Int × Unit)) × Int × Int × (List ((Int × Int × Int × Int × Unit) × Int × (List Int) × (Bool × (List Int) × Unit) × (List Int) × (Bool × (List Int) × Unit) × Unit))) → Option ((List ((Int × Int × Int × Int × Unit) × Int × (List Int) × (Bool × (List Int) × Unit) × (List Int) × (Bool × (List Int) × Unit) × Unit)) × Int × Int × Unit)) : Option ((List ((Int × Int × Int × Int × Unit) × Int × (List Int) × (Bool × (List Int) × Unit) × (List Int) × (Bool × (List Int) × Unit) × Unit)) × Int × Int × Unit) :=
  Option.bind (chantab_is x1.2.2.2.2.2.2 (x1.2.2.2.1.getD x1.2.2.2.2.2.1.toNat (0, 0, 0, 0, 0, ())).2.1) fun r1 =>
  bif !r1 then
    k3 (x1.1, x1.2.1, x1.2.2.1, x1.2.2.2.2.2.1, 8, x1.2.2.2.1, x1.2.2.2.2.1, x1.2.2.2.2.2.1, x1.2.2.2.2.2.2)
  else
    chk (0 ≤ (x1.2.2.2.1.getD x1.2.2.2.2.2.1.toNat (0, 0, 0, 0, 0, ())).2.1 ∧ (x1.2.2.2.1.getD x1.2.2.2.2.2.1.toNat (0, 0, 0, 0, 0, ())).2.1 < (x1.2.2.2.2.2.2.length : Int)) <|
    letv ((x1.2.2.2.2.2.2.getD (x1.2.2.2.1.getD x1.2.2.2.2.2.1.toNat (0, 0, 0, 0, 0, ())).2.1.toNat ((0, 0, 0, 0, ()), 0, [], (false, [], ()), [], (false, [], ()), ())).2.2.2.2.2.1.1) fun v1 =>
    bif decide ((x1.2.2.2.1.getD x1.2.2.2.2.2.1.toNat (0, 0, 0, 0, 0, ())).1 = 2) then
      letv ((x1.2.2.2.2.2.2.getD (x1.2.2.2.1.getD x1.2.2.2.2.2.1.toNat (0, 0, 0, 0, 0, ())).2.1.toNat ((0, 0, 0, 0, ()), 0, [], (false, [], ()), [], (false, [], ()), ())).2.2.2.1.1) fun v2 =>
      bif x1.2.2.1 then
        bif v2 then
          k3 (x1.1, x1.2.1, x1.2.2.1, x1.2.2.2.2.2.1, 12, x1.2.2.2.1, x1.2.2.2.2.1, x1.2.2.2.2.2.1, x1.2.2.2.2.2.2)
        else
          bif decide ((x1.2.2.2.1.getD x1.2.2.2.2.2.1.toNat (0, 0, 0, 0, 0, ())).1 = 2) then
            Option.bind (channel_Send ((x1.2.2.2.2.2.2.getD (x1.2.2.2.1.getD x1.2.2.2.2.2.1.toNat (0, 0, 0, 0, 0, ())).2.1.toNat ((0, 0, 0, 0, ()), 0, [], (false, [], ()), [], (false, [], ()), ())).1, (x1.2.2.2.2.2.2.getD (x1.2.2.2.1.getD x1.2.2.2.2.2.1.toNat (0, 0, 0, 0, 0, ())).2.1.toNat ((0, 0, 0, 0, ()), 0, [], (false, [], ()), [], (false, [], ()), ())).2.1, (x1.2.2.2.2.2.2.getD (x1.2.2.2.1.getD x1.2.2.2.2.2.1.toNat (0, 0, 0, 0, 0, ())).2.1.toNat ((0, 0, 0, 0, ()), 0, [], (false, [], ()), [], (false, [], ()), ())).2.2.1, (v2, (x1.2.2.2.2.2.2.getD (x1.2.2.2.1.getD x1.2.2.2.2.2.1.toNat (0, 0, 0, 0, 0, ())).2.1.toNat ((0, 0, 0, 0, ()), 0, [], (false, [], ()), [], (false, [], ()), ())).2.2.2.1.2.1, ()), (x1.2.2.2.2.2.2.getD (x1.2.2.2.1.getD x1.2.2.2.2.2.1.toNat (0, 0, 0, 0, 0, ())).2.1.toNat ((0, 0, 0, 0, ()), 0, [], (false, [], ()), [], (false, [], ()), ())).2.2.2.2.1, (v1, (x1.2.2.2.2.2.2.getD (x1.2.2.2.1.getD x1.2.2.2.2.2.1.toNat (0, 0, 0, 0, 0, ())).2.1.toNat ((0, 0, 0, 0, ()), 0, [], (false, [], ()), [], (false, [], ()), ())).2.2.2.2.2.1.2.1, ()), ()) x1.2.1 (x1.2.2.2.1.getD x1.2.2.2.2.2.1.toNat (0, 0, 0, 0, 0, ())).2.2.1) fun r2 =>
            chk (0 ≤ (x1.2.2.2.1.getD x1.2.2.2.2.2.1.toNat (0, 0, 0, 0, 0, ())).2.1 ∧ (x1.2.2.2.1.getD x1.2.2.2.2.2.1.toNat (0, 0, 0, 0, 0, ())).2.1 < (x1.2.2.2.2.2.2.length : Int)) <|
            letv (x1.2.2.2.2.2.2.set (x1.2.2.2.1.getD x1.2.2.2.2.2.1.toNat (0, 0, 0, 0, 0, ())).2.1.toNat r2.1) fun l2 =>
            k3 (x1.1, x1.2.1, x1.2.2.1, x1.2.2.2.2.2.1, r2.2.1, x1.2.2.2.1, x1.2.2.2.2.1, x1.2.2.2.2.2.1, l2)
          else
            Option.bind (channel_Recv ((x1.2.2.2.2.2.2.getD (x1.2.2.2.1.getD x1.2.2.2.2.2.1.toNat (0, 0, 0, 0, 0, ())).2.1.toNat ((0, 0, 0, 0, ()), 0, [], (false, [], ()), [], (false, [], ()), ())).1, (x1.2.2.2.2.2.2.getD (x1.2.2.2.1.getD x1.2.2.2.2.2.1.toNat (0, 0, 0, 0, 0, ())).2.1.toNat ((0, 0, 0, 0, ()), 0, [], (false, [], ()), [], (false, [], ()), ())).2.1, (x1.2.2.2.2.2.2.getD (x1.2.2.2.1.getD x1.2.2.2.2.2.1.toNat (0, 0, 0, 0, 0, ())).2.1.toNat ((0, 0, 0, 0, ()), 0, [], (false, [], ()), [], (false, [], ()), ())).2.2.1, (v2, (x1.2.2.2.2.2.2.getD (x1.2.2.2.1.getD x1.2.2.2.2.2.1.toNat (0, 0, 0, 0, 0, ())).2.1.toNat ((0, 0, 0, 0, ()), 0, [], (false, [], ()), [], (false, [], ()), ())).2.2.2.1.2.1, ()), (x1.2.2.2.2.2.2.getD (x1.2.2.2.1.getD x1.2.2.2.2.2.1.toNat (0, 0, 0, 0, 0, ())).2.1.toNat ((0, 0, 0, 0, ()), 0, [], (false, [], ()), [], (false, [], ()), ())).2.2.2.2.1, (v1, (x1.2.2.2.2.2.2.getD (x1.2.2.2.1.getD x1.2.2.2.2.2.1.toNat (0, 0, 0, 0, 0, ())).2.1.toNat ((0, 0, 0, 0, ()), 0, [], (false, [], ()), [], (false, [], ()), ())).2.2.2.2.2.1.2.1, ()), ()) x1.2.1) fun r3 =>
            chk (0 ≤ (x1.2.2.2.1.getD x1.2.2.2.2.2.1.toNat (0, 0, 0, 0, 0, ())).2.1 ∧ (x1.2.2.2.1.getD x1.2.2.2.2.2.1.toNat (0, 0, 0, 0, 0, ())).2.1 < (x1.2.2.2.2.2.2.length : Int)) <|
            letv (x1.2.2.2.2.2.2.set (x1.2.2.2.1.getD x1.2.2.2.2.2.1.toNat (0, 0, 0, 0, 0, ())).2.1.toNat r3.1) fun l3 =>
            k3 (x1.1, x1.2.1, x1.2.2.1, x1.2.2.2.2.2.1, r3.2.1, x1.2.2.2.1, x1.2.2.2.2.1, x1.2.2.2.2.2.1, l3)
      else
        bif decide ((x1.2.2.2.1.getD x1.2.2.2.2.2.1.toNat (0, 0, 0, 0, 0, ())).1 = 2) then
          Option.bind (channel_Send ((x1.2.2.2.2.2.2.getD (x1.2.2.2.1.getD x1.2.2.2.2.2.1.toNat (0, 0, 0, 0, 0, ())).2.1.toNat ((0, 0, 0, 0, ()), 0, [], (false, [], ()), [], (false, [], ()), ())).1, (x1.2.2.2.2.2.2.getD (x1.2.2.2.1.getD x1.2.2.2.2.2.1.toNat (0, 0, 0, 0, 0, ())).2.1.toNat ((0, 0, 0, 0, ()), 0, [], (false, [], ()), [], (false, [], ()), ())).2.1, (x1.2.2.2.2.2.2.getD (x1.2.2.2.1.getD x1.2.2.2.2.2.1.toNat (0, 0, 0, 0, 0, ())).2.1.toNat ((0, 0, 0, 0, ()), 0, [], (false, [], ()), [], (false, [], ()), ())).2.2.1, (v2, (x1.2.2.2.2.2.2.getD (x1.2.2.2.1.getD x1.2.2.2.2.2.1.toNat (0, 0, 0, 0, 0, ())).2.1.toNat ((0, 0, 0, 0, ()), 0, [], (false, [], ()), [], (false, [], ()), ())).2.2.2.1.2.1, ()), (x1.2.2.2.2.2.2.getD (x1.2.2.2.1.getD x1.2.2.2.2.2.1.toNat (0, 0, 0, 0, 0, ())).2.1.toNat ((0, 0, 0, 0, ()), 0, [], (false, [], ()), [], (false, [], ()), ())).2.2.2.2.1, (v1, (x1.2.2.2.2.2.2.getD (x1.2.2.2.1.getD x1.2.2.2.2.2.1.toNat (0, 0, 0, 0, 0, ())).2.1.toNat ((0, 0, 0, 0, ()), 0, [], (false, [], ()), [], (false, [], ()), ())).2.2.2.2.2.1.2.1, ()), ()) x1.2.1 (x1.2.2.2.1.getD x1.2.2.2.2.2.1.toNat (0, 0, 0, 0, 0, ())).2.2.1) fun r4 =>
          chk (0 ≤ (x1.2.2.2.1.getD x1.2.2.2.2.2.1.toNat (0, 0, 0, 0, 0, ())).2.1 ∧ (x1.2.2.2.1.getD x1.2.2.2.2.2.1.toNat (0, 0, 0, 0, 0, ())).2.1 < (x1.2.2.2.2.2.2.length : Int)) <|
          letv (x1.2.2.2.2.2.2.set (x1.2.2.2.1.getD x1.2.2.2.2.2.1.toNat (0, 0, 0, 0, 0, ())).2.1.toNat r4.1) fun l4 =>
          k3 (x1.1, x1.2.1, x1.2.2.1, x1.2.2.2.2.2.1, r4.2.1, x1.2.2.2.1, x1.2.2.2.2.1, x1.2.2.2.2.2.1, l4)
        else
          Option.bind (channel_Recv ((x1.2.2.2.2.2.2.getD (x1.2.2.2.1.getD x1.2.2.2.2.2.1.toNat (0, 0, 0, 0, 0, ())).2.1.toNat ((0, 0, 0, 0, ()), 0, [], (false, [], ()), [], (false, [], ()), ())).1, (x1.2.2.2.2.2.2.getD (x1.2.2.2.1.getD x1.2.2.2.2.2.1.toNat (0, 0, 0, 0, 0, ())).2.1.toNat ((0, 0, 0, 0, ()), 0, [], (false, [], ()), [], (false, [], ()), ())).2.1, (x1.2.2.2.2.2.2.getD (x1.2.2.2.1.getD x1.2.2.2.2.2.1.toNat (0, 0, 0, 0, 0, ())).2.1.toNat ((0, 0, 0, 0, ()), 0, [], (false, [], ()), [], (false, [], ()), ())).2.2.1, (v2, (x1.2.2.2.2.2.2.getD (x1.2.2.2.1.getD x1.2.2.2.2.2.1.toNat (0, 0, 0, 0, 0, ())).2.1.toNat ((0, 0, 0, 0, ()), 0, [], (false, [], ()), [], (false, [], ()), ())).2.2.2.1.2.1, ()), (x1.2.2.2.2.2.2.getD (x1.2.2.2.1.getD x1.2.2.2.2.2.1.toNat (0, 0, 0, 0, 0, ())).2.1.toNat ((0, 0, 0, 0, ()), 0, [], (false, [], ()), [], (false, [], ()), ())).2.2.2.2.1, (v1, (x1.2.2.2.2.2.2.getD (x1.2.2.2.1.getD x1.2.2.2.2.2.1.toNat (0, 0, 0, 0, 0, ())).2.1.toNat ((0, 0, 0, 0, ()), 0, [], (false, [], ()), [], (false, [], ()), ())).2.2.2.2.2.1.2.1, ()), ()) x1.2.1) fun r5 =>
          chk (0 ≤ (x1.2.2.2.1.getD x1.2.2.2.2.2.1.toNat (0, 0, 0, 0, 0, ())).2.1 ∧ (x1.2.2.2.1.getD x1.2.2.2.2.2.1.toNat (0, 0, 0, 0, 0, ())).2.1 < (x1.2.2.2.2.2.2.length : Int)) <|
          letv (x1.2.2.2.2.2.2.set (x1.2.2.2.1.getD x1.2.2.2.2.2.1.toNat (0, 0, 0, 0, 0, ())).2.1.toNat r5.1) fun l5 =>
          k3 (x1.1, x1.2.1, x1.2.2.1, x1.2.2.2.2.2.1, r5.2.1, x1.2.2.2.1, x1.2.2.2.2.1, x1.2.2.2.2.2.1, l5)
    else
      bif x1.2.2.1 then
        bif v1 then
          k3 (x1.1, x1.2.1, x1.2.2.1, x1.2.2.2.2.2.1, 12, x1.2.2.2.1, x1.2.2.2.2.1, x1.2.2.2.2.2.1, x1.2.2.2.2.2.2)
        else
          bif decide ((x1.2.2.2.1.getD x1.2.2.2.2.2.1.toNat (0, 0, 0, 0, 0, ())).1 = 2) then
            Option.bind (channel_Send ((x1.2.2.2.2.2.2.getD (x1.2.2.2.1.getD x1.2.2.2.2.2.1.toNat (0, 0, 0, 0, 0, ())).2.1.toNat ((0, 0, 0, 0, ()), 0, [], (false, [], ()), [], (false, [], ()), ())).1, (x1.2.2.2.2.2.2.getD (x1.2.2.2.1.getD x1.2.2.2.2.2.1.toNat (0, 0, 0, 0, 0, ())).2.1.toNat ((0, 0, 0, 0, ()), 0, [], (false, [], ()), [], (false, [], ()), ())).2.1, (x1.2.2.2.2.2.2.getD (x1.2.2.2.1.getD x1.2.2.2.2.2.1.toNat (0, 0, 0, 0, 0, ())).2.1.toNat ((0, 0, 0, 0, ()), 0, [], (false, [], ()), [], (false, [], ()), ())).2.2.1, (x1.2.2.2.2.2.2.getD (x1.2.2.2.1.getD x1.2.2.2.2.2.1.toNat (0, 0, 0, 0, 0, ())).2.1.toNat ((0, 0, 0, 0, ()), 0, [], (false, [], ()), [], (false, [], ()), ())).2.2.2.1, (x1.2.2.2.2.2.2.getD (x1.2.2.2.1.getD x1.2.2.2.2.2.1.toNat (0, 0, 0, 0, 0, ())).2.1.toNat ((0, 0, 0, 0, ()), 0, [], (false, [], ()), [], (false, [], ()), ())).2.2.2.2.1, (v1, (x1.2.2.2.2.2.2.getD (x1.2.2.2.1.getD x1.2.2.2.2.2.1.toNat (0, 0, 0, 0, 0, ())).2.1.toNat ((0, 0, 0, 0, ()), 0, [], (false, [], ()), [], (false, [], ()), ())).2.2.2.2.2.1.2.1, ()), ()) x1.2.1 (x1.2.2.2.1.getD x1.2.2.2.2.2.1.toNat (0, 0, 0, 0, 0, ())).2.2.1) fun r6 =>
            chk (0 ≤ (x1.2.2.2.1.getD x1.2.2.2.2.2.1.toNat (0, 0, 0, 0, 0, ())).2.1 ∧ (x1.2.2.2.1.getD x1.2.2.2.2.2.1.toNat (0, 0, 0, 0, 0, ())).2.1 < (x1.2.2.2.2.2.2.length : Int)) <|
            letv (x1.2.2.2.2.2.2.set (x1.2.2.2.1.getD x1.2.2.2.2.2.1.toNat (0, 0, 0, 0, 0, ())).2.1.toNat r6.1) fun l6 =>
            k3 (x1.1, x1.2.1, x1.2.2.1, x1.2.2.2.2.2.1, r6.2.1, x1.2.2.2.1, x1.2.2.2.2.1, x1.2.2.2.2.2.1, l6)
          else
            Option.bind (channel_Recv ((x1.2.2.2.2.2.2.getD (x1.2.2.2.1.getD x1.2.2.2.2.2.1.toNat (0, 0, 0, 0, 0, ())).2.1.toNat ((0, 0, 0, 0, ()), 0, [], (false, [], ()), [], (false, [], ()), ())).1, (x1.2.2.2.2.2.2.getD (x1.2.2.2.1.getD x1.2.2.2.2.2.1.toNat (0, 0, 0, 0, 0, ())).2.1.toNat ((0, 0, 0, 0, ()), 0, [], (false, [], ()), [], (false, [], ()), ())).2.1, (x1.2.2.2.2.2.2.getD (x1.2.2.2.1.getD x1.2.2.2.2.2.1.toNat (0, 0, 0, 0, 0, ())).2.1.toNat ((0, 0, 0, 0, ()), 0, [], (false, [], ()), [], (false, [], ()), ())).2.2.1, (x1.2.2.2.2.2.2.getD (x1.2.2.2.1.getD x1.2.2.2.2.2.1.toNat (0, 0, 0, 0, 0, ())).2.1.toNat ((0, 0, 0, 0, ()), 0, [], (false, [], ()), [], (false, [], ()), ())).2.2.2.1, (x1.2.2.2.2.2.2.getD (x1.2.2.2.1.getD x1.2.2.2.2.2.1.toNat (0, 0, 0, 0, 0, ())).2.1.toNat ((0, 0, 0, 0, ()), 0, [], (false, [], ()), [], (false, [], ()), ())).2.2.2.2.1, (v1, (x1.2.2.2.2.2.2.getD (x1.2.2.2.1.getD x1.2.2.2.2.2.1.toNat (0, 0, 0, 0, 0, ())).2.1.toNat ((0, 0, 0, 0, ()), 0, [], (false, [], ()), [], (false, [], ()), ())).2.2.2.2.2.1.2.1, ()), ()) x1.2.1) fun r7 =>
            chk (0 ≤ (x1.2.2.2.1.getD x1.2.2.2.2.2.1.toNat (0, 0, 0, 0, 0, ())).2.1 ∧ (x1.2.2.2.1.getD x1.2.2.2.2.2.1.toNat (0, 0, 0, 0, 0, ())).2.1 < (x1.2.2.2.2.2.2.length : Int)) <|
            letv (x1.2.2.2.2.2.2.set (x1.2.2.2.1.getD x1.2.2.2.2.2.1.toNat (0, 0, 0, 0, 0, ())).2.1.toNat r7.1) fun l7 =>
            k3 (x1.1, x1.2.1, x1.2.2.1, x1.2.2.2.2.2.1, r7.2.1, x1.2.2.2.1, x1.2.2.2.2.1, x1.2.2.2.2.2.1, l7)
      else
        bif decide ((x1.2.2.2.1.getD x1.2.2.2.2.2.1.toNat (0, 0, 0, 0, 0, ())).1 = 2) then
          Option.bind (channel_Send ((x1.2.2.2.2.2.2.getD (x1.2.2.2.1.getD x1.2.2.2.2.2.1.toNat (0, 0, 0, 0, 0, ())).2.1.toNat ((0, 0, 0, 0, ()), 0, [], (false, [], ()), [], (false, [], ()), ())).1, (x1.2.2.2.2.2.2.getD (x1.2.2.2.1.getD x1.2.2.2.2.2.1.toNat (0, 0, 0, 0, 0, ())).2.1.toNat ((0, 0, 0, 0, ()), 0, [], (false, [], ()), [], (false, [], ()), ())).2.1, (x1.2.2.2.2.2.2.getD (x1.2.2.2.1.getD x1.2.2.2.2.2.1.toNat (0, 0, 0, 0, 0, ())).2.1.toNat ((0, 0, 0, 0, ()), 0, [], (false, [], ()), [], (false, [], ()), ())).2.2.1, (x1.2.2.2.2.2.2.getD (x1.2.2.2.1.getD x1.2.2.2.2.2.1.toNat (0, 0, 0, 0, 0, ())).2.1.toNat ((0, 0, 0, 0, ()), 0, [], (false, [], ()), [], (false, [], ()), ())).2.2.2.1, (x1.2.2.2.2.2.2.getD (x1.2.2.2.1.getD x1.2.2.2.2.2.1.toNat (0, 0, 0, 0, 0, ())).2.1.toNat ((0, 0, 0, 0, ()), 0, [], (false, [], ()), [], (false, [], ()), ())).2.2.2.2.1, (v1, (x1.2.2.2.2.2.2.getD (x1.2.2.2.1.getD x1.2.2.2.2.2.1.toNat (0, 0, 0, 0, 0, ())).2.1.toNat ((0, 0, 0, 0, ()), 0, [], (false, [], ()), [], (false, [], ()), ())).2.2.2.2.2.1.2.1, ()), ()) x1.2.1 (x1.2.2.2.1.getD x1.2.2.2.2.2.1.toNat (0, 0, 0, 0, 0, ())).2.2.1) fun r8 =>
          chk (0 ≤ (x1.2.2.2.1.getD x1.2.2.2.2.2.1.toNat (0, 0, 0, 0, 0, ())).2.1 ∧ (x1.2.2.2.1.getD x1.2.2.2.2.2.1.toNat (0, 0, 0, 0, 0, ())).2.1 < (x1.2.2.2.2.2.2.length : Int)) <|
          letv (x1.2.2.2.2.2.2.set (x1.2.2.2.1.getD x1.2.2.2.2.2.1.toNat (0, 0, 0, 0, 0, ())).2.1.toNat r8.1) fun l8 =>
          k3 (x1.1, x1.2.1, x1.2.2.1, x1.2.2.2.2.2.1, r8.2.1, x1.2.2.2.1, x1.2.2.2.2.1, x1.2.2.2.2.2.1, l8)
        else
          Option.bind (channel_Recv ((x1.2.2.2.2.2.2.getD (x1.2.2.2.1.getD x1.2.2.2.2.2.1.toNat (0, 0, 0, 0, 0, ())).2.1.toNat ((0, 0, 0, 0, ()), 0, [], (false, [], ()), [], (false, [], ()), ())).1, (x1.2.2.2.2.2.2.getD (x1.2.2.2.1.getD x1.2.2.2.2.2.1.toNat (0, 0, 0, 0, 0, ())).2.1.toNat ((0, 0, 0, 0, ()), 0, [], (false, [], ()), [], (false, [], ()), ())).2.1, (x1.2.2.2.2.2.2.getD (x1.2.2.2.1.getD x1.2.2.2.2.2.1.toNat (0, 0, 0, 0, 0, ())).2.1.toNat ((0, 0, 0, 0, ()), 0, [], (false, [], ()), [], (false, [], ()), ())).2.2.1, (x1.2.2.2.2.2.2.getD (x1.2.2.2.1.getD x1.2.2.2.2.2.1.toNat (0, 0, 0, 0, 0, ())).2.1.toNat ((0, 0, 0, 0, ()), 0, [], (false, [], ()), [], (false, [], ()), ())).2.2.2.1, (x1.2.2.2.2.2.2.getD (x1.2.2.2.1.getD x1.2.2.2.2.2.1.toNat (0, 0, 0, 0, 0, ())).2.1.toNat ((0, 0, 0, 0, ()), 0, [], (false, [], ()), [], (false, [], ()), ())).2.2.2.2.1, (v1, (x1.2.2.2.2.2.2.getD (x1.2.2.2.1.getD x1.2.2.2.2.2.1.toNat (0, 0, 0, 0, 0, ())).2.1.toNat ((0, 0, 0, 0, ()), 0, [], (false, [], ()), [], (false, [], ()), ())).2.2.2.2.2.1.2.1, ()), ()) x1.2.1) fun r9 =>
          chk (0 ≤ (x1.2.2.2.1.getD x1.2.2.2.2.2.1.toNat (0, 0, 0, 0, 0, ())).2.1 ∧ (x1.2.2.2.1.getD x1.2.2.2.2.2.1.toNat (0, 0, 0, 0, 0, ())).2.1 < (x1.2.2.2.2.2.2.length : Int)) <|
          letv (x1.2.2.2.2.2.2.set (x1.2.2.2.1.getD x1.2.2.2.2.2.1.toNat (0, 0, 0, 0, 0, ())).2.1.toNat r9.1) fun l9 =>
          k3 (x1.1, x1.2.1, x1.2.2.1, x1.2.2.2.2.2.1, r9.2.1, x1.2.2.2.1, x1.2.2.2.2.1, x1.2.2.2.2.2.1, l9)
def chantab_Offer_R1 (k2 : ((List ((Int × Int × Int × Int × Unit) × Int × (List Int) × (Bool × (List Int) × Unit) × (List Int) × (Bool × (List Int) × Unit) × Unit)) × Int × Bool × (List (Int × Int × Int × Int × Int × Unit)) × Int × Int × (List ((Int × Int × Int × Int × Unit) × Int × (List Int) × (Bool × (List Int) × Unit) × (List Int) × (Bool × (List Int) × Unit) × Unit))) → Option ((List ((Int × Int × Int × Int × Unit) × Int × (List Int) × (Bool × (List Int) × Unit) × (List Int) × (Bool × (List Int) × Unit) × Unit)) × Int × Int × Unit)) (x3 : (List ((Int × Int × Int × Int × Unit) × Int × (List Int) × (Bool × (List Int) × Unit) × (List Int) × (Bool × (List Int) × Unit) × Unit)) × Int × Bool × Int × Int × (List (Int × Int × Int × Int × Int × Unit)) × Int × Int × (List ((Int × Int × Int × Int × Unit) × Int × (List Int) × (Bool × (List Int) × Unit) × (List Int) × (Bool × (List Int) × Unit) × Unit))) : Option ((List ((Int × Int × Int × Int × Unit) × Int × (List Int) × (Bool × (List Int) × Unit) × (List Int) × (Bool × (List Int) × Unit) × Unit)) × Int × Int × Unit) :=
  bif !decide (x3.2.2.2.2.1 = 0) then
    some (x3.1, x3.2.2.2.1, x3.2.2.2.2.1, ())
  else
    k2 (x3.1, x3.2.1, x3.2.2.1, x3.2.2.2.2.2.1, x3.2.2.2.2.2.2.1, x3.2.2.2.2.2.2.2.1, x3.2.2.2.2.2.2.2.2)
def chantab_Offer_C2 (x1 : (List ((Int × Int × Int × Int × Unit) × Int × (List Int) × (Bool × (List Int) × Unit) × (List Int) × (Bool × (List Int) × Unit) × Unit)) × Int × Bool × (List (Int × Int × Int × Int × Int × Unit)) × Int × Int × (List ((Int × Int × Int × Int × Unit) × Int × (List Int) × (Bool × (List Int) × Unit) × (List Int) × (Bool × (List Int) × Unit) × Unit))) (k4 : ((List ((Int × Int × Int × Int × Unit) × Int × (List Int) × (Bool × (List Int) × Unit) × (List Int) × (Bool × (List Int) × Unit) × Unit)) × Int × Bool × Int × Int × (List (Int × Int × Int × Int × Int × Unit)) × Int × Int × (List ((Int × Int × Int × Int × Unit) × Int × (List Int) × (Bool × (List Int) × Unit) × (List Int) × (Bool × (List Int) × Unit) × Unit))) → Option ((List ((Int × Int × Int × Int × Unit) × Int × (List Int) × (Bool × (List Int) × Unit) × (List Int) × (Bool × (List Int) × Unit) × Unit)) × Int × Int × Unit)) : Option ((List ((Int × Int × Int × Int × Unit) × Int × (List Int) × (Bool × (List Int) × Unit) × (List Int) × (Bool × (List Int) × Unit) × Unit)) × Int × Int × Unit) :=
  Option.bind (chantab_is x1.2.2.2.2.2.2 (x1.2.2.2.1.getD x1.2.2.2.2.2.1.toNat (0, 0, 0, 0, 0, ())).2.1) fun r10 =>
  bif !r10 then
    k4 (x1.1, x1.2.1, x1.2.2.1, x1.2.2.2.2.2.1, 8, x1.2.2.2.1, x1.2.2.2.2.1, x1.2.2.2.2.2.1, x1.2.2.2.2.2.2)
  else
    chk (0 ≤ (x1.2.2.2.1.getD x1.2.2.2.2.2.1.toNat (0, 0, 0, 0, 0, ())).2.1 ∧ (x1.2.2.2.1.getD x1.2.2.2.2.2.1.toNat (0, 0, 0, 0, 0, ())).2.1 < (x1.2.2.2.2.2.2.length : Int)) <|
    letv ((x1.2.2.2.2.2.2.getD (x1.2.2.2.1.getD x1.2.2.2.2.2.1.toNat (0, 0, 0, 0, 0, ())).2.1.toNat ((0, 0, 0, 0, ()), 0, [], (false, [], ()), [], (false, [], ()), ())).2.2.2.2.2.1.1) fun v3 =>
    bif decide ((x1.2.2.2.1.getD x1.2.2.2.2.2.1.toNat (0, 0, 0, 0, 0, ())).1 = 2) then
      letv ((x1.2.2.2.2.2.2.getD (x1.2.2.2.1.getD x1.2.2.2.2.2.1.toNat (0, 0, 0, 0, 0, ())).2.1.toNat ((0, 0, 0, 0, ()), 0, [], (false, [], ()), [], (false, [], ()), ())).2.2.2.1.1) fun v4 =>
      bif x1.2.2.1 then
        bif v4 then
          k4 (x1.1, x1.2.1, x1.2.2.1, x1.2.2.2.2.2.1, 12, x1.2.2.2.1, x1.2.2.2.2.1, x1.2.2.2.2.2.1, x1.2.2.2.2.2.2)
        else
          bif decide ((x1.2.2.2.1.getD x1.2.2.2.2.2.1.toNat (0, 0, 0, 0, 0, ())).1 = 2) then
            Option.bind (channel_Send ((x1.2.2.2.2.2.2.getD (x1.2.2.2.1.getD x1.2.2.2.2.2.1.toNat (0, 0, 0, 0, 0, ())).2.1.toNat ((0, 0, 0, 0, ()), 0, [], (false, [], ()), [], (false, [], ()), ())).1, (x1.2.2.2.2.2.2.getD (x1.2.2.2.1.getD x1.2.2.2.2.2.1.toNat (0, 0, 0, 0, 0, ())).2.1.toNat ((0, 0, 0, 0, ()), 0, [], (false, [], ()), [], (false, [], ()), ())).2.1, (x1.2.2.2.2.2.2.getD (x1.2.2.2.1.getD x1.2.2.2.2.2.1.toNat (0, 0, 0, 0, 0, ())).2.1.toNat ((0, 0, 0, 0, ()), 0, [], (false, [], ()), [], (false, [], ()), ())).2.2.1, (v4, (x1.2.2.2.2.2.2.getD (x1.2.2.2.1.getD x1.2.2.2.2.2.1.toNat (0, 0, 0, 0, 0, ())).2.1.toNat ((0, 0, 0, 0, ()), 0, [], (false, [], ()), [], (false, [], ()), ())).2.2.2.1.2.1, ()), (x1.2.2.2.2.2.2.getD (x1.2.2.2.1.getD x1.2.2.2.2.2.1.toNat (0, 0, 0, 0, 0, ())).2.1.toNat ((0, 0, 0, 0, ()), 0, [], (false, [], ()), [], (false, [], ()), ())).2.2.2.2.1, (v3, (x1.2.2.2.2.2.2.getD (x1.2.2.2.1.getD x1.2.2.2.2.2.1.toNat (0, 0, 0, 0, 0, ())).2.1.toNat ((0, 0, 0, 0, ()), 0, [], (false, [], ()), [], (false, [], ()), ())).2.2.2.2.2.1.2.1, ()), ()) x1.2.1 (x1.2.2.2.1.getD x1.2.2.2.2.2.1.toNat (0, 0, 0, 0, 0, ())).2.2.1) fun r11 =>
            chk (0 ≤ (x1.2.2.2.1.getD x1.2.2.2.2.2.1.toNat (0, 0, 0, 0, 0, ())).2.1 ∧ (x1.2.2.2.1.getD x1.2.2.2.2.2.1.toNat (0, 0, 0, 0, 0, ())).2.1 < (x1.2.2.2.2.2.2.length : Int)) <|
            letv (x1.2.2.2.2.2.2.set (x1.2.2.2.1.getD x1.2.2.2.2.2.1.toNat (0, 0, 0, 0, 0, ())).2.1.toNat r11.1) fun l10 =>
            k4 (x1.1, x1.2.1, x1.2.2.1, x1.2.2.2.2.2.1, r11.2.1, x1.2.2.2.1, x1.2.2.2.2.1, x1.2.2.2.2.2.1, l10)
          else
            Option.bind (channel_Recv ((x1.2.2.2.2.2.2.getD (x1.2.2.2.1.getD x1.2.2.2.2.2.1.toNat (0, 0, 0, 0, 0, ())).2.1.toNat ((0, 0, 0, 0, ()), 0, [], (false, [], ()), [], (false, [], ()), ())).1, (x1.2.2.2.2.2.2.getD (x1.2.2.2.1.getD x1.2.2.2.2.2.1.toNat (0, 0, 0, 0, 0, ())).2.1.toNat ((0, 0, 0, 0, ()), 0, [], (false, [], ()), [], (false, [], ()), ())).2.1, (x1.2.2.2.2.2.2.getD (x1.2.2.2.1.getD x1.2.2.2.2.2.1.toNat (0, 0, 0, 0, 0, ())).2.1.toNat ((0, 0, 0, 0, ()), 0, [], (false, [], ()), [], (false, [], ()), ())).2.2.1, (v4, (x1.2.2.2.2.2.2.getD (x1.2.2.2.1.getD x1.2.2.2.2.2.1.toNat (0, 0, 0, 0, 0, ())).2.1.toNat ((0, 0, 0, 0, ()), 0, [], (false, [], ()), [], (false, [], ()), ())).2.2.2.1.2.1, ()), (x1.2.2.2.2.2.2.getD (x1.2.2.2.1.getD x1.2.2.2.2.2.1.toNat (0, 0, 0, 0, 0, ())).2.1.toNat ((0, 0, 0, 0, ()), 0, [], (false, [], ()), [], (false, [], ()), ())).2.2.2.2.1, (v3, (x1.2.2.2.2.2.2.getD (x1.2.2.2.1.getD x1.2.2.2.2.2.1.toNat (0, 0, 0, 0, 0, ())).2.1.toNat ((0, 0, 0, 0, ()), 0, [], (false, [], ()), [], (false, [], ()), ())).2.2.2.2.2.1.2.1, ()), ()) x1.2.1) fun r12 =>
            chk (0 ≤ (x1.2.2.2.1.getD x1.2.2.2.2.2.1.toNat (0, 0, 0, 0, 0, ())).2.1 ∧ (x1.2.2.2.1.getD x1.2.2.2.2.2.1.toNat (0, 0, 0, 0, 0, ())).2.1 < (x1.2.2.2.2.2.2.length : Int)) <|
            letv (x1.2.2.2.2.2.2.set (x1.2.2.2.1.getD x1.2.2.2.2.2.1.toNat (0, 0, 0, 0, 0, ())).2.1.toNat r12.1) fun l11 =>
            k4 (x1.1, x1.2.1, x1.2.2.1, x1.2.2.2.2.2.1, r12.2.1, x1.2.2.2.1, x1.2.2.2.2.1, x1.2.2.2.2.2.1, l11)
      else
        bif decide ((x1.2.2.2.1.getD x1.2.2.2.2.2.1.toNat (0, 0, 0, 0, 0, ())).1 = 2) then
          Option.bind (channel_Send ((x1.2.2.2.2.2.2.getD (x1.2.2.2.1.getD x1.2.2.2.2.2.1.toNat (0, 0, 0, 0, 0, ())).2.1.toNat ((0, 0, 0, 0, ()), 0, [], (false, [], ()), [], (false, [], ()), ())).1, (x1.2.2.2.2.2.2.getD (x1.2.2.2.1.getD x1.2.2.2.2.2.1.toNat (0, 0, 0, 0, 0, ())).2.1.toNat ((0, 0, 0, 0, ()), 0, [], (false, [], ()), [], (false, [], ()), ())).2.1, (x1.2.2.2.2.2.2.getD (x1.2.2.2.1.getD x1.2.2.2.2.2.1.toNat (0, 0, 0, 0, 0, ())).2.1.toNat ((0, 0, 0, 0, ()), 0, [], (false, [], ()), [], (false, [], ()), ())).2.2.1, (v4, (x1.2.2.2.2.2.2.getD (x1.2.2.2.1.getD x1.2.2.2.2.2.1.toNat (0, 0, 0, 0, 0, ())).2.1.toNat ((0, 0, 0, 0, ()), 0, [], (false, [], ()), [], (false, [], ()), ())).2.2.2.1.2.1, ()), (x1.2.2.2.2.2.2.getD (x1.2.2.2.1.getD x1.2.2.2.2.2.1.toNat (0, 0, 0, 0, 0, ())).2.1.toNat ((0, 0, 0, 0, ()), 0, [], (false, [], ()), [], (false, [], ()), ())).2.2.2.2.1, (v3, (x1.2.2.2.2.2.2.getD (x1.2.2.2.1.getD x1.2.2.2.2.2.1.toNat (0, 0, 0, 0, 0, ())).2.1.toNat ((0, 0, 0, 0, ()), 0, [], (false, [], ()), [], (false, [], ()), ())).2.2.2.2.2.1.2.1, ()), ()) x1.2.1 (x1.2.2.2.1.getD x1.2.2.2.2.2.1.toNat (0, 0, 0, 0, 0, ())).2.2.1) fun r13 =>
          chk (0 ≤ (x1.2.2.2.1.getD x1.2.2.2.2.2.1.toNat (0, 0, 0, 0, 0, ())).2.1 ∧ (x1.2.2.2.1.getD x1.2.2.2.2.2.1.toNat (0, 0, 0, 0, 0, ())).2.1 < (x1.2.2.2.2.2.2.length : Int)) <|
          letv (x1.2.2.2.2.2.2.set (x1.2.2.2.1.getD x1.2.2.2.2.2.1.toNat (0, 0, 0, 0, 0, ())).2.1.toNat r13.1) fun l12 =>
          k4 (x1.1, x1.2.1, x1.2.2.1, x1.2.2.2.2.2.1, r13.2.1, x1.2.2.2.1, x1.2.2.2.2.1, x1.2.2.2.2.2.1, l12)
        else
          Option.bind (channel_Recv ((x1.2.2.2.2.2.2.getD (x1.2.2.2.1.getD x1.2.2.2.2.2.1.toNat (0, 0, 0, 0, 0, ())).2.1.toNat ((0, 0, 0, 0, ()), 0, [], (false, [], ()), [], (false, [], ()), ())).1, (x1.2.2.2.2.2.2.getD (x1.2.2.2.1.getD x1.2.2.2.2.2.1.toNat (0, 0, 0, 0, 0, ())).2.1.toNat ((0, 0, 0, 0, ()), 0, [], (false, [], ()), [], (false, [], ()), ())).2.1, (x1.2.2.2.2.2.2.getD (x1.2.2.2.1.getD x1.2.2.2.2.2.1.toNat (0, 0, 0, 0, 0, ())).2.1.toNat ((0, 0, 0, 0, ()), 0, [], (false, [], ()), [], (false, [], ()), ())).2.2.1, (v4, (x1.2.2.2.2.2.2.getD (x1.2.2.2.1.getD x1.2.2.2.2.2.1.toNat (0, 0, 0, 0, 0, ())).2.1.toNat ((0, 0, 0, 0, ()), 0, [], (false, [], ()), [], (false, [], ()), ())).2.2.2.1.2.1, ()), (x1.2.2.2.2.2.2.getD (x1.2.2.2.1.getD x1.2.2.2.2.2.1.toNat (0, 0, 0, 0, 0, ())).2.1.toNat ((0, 0, 0, 0, ()), 0, [], (false, [], ()), [], (false, [], ()), ())).2.2.2.2.1, (v3, (x1.2.2.2.2.2.2.getD (x1.2.2.2.1.getD x1.2.2.2.2.2.1.toNat (0, 0, 0, 0, 0, ())).2.1.toNat ((0, 0, 0, 0, ()), 0, [], (false, [], ()), [], (false, [], ()), ())).2.2.2.2.2.1.2.1, ()), ()) x1.2.1) fun r14 =>
          chk (0 ≤ (x1.2.2.2.1.getD x1.2.2.2.2.2.1.toNat (0, 0, 0, 0, 0, ())).2.1 ∧ (x1.2.2.2.1.getD x1.2.2.2.2.2.1.toNat (0, 0, 0, 0, 0, ())).2.1 < (x1.2.2.2.2.2.2.length : Int)) <|
          letv (x1.2.2.2.2.2.2.set (x1.2.2.2.1.getD x1.2.2.2.2.2.1.toNat (0, 0, 0, 0, 0, ())).2.1.toNat r14.1) fun l13 =>
          k4 (x1.1, x1.2.1, x1.2.2.1, x1.2.2.2.2.2.1, r14.2.1, x1.2.2.2.1, x1.2.2.2.2.1, x1.2.2.2.2.2.1, l13)
    else
      bif x1.2.2.1 then
        bif v3 then
          k4 (x1.1, x1.2.1, x1.2.2.1, x1.2.2.2.2.2.1, 12, x1.2.2.2.1, x1.2.2.2.2.1, x1.2.2.2.2.2.1, x1.2.2.2.2.2.2)
        else
          bif decide ((x1.2.2.2.1.getD x1.2.2.2.2.2.1.toNat (0, 0, 0, 0, 0, ())).1 = 2) then
            Option.bind (channel_Send ((x1.2.2.2.2.2.2.getD (x1.2.2.2.1.getD x1.2.2.2.2.2.1.toNat (0, 0, 0, 0, 0, ())).2.1.toNat ((0, 0, 0, 0, ()), 0, [], (false, [], ()), [], (false, [], ()), ())).1, (x1.2.2.2.2.2.2.getD (x1.2.2.2.1.getD x1.2.2.2.2.2.1.toNat (0, 0, 0, 0, 0, ())).2.1.toNat ((0, 0, 0, 0, ()), 0, [], (false, [], ()), [], (false, [], ()), ())).2.1, (x1.2.2.2.2.2.2.getD (x1.2.2.2.1.getD x1.2.2.2.2.2.1.toNat (0, 0, 0, 0, 0, ())).2.1.toNat ((0, 0, 0, 0, ()), 0, [], (false, [], ()), [], (false, [], ()), ())).2.2.1, (x1.2.2.2.2.2.2.getD (x1.2.2.2.1.getD x1.2.2.2.2.2.1.toNat (0, 0, 0, 0, 0, ())).2.1.toNat ((0, 0, 0, 0, ()), 0, [], (false, [], ()), [], (false, [], ()), ())).2.2.2.1, (x1.2.2.2.2.2.2.getD (x1.2.2.2.1.getD x1.2.2.2.2.2.1.toNat (0, 0, 0, 0, 0, ())).2.1.toNat ((0, 0, 0, 0, ()), 0, [], (false, [], ()), [], (false, [], ()), ())).2.2.2.2.1, (v3, (x1.2.2.2.2.2.2.getD (x1.2.2.2.1.getD x1.2.2.2.2.2.1.toNat (0, 0, 0, 0, 0, ())).2.1.toNat ((0, 0, 0, 0, ()), 0, [], (false, [], ()), [], (false, [], ()), ())).2.2.2.2.2.1.2.1, ()), ()) x1.2.1 (x1.2.2.2.1.getD x1.2.2.2.2.2.1.toNat (0, 0, 0, 0, 0, ())).2.2.1) fun r15 =>
            chk (0 ≤ (x1.2.2.2.1.getD x1.2.2.2.2.2.1.toNat (0, 0, 0, 0, 0, ())).2.1 ∧ (x1.2.2.2.1.getD x1.2.2.2.2.2.1.toNat (0, 0, 0, 0, 0, ())).2.1 < (x1.2.2.2.2.2.2.length : Int)) <|
            letv (x1.2.2.2.2.2.2.set (x1.2.2.2.1.getD x1.2.2.2.2.2.1.toNat (0, 0, 0, 0, 0, ())).2.1.toNat r15.1) fun l14 =>
            k4 (x1.1, x1.2.1, x1.2.2.1, x1.2.2.2.2.2.1, r15.2.1, x1.2.2.2.1, x1.2.2.2.2.1, x1.2.2.2.2.2.1, l14)
          else
            Option.bind (channel_Recv ((x1.2.2.2.2.2.2.getD (x1.2.2.2.1.getD x1.2.2.2.2.2.1.toNat (0, 0, 0, 0, 0, ())).2.1.toNat ((0, 0, 0, 0, ()), 0, [], (false, [], ()), [], (false, [], ()), ())).1, (x1.2.2.2.2.2.2.getD (x1.2.2.2.1.getD x1.2.2.2.2.2.1.toNat (0, 0, 0, 0, 0, ())).2.1.toNat ((0, 0, 0, 0, ()), 0, [], (false, [], ()), [], (false, [], ()), ())).2.1, (x1.2.2.2.2.2.2.getD (x1.2.2.2.1.getD x1.2.2.2.2.2.1.toNat (0, 0, 0, 0, 0, ())).2.1.toNat ((0, 0, 0, 0, ()), 0, [], (false, [], ()), [], (false, [], ()), ())).2.2.1, (x1.2.2.2.2.2.2.getD (x1.2.2.2.1.getD x1.2.2.2.2.2.1.toNat (0, 0, 0, 0, 0, ())).2.1.toNat ((0, 0, 0, 0, ()), 0, [], (false, [], ()), [], (false, [], ()), ())).2.2.2.1, (x1.2.2.2.2.2.2.getD (x1.2.2.2.1.getD x1.2.2.2.2.2.1.toNat (0, 0, 0, 0, 0, ())).2.1.toNat ((0, 0, 0, 0, ()), 0, [], (false, [], ()), [], (false, [], ()), ())).2.2.2.2.1, (v3, (x1.2.2.2.2.2.2.getD (x1.2.2.2.1.getD x1.2.2.2.2.2.1.toNat (0, 0, 0, 0, 0, ())).2.1.toNat ((0, 0, 0, 0, ()), 0, [], (false, [], ()), [], (false, [], ()), ())).2.2.2.2.2.1.2.1, ()), ()) x1.2.1) fun r16 =>
            chk (0 ≤ (x1.2.2.2.1.getD x1.2.2.2.2.2.1.toNat (0, 0, 0, 0, 0, ())).2.1 ∧ (x1.2.2.2.1.getD x1.2.2.2.2.2.1.toNat (0, 0, 0, 0, 0, ())).2.1 < (x1.2.2.2.2.2.2.length : Int)) <|
            letv (x1.2.2.2.2.2.2.set (x1.2.2.2.1.getD x1.2.2.2.2.2.1.toNat (0, 0, 0, 0, 0, ())).2.1.toNat r16.1) fun l15 =>
            k4 (x1.1, x1.2.1, x1.2.2.1, x1.2.2.2.2.2.1, r16.2.1, x1.2.2.2.1, x1.2.2.2.2.1, x1.2.2.2.2.2.1, l15)
      else
        bif decide ((x1.2.2.2.1.getD x1.2.2.2.2.2.1.toNat (0, 0, 0, 0, 0, ())).1 = 2) then
          Option.bind (channel_Send ((x1.2.2.2.2.2.2.getD (x1.2.2.2.1.getD x1.2.2.2.2.2.1.toNat (0, 0, 0, 0, 0, ())).2.1.toNat ((0, 0, 0, 0, ()), 0, [], (false, [], ()), [], (false, [], ()), ())).1, (x1.2.2.2.2.2.2.getD (x1.2.2.2.1.getD x1.2.2.2.2.2.1.toNat (0, 0, 0, 0, 0, ())).2.1.toNat ((0, 0, 0, 0, ()), 0, [], (false, [], ()), [], (false, [], ()), ())).2.1, (x1.2.2.2.2.2.2.getD (x1.2.2.2.1.getD x1.2.2.2.2.2.1.toNat (0, 0, 0, 0, 0, ())).2.1.toNat ((0, 0, 0, 0, ()), 0, [], (false, [], ()), [], (false, [], ()), ())).2.2.1, (x1.2.2.2.2.2.2.getD (x1.2.2.2.1.getD x1.2.2.2.2.2.1.toNat (0, 0, 0, 0, 0, ())).2.1.toNat ((0, 0, 0, 0, ()), 0, [], (false, [], ()), [], (false, [], ()), ())).2.2.2.1, (x1.2.2.2.2.2.2.getD (x1.2.2.2.1.getD x1.2.2.2.2.2.1.toNat (0, 0, 0, 0, 0, ())).2.1.toNat ((0, 0, 0, 0, ()), 0, [], (false, [], ()), [], (false, [], ()), ())).2.2.2.2.1, (v3, (x1.2.2.2.2.2.2.getD (x1.2.2.2.1.getD x1.2.2.2.2.2.1.toNat (0, 0, 0, 0, 0, ())).2.1.toNat ((0, 0, 0, 0, ()), 0, [], (false, [], ()), [], (false, [], ()), ())).2.2.2.2.2.1.2.1, ()), ()) x1.2.1 (x1.2.2.2.1.getD x1.2.2.2.2.2.1.toNat (0, 0, 0, 0, 0, ())).2.2.1) fun r17 =>
          chk (0 ≤ (x1.2.2.2.1.getD x1.2.2.2.2.2.1.toNat (0, 0, 0, 0, 0, ())).2.1 ∧ (x1.2.2.2.1.getD x1.2.2.2.2.2.1.toNat (0, 0, 0, 0, 0, ())).2.1 < (x1.2.2.2.2.2.2.length : Int)) <|
          letv (x1.2.2.2.2.2.2.set (x1.2.2.2.1.getD x1.2.2.2.2.2.1.toNat (0, 0, 0, 0, 0, ())).2.1.toNat r17.1) fun l16 =>
          k4 (x1.1, x1.2.1, x1.2.2.1, x1.2.2.2.2.2.1, r17.2.1, x1.2.2.2.1, x1.2.2.2.2.1, x1.2.2.2.2.2.1, l16)
        else
          Option.bind (channel_Recv ((x1.2.2.2.2.2.2.getD (x1.2.2.2.1.getD x1.2.2.2.2.2.1.toNat (0, 0, 0, 0, 0, ())).2.1.toNat ((0, 0, 0, 0, ()), 0, [], (false, [], ()), [], (false, [], ()), ())).1, (x1.2.2.2.2.2.2.getD (x1.2.2.2.1.getD x1.2.2.2.2.2.1.toNat (0, 0, 0, 0, 0, ())).2.1.toNat ((0, 0, 0, 0, ()), 0, [], (false, [], ()), [], (false, [], ()), ())).2.1, (x1.2.2.2.2.2.2.getD (x1.2.2.2.1.getD x1.2.2.2.2.2.1.toNat (0, 0, 0, 0, 0, ())).2.1.toNat ((0, 0, 0, 0, ()), 0, [], (false, [], ()), [], (false, [], ()), ())).2.2.1, (x1.2.2.2.2.2.2.getD (x1.2.2.2.1.getD x1.2.2.2.2.2.1.toNat (0, 0, 0, 0, 0, ())).2.1.toNat ((0, 0, 0, 0, ()), 0, [], (false, [], ()), [], (false, [], ()), ())).2.2.2.1, (x1.2.2.2.2.2.2.getD (x1.2.2.2.1.getD x1.2.2.2.2.2.1.toNat (0, 0, 0, 0, 0, ())).2.1.toNat ((0, 0, 0, 0, ()), 0, [], (false, [], ()), [], (false, [], ()), ())).2.2.2.2.1, (v3, (x1.2.2.2.2.2.2.getD (x1.2.2.2.1.getD x1.2.2.2.2.2.1.toNat (0, 0, 0, 0, 0, ())).2.1.toNat ((0, 0, 0, 0, ()), 0, [], (false, [], ()), [], (false, [], ()), ())).2.2.2.2.2.1.2.1, ()), ()) x1.2.1) fun r18 =>
          chk (0 ≤ (x1.2.2.2.1.getD x1.2.2.2.2.2.1.toNat (0, 0, 0, 0, 0, ())).2.1 ∧ (x1.2.2.2.1.getD x1.2.2.2.2.2.1.toNat (0, 0, 0, 0, 0, ())).2.1 < (x1.2.2.2.2.2.2.length : Int)) <|
          letv (x1.2.2.2.2.2.2.set (x1.2.2.2.1.getD x1.2.2.2.2.2.1.toNat (0, 0, 0, 0, 0, ())).2.1.toNat r18.1) fun l17 =>
          k4 (x1.1, x1.2.1, x1.2.2.1, x1.2.2.2.2.2.1, r18.2.1, x1.2.2.2.1, x1.2.2.2.2.1, x1.2.2.2.2.2.1, l17)
def chantab_Offer_R2 (k2 : ((List ((Int × Int × Int × Int × Unit) × Int × (List Int) × (Bool × (List Int) × Unit) × (List Int) × (Bool × (List Int) × Unit) × Unit)) × Int × Bool × (List (Int × Int × Int × Int × Int × Unit)) × Int × Int × (List ((Int × Int × Int × Int × Unit) × Int × (List Int) × (Bool × (List Int) × Unit) × (List Int) × (Bool × (List Int) × Unit) × Unit))) → Option ((List ((Int × Int × Int × Int × Unit) × Int × (List Int) × (Bool × (List Int) × Unit) × (List Int) × (Bool × (List Int) × Unit) × Unit)) × Int × Int × Unit)) (x4 : (List ((Int × Int × Int × Int × Unit) × Int × (List Int) × (Bool × (List Int) × Unit) × (List Int) × (Bool × (List Int) × Unit) × Unit)) × Int × Bool × Int × Int × (List (Int × Int × Int × Int × Int × Unit)) × Int × Int × (List ((Int × Int × Int × Int × Unit) × Int × (List Int) × (Bool × (List Int) × Unit) × (List Int) × (Bool × (List Int) × Unit) × Unit))) : Option ((List ((Int × Int × Int × Int × Unit) × Int × (List Int) × (Bool × (List Int) × Unit) × (List Int) × (Bool × (List Int) × Unit) × Unit)) × Int × Int × Unit) :=
  bif !decide (x4.2.2.2.2.1 = 0) then
    some (x4.1, x4.2.2.2.1, x4.2.2.2.2.1, ())
  else
    k2 (x4.1, x4.2.1, x4.2.2.1, x4.2.2.2.2.2.1, x4.2.2.2.2.2.2.1, x4.2.2.2.2.2.2.2.1, x4.2.2.2.2.2.2.2.2)
def chantab_Offer_C3 (x1 : (List ((Int × Int × Int × Int × Unit) × Int × (List Int) × (Bool × (List Int) × Unit) × (List Int) × (Bool × (List Int) × Unit) × Unit)) × Int × Bool × (List (Int × Int × Int × Int × Int × Unit)) × Int × Int × (List ((Int × Int × Int × Int × Unit) × Int × (List Int) × (Bool × (List Int) × Unit) × (List Int) × (Bool × (List Int) × Unit) × Unit))) (k2 : ((List ((Int × Int × Int × Int × Unit) × Int × (List Int) × (Bool × (List Int) × Unit) × (List Int) × (Bool × (List Int) × Unit) × Unit)) × Int × Bool × (List (Int × Int × Int × Int × Int × Unit)) × Int × Int × (List ((Int × Int × Int × Int × Unit) × Int × (List Int) × (Bool × (List Int) × Unit) × (List Int) × (Bool × (List Int) × Unit) × Unit))) → Option ((List ((Int × Int × Int × Int × Unit) × Int × (List Int) × (Bool × (List Int) × Unit) × (List Int) × (Bool × (List Int) × Unit) × Unit)) × Int × Int × Unit)) : Option ((List ((Int × Int × Int × Int × Unit) × Int × (List Int) × (Bool × (List Int) × Unit) × (List Int) × (Bool × (List Int) × Unit) × Unit)) × Int × Int × Unit) :=
  chk (0 ≤ x1.2.2.2.2.2.1 ∧ x1.2.2.2.2.2.1 < (x1.2.2.2.1.length : Int)) <|
  bif !decide ((x1.2.2.2.1.getD x1.2.2.2.2.2.1.toNat (0, 0, 0, 0, 0, ())).1 = 1) then
    bif !decide ((x1.2.2.2.1.getD x1.2.2.2.2.2.1.toNat (0, 0, 0, 0, 0, ())).1 = 2) then
      k2 (x1.1, x1.2.1, x1.2.2.1, x1.2.2.2.1, x1.2.2.2.2.1, x1.2.2.2.2.2.1, x1.2.2.2.2.2.2)
    else
      cutv 1 (chantab_Offer_C1 x1) (chantab_Offer_R1 k2)
  else
    cutv 2 (chantab_Offer_C2 x1) (chantab_Offer_R2 k2)
def chantab_Offer_R3 (k1 : ((List ((Int × Int × Int × Int × Unit) × Int × (List Int) × (Bool × (List Int) × Unit) × (List Int) × (Bool × (List Int) × Unit) × Unit)) × Int × Bool × (List (Int × Int × Int × Int × Int × Unit)) × Int × Int × (List ((Int × Int × Int × Int × Unit) × Int × (List Int) × (Bool × (List Int) × Unit) × (List Int) × (Bool × (List Int) × Unit) × Unit))) → Option ((List ((Int × Int × Int × Int × Unit) × Int × (List Int) × (Bool × (List Int) × Unit) × (List Int) × (Bool × (List Int) × Unit) × Unit)) × Int × Int × Unit)) (x2 : (List ((Int × Int × Int × Int × Unit) × Int × (List Int) × (Bool × (List Int) × Unit) × (List Int) × (Bool × (List Int) × Unit) × Unit)) × Int × Bool × (List (Int × Int × Int × Int × Int × Unit)) × Int × Int × (List ((Int × Int × Int × Int × Unit) × Int × (List Int) × (Bool × (List Int) × Unit) × (List Int) × (Bool × (List Int) × Unit) × Unit))) : Option ((List ((Int × Int × Int × Int × Unit) × Int × (List Int) × (Bool × (List Int) × Unit) × (List Int) × (Bool × (List Int) × Unit) × Unit)) × Int × Int × Unit) :=
  k1 (x2.1, x2.2.1, x2.2.2.1, x2.2.2.2.1, x2.2.2.2.2.1, IntKind.i64.wrap (x2.2.2.2.2.2.1 + 1), x2.2.2.2.2.2.2)
def chantab_Offer_L1 (k1 : ((List ((Int × Int × Int × Int × Unit) × Int × (List Int) × (Bool × (List Int) × Unit) × (List Int) × (Bool × (List Int) × Unit) × Unit)) × Int × Bool × (List (Int × Int × Int × Int × Int × Unit)) × Int × Int × (List ((Int × Int × Int × Int × Unit) × Int × (List Int) × (Bool × (List Int) × Unit) × (List Int) × (Bool × (List Int) × Unit) × Unit))) → Option ((List ((Int × Int × Int × Int × Unit) × Int × (List Int) × (Bool × (List Int) × Unit) × (List Int) × (Bool × (List Int) × Unit) × Unit)) × Int × Int × Unit)) (x1 : (List ((Int × Int × Int × Int × Unit) × Int × (List Int) × (Bool × (List Int) × Unit) × (List Int) × (Bool × (List Int) × Unit) × Unit)) × Int × Bool × (List (Int × Int × Int × Int × Int × Unit)) × Int × Int × (List ((Int × Int × Int × Int × Unit) × Int × (List Int) × (Bool × (List Int) × Unit) × (List Int) × (Bool × (List Int) × Unit) × Unit))) : Option ((List ((Int × Int × Int × Int × Unit) × Int × (List Int) × (Bool × (List Int) × Unit) × (List Int) × (Bool × (List Int) × Unit) × Unit)) × Int × Int × Unit) :=
  bif decide (x1.2.2.2.2.2.1 < x1.2.2.2.2.1) then
    cutv 3 (chantab_Offer_C3 x1) (chantab_Offer_R3 k1)
  else
    chantab_Offer_J1 x1.2.2.2.2.2.2
def chantab_Offer (a0 : List ((Int × Int × Int × Int × Unit) × Int × (List Int) × (Bool × (List Int) × Unit) × (List Int) × (Bool × (List Int) × Unit) × Unit)) (a1 : Int) (a2 : List (Int × Int × Int × Int × Int × Unit)) (a3 : Bool) : Option ((List ((Int × Int × Int × Int × Unit) × Int × (List Int) × (Bool × (List Int) × Unit) × (List Int) × (Bool × (List Int) × Unit) × Unit)) × Int × Int × Unit) :=
  chk ((a0.length : Int) = (a0.length : Int) ∧ 0 ≤ (a0.length : Int) ∧ (a0.length : Int) ≤ 4294967296) <|
  letv (List.replicate (a0.length : Int).toNat ((0, 0, 0, 0, ()), 0, [], (false, [], ()), [], (false, [], ()), ())) fun l1 =>
  loop chantab_Offer_L1 (a0, a1, a3, a2, (a2.length : Int), 0, a0.take l1.length ++ l1.drop a0.length)
def chantab_Leave_J1 (p1 : List ((Int × Int × Int × Int × Unit) × Int × (List Int) × (Bool × (List Int) × Unit) × (List Int) × (Bool × (List Int) × Unit) × Unit)) : Option (List ((Int × Int × Int × Int × Unit) × Int × (List Int) × (Bool × (List Int) × Unit) × (List Int) × (Bool × (List Int) × Unit) × Unit)) :=
  some p1
def chantab_Leave_L1 (p2 : Int) (a1 : Int) (k1 : (Int × (List ((Int × Int × Int × Int × Unit) × Int × (List Int) × (Bool × (List Int) × Unit) × (List Int) × (Bool × (List Int) × Unit) × Unit))) → Option (List ((Int × Int × Int × Int × Unit) × Int × (List Int) × (Bool × (List Int) × Unit) × (List Int) × (Bool × (List Int) × Unit) × Unit))) (x1 : Int × (List ((Int × Int × Int × Int × Unit) × Int × (List Int) × (Bool × (List Int) × Unit) × (List Int) × (Bool × (List Int) × Unit) × Unit))) : Option (List ((Int × Int × Int × Int × Unit) × Int × (List Int) × (Bool × (List Int) × Unit) × (List Int) × (Bool × (List Int) × Unit) × Unit)) :=
  bif decide (x1.1 < p2) then
    chk (0 ≤ x1.1 ∧ x1.1 < (x1.2.length : Int)) <|
    Option.bind (channel_Leave (x1.2.getD x1.1.toNat ((0, 0, 0, 0, ()), 0, [], (false, [], ()), [], (false, [], ()), ())) a1) fun r1 =>
    chk (0 ≤ x1.1 ∧ x1.1 < (x1.2.length : Int)) <|
    k1 (IntKind.i64.wrap (x1.1 + 1), x1.2.set x1.1.toNat r1)
  else
    chantab_Leave_J1 x1.2
def chantab_Leave (a0 : List ((Int × Int × Int × Int × Unit) × Int × (List Int) × (Bool × (List Int) × Unit) × (List Int) × (Bool × (List Int) × Unit) × Unit)) (a1 : Int) : Option (List ((Int × Int × Int × Int × Unit) × Int × (List Int) × (Bool × (List Int) × Unit) × (List Int) × (Bool × (List Int) × Unit) × Unit)) :=
  chk ((a0.length : Int) = (a0.length : Int) ∧ 0 ≤ (a0.length : Int) ∧ (a0.length : Int) ≤ 4294967296) <|
  letv (List.replicate (a0.length : Int).toNat ((0, 0, 0, 0, ()), 0, [], (false, [], ()), [], (false, [], ()), ())) fun l1 =>
  loop (chantab_Leave_L1 ((a0.take l1.length ++ l1.drop a0.length).length : Int) a1) (0, a0.take l1.length ++ l1.drop a0.length)
def chantab_Do (a0 : List ((Int × Int × Int × Int × Unit) × Int × (List Int) × (Bool × (List Int) × Unit) × (List Int) × (Bool × (List Int) × Unit) × Unit)) (a1 : Int × Int × Unit) : Option ((List ((Int × Int × Int × Int × Unit) × Int × (List Int) × (Bool × (List Int) × Unit) × (List Int) × (Bool × (List Int) × Unit) × Unit)) × (Int × Int × Int × Unit) × Int × Unit) :=
  Option.bind (chantab_is a0 a1.1) fun r1 =>
  bif !r1 then
    some (a0, (0, 0, 0, ()), 8, ())
  else
    chk (0 ≤ a1.1 ∧ a1.1 < (a0.length : Int)) <|
    Option.bind (channel_Do (a0.getD a1.1.toNat ((0, 0, 0, 0, ()), 0, [], (false, [], ()), [], (false, [], ()), ())) a1.2.1) fun r2 =>
    bif !decide (r2.2.2.1 = 0) then
      some (a0, r2.2.1, r2.2.2.1, ())
    else
      chk ((a0.length : Int) = (a0.length : Int) ∧ 0 ≤ (a0.length : Int) ∧ (a0.length : Int) ≤ 4294967296) <|
      letv (List.replicate (a0.length : Int).toNat ((0, 0, 0, 0, ()), 0, [], (false, [], ()), [], (false, [], ()), ())) fun l1 =>
      chk (0 ≤ a1.1 ∧ a1.1 < ((a0.take l1.length ++ l1.drop a0.length).length : Int)) <|
      letv ((a0.take l1.length ++ l1.drop a0.length).set a1.1.toNat r2.1) fun l2 =>
      some (l2, r2.2.1, 0, ())
def chantab_Poison (a0 : List ((Int × Int × Int × Int × Unit) × Int × (List Int) × (Bool × (List Int) × Unit) × (List Int) × (Bool × (List Int) × Unit) × Unit)) (a1 : Int) (a2 : Int) : Option ((List ((Int × Int × Int × Int × Unit) × Int × (List Int) × (Bool × (List Int) × Unit) × (List Int) × (Bool × (List Int) × Unit) × Unit)) × Int × Unit) :=
  Option.bind (chantab_is a0 a1) fun r1 =>
  bif !r1 then
    some (a0, 8, ())
  else
    chk (0 ≤ a1 ∧ a1 < (a0.length : Int)) <|
    Option.bind (channel_Poison (a0.getD a1.toNat ((0, 0, 0, 0, ()), 0, [], (false, [], ()), [], (false, [], ()), ())) a2) fun r2 =>
    bif !decide (r2.2.1 = 0) then
      some (a0, r2.2.1, ())
    else
      chk ((a0.length : Int) = (a0.length : Int) ∧ 0 ≤ (a0.length : Int) ∧ (a0.length : Int) ≤ 4294967296) <|
      letv (List.replicate (a0.length : Int).toNat ((0, 0, 0, 0, ()), 0, [], (false, [], ()), [], (false, [], ()), ())) fun l1 =>
      chk (0 ≤ a1 ∧ a1 < ((a0.take l1.length ++ l1.drop a0.length).length : Int)) <|
      letv ((a0.take l1.length ++ l1.drop a0.length).set a1.toNat r2.1) fun l2 =>
      some (l2, 0, ())
end Go.Proofs.YtbkccpddkpclaaaV
