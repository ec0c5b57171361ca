import Derived.Test.YtkpobmmabmelfaaDoorVcG1
import Derived.Test.YtkpobmmabmelfaaDoorDbarrier
namespace Go.Proofs.YtkpobmmabmelfaaDoorV
set_option linter.unusedVariables false
def bartab_Offer_C1 (p1 : List ((Bool × Int × Unit) × ((List Int) × (List Int) × Unit) × Int × Unit)) (k1 : ((List ((Bool × Int × Unit) × ((List Int) × (List Int) × Unit) × Int × Unit))) → Option ((List ((Bool × Int × Unit) × ((List Int) × (List Int) × Unit) × Int × Unit)) × Int × Int × Unit)) : Option ((List ((Bool × Int × Unit) × ((List Int) × (List Int) × Unit) × Int × Unit)) × Int × Int × Unit) :=
  chk ((p1.length : Int) = (p1.length : Int) ∧ 0 ≤ (p1.length : Int) ∧ (p1.length : Int) ≤ 4294967296) <|
  letv (List.replicate (p1.length : Int).toNat ((false, 0, ()), ((List.replicate 4 0), (List.replicate 4 0), ()), 0, ())) fun l1 =>
  k1 (p1.take l1.length ++ l1.drop p1.length)
def bartab_Offer_R1 (x1 : (List ((Bool × Int × Unit) × ((List Int) × (List Int) × Unit) × Int × Unit))) : Option ((List ((Bool × Int × Unit) × ((List Int) × (List Int) × Unit) × Int × Unit)) × Int × Int × Unit) :=
  some (x1, 0, 0, ())
def bartab_Offer_J1 (p1 : List ((Bool × Int × Unit) × ((List Int) × (List Int) × Unit) × Int × Unit)) : Option ((List ((Bool × Int × Unit) × ((List Int) × (List Int) × Unit) × Int × Unit)) × Int × Int × Unit) :=
  cutv 1 (bartab_Offer_C1 p1) bartab_Offer_R1
def bartab_Offer_L1 (p2 : Int) (a2 : List (Int × Int × Int × Int × Int × Unit)) (a0 : List ((Bool × Int × Unit) × ((List Int) × (List Int) × Unit) × Int × Unit)) (a1 : Int) (a3 : Bool) (k2 : ((List ((Bool × Int × Unit) × ((List Int) × (List Int) × Unit) × Int × Unit)) × Int) → Option ((List ((Bool × Int × Unit) × ((List Int) × (List Int) × Unit) × Int × Unit)) × Int × Int × Unit)) (x2 : (List ((Bool × Int × Unit) × ((List Int) × (List Int) × Unit) × Int × Unit)) × Int) : Option ((List ((Bool × Int × Unit) × ((List Int) × (List Int) × Unit) × Int × Unit)) × Int × Int × Unit) :=
  bif decide (x2.2 < p2) then
    chk (0 ≤ x2.2 ∧ x2.2 < (a2.length : Int)) <|
    bif !decide ((a2.getD x2.2.toNat (0, 0, 0, 0, 0, ())).1 = 3) then
      k2 (x2.1, IntKind.i64.wrap (x2.2 + 1))
    else
      bif decide ((a2.getD x2.2.toNat (0, 0, 0, 0, 0, ())).2.1 < 0) then
        some (a0, x2.2, 8, ())
      else
        bif decide ((a2.getD x2.2.toNat (0, 0, 0, 0, 0, ())).2.1 ≥ (x2.1.length : Int)) then
          some (a0, x2.2, 8, ())
        else
          chk (0 ≤ (a2.getD x2.2.toNat (0, 0, 0, 0, 0, ())).2.1 ∧ (a2.getD x2.2.toNat (0, 0, 0, 0, 0, ())).2.1 < (x2.1.length : Int)) <|
          Option.bind (barrier_Offer (x2.1.getD (a2.getD x2.2.toNat (0, 0, 0, 0, 0, ())).2.1.toNat ((false, 0, ()), ((List.replicate 4 0), (List.replicate 4 0), ()), 0, ())) a1 a3) fun r1 =>
          bif !decide (r1.2.1 = 0) then
            bif !decide (r1.2.1 = 0) then
              some (a0, x2.2, r1.2.1, ())
            else
              k2 (x2.1, IntKind.i64.wrap (x2.2 + 1))
          else
            chk ((x2.1.length : Int) = (x2.1.length : Int) ∧ 0 ≤ (x2.1.length : Int) ∧ (x2.1.length : Int) ≤ 4294967296) <|
            letv (List.replicate (x2.1.length : Int).toNat ((false, 0, ()), ((List.replicate 4 0), (List.replicate 4 0), ()), 0, ())) fun l2 =>
            letv (x2.1.take l2.length ++ l2.drop x2.1.length) fun l3 =>
            chk (0 ≤ (a2.getD x2.2.toNat (0, 0, 0, 0, 0, ())).2.1 ∧ (a2.getD x2.2.toNat (0, 0, 0, 0, 0, ())).2.1 < (l3.length : Int)) <|
            letv (l3.set (a2.getD x2.2.toNat (0, 0, 0, 0, 0, ())).2.1.toNat r1.1) fun l4 =>
            k2 (l4, IntKind.i64.wrap (x2.2 + 1))
  else
    bartab_Offer_J1 x2.1
def bartab_Offer (a0 : List ((Bool × Int × Unit) × ((List Int) × (List Int) × Unit) × Int × Unit)) (a1 : Int) (a2 : List (Int × Int × Int × Int × Int × Unit)) (a3 : Bool) : Option ((List ((Bool × Int × Unit) × ((List Int) × (List Int) × Unit) × Int × Unit)) × Int × Int × Unit) :=
  loop (bartab_Offer_L1 (a2.length : Int) a2 a0 a1 a3) (a0, 0)
def bartab_Leave_C1 (a0 : List ((Bool × Int × Unit) × ((List Int) × (List Int) × Unit) × Int × Unit)) (a1 : Int) (k1 : (Int × (List ((Bool × Int × Unit) × ((List Int) × (List Int) × Unit) × Int × Unit))) → Option (List ((Bool × Int × Unit) × ((List Int) × (List Int) × Unit) × Int × Unit))) : Option (List ((Bool × Int × Unit) × ((List Int) × (List Int) × Unit) × Int × Unit)) :=
  chk ((a0.length : Int) = (a0.length : Int) ∧ 0 ≤ (a0.length : Int) ∧ (a0.length : Int) ≤ 4294967296) <|
  letv (List.replicate (a0.length : Int).toNat ((false, 0, ()), ((List.replicate 4 0), (List.replicate 4 0), ()), 0, ())) fun l1 =>
  k1 (a1, a0.take l1.length ++ l1.drop a0.length)
def bartab_Leave_J1 (p1 : List ((Bool × Int × Unit) × ((List Int) × (List Int) × Unit) × Int × Unit)) : Option (List ((Bool × Int × Unit) × ((List Int) × (List Int) × Unit) × Int × Unit)) :=
  some p1
def bartab_Leave_L1 (p2 : Int) (x1 : Int × (List ((Bool × Int × Unit) × ((List Int) × (List Int) × Unit) × Int × Unit))) (k2 : (Int × (List ((Bool × Int × Unit) × ((List Int) × (List Int) × Unit) × Int × Unit))) → Option (List ((Bool × Int × Unit) × ((List Int) × (List Int) × Unit) × Int × Unit))) (x2 : Int × (List ((Bool × Int × Unit) × ((List Int) × (List Int) × Unit) × Int × Unit))) : Option (List ((Bool × Int × Unit) × ((List Int) × (List Int) × Unit) × Int × Unit)) :=
  bif decide (x2.1 < p2) then
    chk (0 ≤ x2.1 ∧ x2.1 < (x2.2.length : Int)) <|
    Option.bind (barrier_Withdraw (x2.2.getD x2.1.toNat ((false, 0, ()), ((List.replicate 4 0), (List.replicate 4 0), ()), 0, ())) x1.1) fun r1 =>
    chk (0 ≤ x2.1 ∧ x2.1 < (x2.2.length : Int)) <|
    k2 (IntKind.i64.wrap (x2.1 + 1), x2.2.set x2.1.toNat r1)
  else
    bartab_Leave_J1 x2.2
def bartab_Leave_R1 (x1 : Int × (List ((Bool × Int × Unit) × ((List Int) × (List Int) × Unit) × Int × Unit))) : Option (List ((Bool × Int × Unit) × ((List Int) × (List Int) × Unit) × Int × Unit)) :=
  loop (bartab_Leave_L1 (x1.2.length : Int) x1) (0, x1.2)
def bartab_Leave (a0 : List ((Bool × Int × Unit) × ((List Int) × (List Int) × Unit) × Int × Unit)) (a1 : Int) : Option (List ((Bool × Int × Unit) × ((List Int) × (List Int) × Unit) × Int × Unit)) :=
  cutv 1 (bartab_Leave_C1 a0 a1) bartab_Leave_R1
def bartab_Quit_C1 (a0 : List ((Bool × Int × Unit) × ((List Int) × (List Int) × Unit) × Int × Unit)) (a1 : Int) (k1 : (Int × (List ((Bool × Int × Unit) × ((List Int) × (List Int) × Unit) × Int × Unit))) → Option (List ((Bool × Int × Unit) × ((List Int) × (List Int) × Unit) × Int × Unit))) : Option (List ((Bool × Int × Unit) × ((List Int) × (List Int) × Unit) × Int × Unit)) :=
  chk ((a0.length : Int) = (a0.length : Int) ∧ 0 ≤ (a0.length : Int) ∧ (a0.length : Int) ≤ 4294967296) <|
  letv (List.replicate (a0.length : Int).toNat ((false, 0, ()), ((List.replicate 4 0), (List.replicate 4 0), ()), 0, ())) fun l1 =>
  k1 (a1, a0.take l1.length ++ l1.drop a0.length)
def bartab_Quit_J1 (p1 : List ((Bool × Int × Unit) × ((List Int) × (List Int) × Unit) × Int × Unit)) : Option (List ((Bool × Int × Unit) × ((List Int) × (List Int) × Unit) × Int × Unit)) :=
  some p1
def bartab_Quit_L1 (p2 : Int) (x1 : Int × (List ((Bool × Int × Unit) × ((List Int) × (List Int) × Unit) × Int × Unit))) (k2 : (Int × (List ((Bool × Int × Unit) × ((List Int) × (List Int) × Unit) × Int × Unit))) → Option (List ((Bool × Int × Unit) × ((List Int) × (List Int) × Unit) × Int × Unit))) (x2 : Int × (List ((Bool × Int × Unit) × ((List Int) × (List Int) × Unit) × Int × Unit))) : Option (List ((Bool × Int × Unit) × ((List Int) × (List Int) × Unit) × Int × Unit)) :=
  bif decide (x2.1 < p2) then
    chk (0 ≤ x2.1 ∧ x2.1 < (x2.2.length : Int)) <|
    Option.bind (barrier_Resign (x2.2.getD x2.1.toNat ((false, 0, ()), ((List.replicate 4 0), (List.replicate 4 0), ()), 0, ())) x1.1) fun r1 =>
    bif decide (r1.2.1 = 0) then
      chk (0 ≤ x2.1 ∧ x2.1 < (x2.2.length : Int)) <|
      k2 (IntKind.i64.wrap (x2.1 + 1), x2.2.set x2.1.toNat r1.1)
    else
      k2 (IntKind.i64.wrap (x2.1 + 1), x2.2)
  else
    bartab_Quit_J1 x2.2
def bartab_Quit_R1 (x1 : Int × (List ((Bool × Int × Unit) × ((List Int) × (List Int) × Unit) × Int × Unit))) : Option (List ((Bool × Int × Unit) × ((List Int) × (List Int) × Unit) × Int × Unit)) :=
  loop (bartab_Quit_L1 (x1.2.length : Int) x1) (0, x1.2)
def bartab_Quit (a0 : List ((Bool × Int × Unit) × ((List Int) × (List Int) × Unit) × Int × Unit)) (a1 : Int) : Option (List ((Bool × Int × Unit) × ((List Int) × (List Int) × Unit) × Int × Unit)) :=
  cutv 1 (bartab_Quit_C1 a0 a1) bartab_Quit_R1
def bartab_Enrol (a0 : List ((Bool × Int × Unit) × ((List Int) × (List Int) × Unit) × Int × Unit)) (a1 : Int) (a2 : Int) : Option ((List ((Bool × Int × Unit) × ((List Int) × (List Int) × Unit) × Int × Unit)) × Int × Unit) :=
  bif decide (a1 < 0) then
    some (a0, 8, ())
  else
    bif decide (a1 ≥ (a0.length : Int)) then
      some (a0, 8, ())
    else
      chk (0 ≤ a1 ∧ a1 < (a0.length : Int)) <|
      Option.bind (barrier_Enrol (a0.getD a1.toNat ((false, 0, ()), ((List.replicate 4 0), (List.replicate 4 0), ()), 0, ())) a2) fun r1 =>
      bif !decide (r1.2.1 = 0) then
        some (a0, r1.2.1, ())
      else
        chk ((a0.length : Int) = (a0.length : Int) ∧ 0 ≤ (a0.length : Int) ∧ (a0.length : Int) ≤ 4294967296) <|
        letv (List.replicate (a0.length : Int).toNat ((false, 0, ()), ((List.replicate 4 0), (List.replicate 4 0), ()), 0, ())) fun l1 =>
        chk (0 ≤ a1 ∧ a1 < ((a0.take l1.length ++ l1.drop a0.length).length : Int)) <|
        letv ((a0.take l1.length ++ l1.drop a0.length).set a1.toNat r1.1) fun l2 =>
        some (l2, 0, ())
def bartab_Resign (a0 : List ((Bool × Int × Unit) × ((List Int) × (List Int) × Unit) × Int × Unit)) (a1 : Int) (a2 : Int) : Option ((List ((Bool × Int × Unit) × ((List Int) × (List Int) × Unit) × Int × Unit)) × Int × Unit) :=
  bif decide (a1 < 0) then
    some (a0, 8, ())
  else
    bif decide (a1 ≥ (a0.length : Int)) then
      some (a0, 8, ())
    else
      chk (0 ≤ a1 ∧ a1 < (a0.length : Int)) <|
      Option.bind (barrier_Resign (a0.getD a1.toNat ((false, 0, ()), ((List.replicate 4 0), (List.replicate 4 0), ()), 0, ())) a2) fun r1 =>
      bif !decide (r1.2.1 = 0) then
        some (a0, r1.2.1, ())
      else
        chk ((a0.length : Int) = (a0.length : Int) ∧ 0 ≤ (a0.length : Int) ∧ (a0.length : Int) ≤ 4294967296) <|
        letv (List.replicate (a0.length : Int).toNat ((false, 0, ()), ((List.replicate 4 0), (List.replicate 4 0), ()), 0, ())) fun l1 =>
        chk (0 ≤ a1 ∧ a1 < ((a0.take l1.length ++ l1.drop a0.length).length : Int)) <|
        letv ((a0.take l1.length ++ l1.drop a0.length).set a1.toNat r1.1) fun l2 =>
        some (l2, 0, ())
def bartab_Fire (a0 : List ((Bool × Int × Unit) × ((List Int) × (List Int) × Unit) × Int × Unit)) (a1 : Int) : Option ((List ((Bool × Int × Unit) × ((List Int) × (List Int) × Unit) × Int × Unit)) × (List Int) × Int × Unit) :=
  bif decide (a1 < 0) then
    some (a0, [], 8, ())
  else
    bif decide (a1 ≥ (a0.length : Int)) then
      some (a0, [], 8, ())
    else
      chk (0 ≤ a1 ∧ a1 < (a0.length : Int)) <|
      Option.bind (barrier_Fire (a0.getD a1.toNat ((false, 0, ()), ((List.replicate 4 0), (List.replicate 4 0), ()), 0, ()))) fun r1 =>
      bif !decide (r1.2.2.1 = 0) then
        some (a0, r1.2.1, r1.2.2.1, ())
      else
        chk ((a0.length : Int) = (a0.length : Int) ∧ 0 ≤ (a0.length : Int) ∧ (a0.length : Int) ≤ 4294967296) <|
        letv (List.replicate (a0.length : Int).toNat ((false, 0, ()), ((List.replicate 4 0), (List.replicate 4 0), ()), 0, ())) fun l1 =>
        chk (0 ≤ a1 ∧ a1 < ((a0.take l1.length ++ l1.drop a0.length).length : Int)) <|
        letv ((a0.take l1.length ++ l1.drop a0.length).set a1.toNat r1.1) fun l2 =>
        some (l2, r1.2.1, 0, ())
def bartab_Ready_J1 (p1 : List Int) : Option (List Int) :=
  some p1
def bartab_Ready_L1 (p2 : Int) (a0 : List ((Bool × Int × Unit) × ((List Int) × (List Int) × Unit) × Int × Unit)) (k1 : (Int × List Int) → Option (List Int)) (x1 : Int × List Int) : Option (List Int) :=
  bif decide (x1.1 < p2) then
    chk (0 ≤ x1.1 ∧ x1.1 < (a0.length : Int)) <|
    Option.bind (barrier_Ready (a0.getD x1.1.toNat ((false, 0, ()), ((List.replicate 4 0), (List.replicate 4 0), ()), 0, ()))) fun r1 =>
    bif r1 then
      chk (x1.2.length + ([x1.1] : List Int).length ≤ 4294967296) <|
      k1 (IntKind.i64.wrap (x1.1 + 1), x1.2 ++ [x1.1])
    else
      k1 (IntKind.i64.wrap (x1.1 + 1), x1.2)
  else
    bartab_Ready_J1 x1.2
def bartab_Ready (a0 : List ((Bool × Int × Unit) × ((List Int) × (List Int) × Unit) × Int × Unit)) : Option (List Int) :=
  loop (bartab_Ready_L1 (a0.length : Int) a0) (0, [])
def bartab_New_J1 (p1 : List ((Bool × Int × Unit) × ((List Int) × (List Int) × Unit) × Int × Unit)) : Option ((List ((Bool × Int × Unit) × ((List Int) × (List Int) × Unit) × Int × Unit)) × Int × Int × Unit) :=
  some (p1, 0, 0, ())
def bartab_New_L1 (p2 : Int) (a0 : List (Bool × Int × Unit)) (k1 : (Int × (List ((Bool × Int × Unit) × ((List Int) × (List Int) × Unit) × Int × Unit))) → Option ((List ((Bool × Int × Unit) × ((List Int) × (List Int) × Unit) × Int × Unit)) × Int × Int × Unit)) (x1 : Int × (List ((Bool × Int × Unit) × ((List Int) × (List Int) × Unit) × Int × Unit))) : Option ((List ((Bool × Int × Unit) × ((List Int) × (List Int) × Unit) × Int × Unit)) × Int × Int × Unit) :=
  bif decide (x1.1 < p2) then
    chk (0 ≤ x1.1 ∧ x1.1 < (a0.length : Int)) <|
    Option.bind (barrier_New (a0.getD x1.1.toNat (false, 0, ()))) fun r1 =>
    bif !decide (r1.2.1 = 0) then
      some ([], x1.1, r1.2.1, ())
    else
      chk (x1.2.length + ([r1.1] : List ((Bool × Int × Unit) × ((List Int) × (List Int) × Unit) × Int × Unit)).length ≤ 4294967296) <|
      k1 (IntKind.i64.wrap (x1.1 + 1), x1.2 ++ [r1.1])
  else
    bartab_New_J1 x1.2
def bartab_New (a0 : List (Bool × Int × Unit)) : Option ((List ((Bool × Int × Unit) × ((List Int) × (List Int) × Unit) × Int × Unit)) × Int × Int × Unit) :=
  bif decide ((a0.length : Int) > 8) then
    some ([], 8, 5, ())
  else
    loop (bartab_New_L1 (a0.length : Int) a0) (0, [])
end Go.Proofs.YtkpobmmabmelfaaDoorV
