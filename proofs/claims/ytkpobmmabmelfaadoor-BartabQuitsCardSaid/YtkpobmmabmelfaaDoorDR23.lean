import Derived.Test.YtkpobmmabmelfaaDoorVcG1
import Derived.Test.YtkpobmmabmelfaaDoorDR22
namespace Go.Proofs.YtkpobmmabmelfaaDoorV
set_option linter.unusedVariables false
def R23_is (a0 : List ((Bool × Int × Unit) × ((List Int) × (List Int) × Unit) × Int × Unit)) (a1 : Int) : Option Bool :=
  bif decide (a1 ≥ 0) then
    some (decide (a1 < (a0.length : Int)))
  else
    some false
def R23_put (a0 : List ((Bool × Int × Unit) × ((List Int) × (List Int) × Unit) × Int × Unit)) (a1 : Int) (a2 : (Bool × Int × Unit) × ((List Int) × (List Int) × Unit) × Int × Unit) (a3 : Int) : Option ((List ((Bool × Int × Unit) × ((List Int) × (List Int) × Unit) × Int × Unit)) × Int × Unit) :=
  bif !decide (a3 = 0) then
    some (a0, a3, ())
  else
    chk (a0.length ≤ 4294967296) <|
    chk (0 ≤ a1 ∧ a1 < (a0.length : Int)) <|
    some (a0.set a1.toNat a2, 0, ())
def R23_Offer_J1 (p1 : List ((Bool × Int × Unit) × ((List Int) × (List Int) × Unit) × Int × Unit)) : Option ((List ((Bool × Int × Unit) × ((List Int) × (List Int) × Unit) × Int × Unit)) × Int × Int × Unit) :=
  some (p1, 0, 0, ())
def R23_Offer_L1 (a2 : List (Int × Int × Int × Int × Int × Unit)) (a0 : List ((Bool × Int × Unit) × ((List Int) × (List Int) × Unit) × Int × Unit)) (a1 : Int) (a3 : Bool) (k1 : ((List ((Bool × Int × Unit) × ((List Int) × (List Int) × Unit) × Int × Unit)) × Int) → Option ((List ((Bool × Int × Unit) × ((List Int) × (List Int) × Unit) × Int × Unit)) × Int × Int × Unit)) (x1 : (List ((Bool × Int × Unit) × ((List Int) × (List Int) × Unit) × Int × Unit)) × Int) : Option ((List ((Bool × Int × Unit) × ((List Int) × (List Int) × Unit) × Int × Unit)) × Int × Int × Unit) :=
  bif decide (x1.2 < (a2.length : Int)) then
    chk (0 ≤ x1.2 ∧ x1.2 < (a2.length : Int)) <|
    bif !decide ((a2.getD x1.2.toNat (0, 0, 0, 0, 0, ())).1 = 3) then
      k1 (x1.1, IntKind.i64.wrap (x1.2 + 1))
    else
      chk (0 ≤ x1.2 ∧ x1.2 < (a2.length : Int)) <|
      Option.bind (R23_is a0 (a2.getD x1.2.toNat (0, 0, 0, 0, 0, ())).2.1) fun r1 =>
      bif !r1 then
        some (a0, x1.2, 8, ())
      else
        chk (0 ≤ x1.2 ∧ x1.2 < (a2.length : Int)) <|
        chk (0 ≤ (a2.getD x1.2.toNat (0, 0, 0, 0, 0, ())).2.1 ∧ (a2.getD x1.2.toNat (0, 0, 0, 0, 0, ())).2.1 < (x1.1.length : Int)) <|
        Option.bind (R22_Offer (x1.1.getD (a2.getD x1.2.toNat (0, 0, 0, 0, 0, ())).2.1.toNat ((false, 0, ()), ([], [], ()), 0, ())) a1 a3) fun r2 =>
        bif !decide (r2.2.1 = 0) then
          some (a0, x1.2, r2.2.1, ())
        else
          chk (0 ≤ x1.2 ∧ x1.2 < (a2.length : Int)) <|
          Option.bind (R23_put x1.1 (a2.getD x1.2.toNat (0, 0, 0, 0, 0, ())).2.1 r2.1 0) fun r3 =>
          k1 (r3.1, IntKind.i64.wrap (x1.2 + 1))
  else
    R23_Offer_J1 x1.1
def R23_Offer (a0 : List ((Bool × Int × Unit) × ((List Int) × (List Int) × Unit) × Int × Unit)) (a1 : Int) (a2 : List (Int × Int × Int × Int × Int × Unit)) (a3 : Bool) : Option ((List ((Bool × Int × Unit) × ((List Int) × (List Int) × Unit) × Int × Unit)) × Int × Int × Unit) :=
  loop (R23_Offer_L1 a2 a0 a1 a3) (a0, 0)
def R23_Leave_J1 (p1 : List ((Bool × Int × Unit) × ((List Int) × (List Int) × Unit) × Int × Unit)) : Option (List ((Bool × Int × Unit) × ((List Int) × (List Int) × Unit) × Int × Unit)) :=
  some p1
def R23_Leave_L1 (a1 : Int) (k1 : ((List ((Bool × Int × Unit) × ((List Int) × (List Int) × Unit) × Int × Unit)) × Int) → Option (List ((Bool × Int × Unit) × ((List Int) × (List Int) × Unit) × Int × Unit))) (x1 : (List ((Bool × Int × Unit) × ((List Int) × (List Int) × Unit) × Int × Unit)) × Int) : Option (List ((Bool × Int × Unit) × ((List Int) × (List Int) × Unit) × Int × Unit)) :=
  bif decide (x1.2 < (x1.1.length : Int)) then
    chk (0 ≤ x1.2 ∧ x1.2 < (x1.1.length : Int)) <|
    Option.bind (R22_Withdraw (x1.1.getD x1.2.toNat ((false, 0, ()), ([], [], ()), 0, ())) a1) fun r1 =>
    Option.bind (R23_put x1.1 x1.2 r1 0) fun r2 =>
    k1 (r2.1, IntKind.i64.wrap (x1.2 + 1))
  else
    R23_Leave_J1 x1.1
def R23_Leave (a0 : List ((Bool × Int × Unit) × ((List Int) × (List Int) × Unit) × Int × Unit)) (a1 : Int) : Option (List ((Bool × Int × Unit) × ((List Int) × (List Int) × Unit) × Int × Unit)) :=
  loop (R23_Leave_L1 a1) (a0, 0)
def R23_Quit_J1 (p1 : List ((Bool × Int × Unit) × ((List Int) × (List Int) × Unit) × Int × Unit)) : Option (List ((Bool × Int × Unit) × ((List Int) × (List Int) × Unit) × Int × Unit)) :=
  some p1
def R23_Quit_L1 (a1 : Int) (k1 : ((List ((Bool × Int × Unit) × ((List Int) × (List Int) × Unit) × Int × Unit)) × Int) → Option (List ((Bool × Int × Unit) × ((List Int) × (List Int) × Unit) × Int × Unit))) (x1 : (List ((Bool × Int × Unit) × ((List Int) × (List Int) × Unit) × Int × Unit)) × Int) : Option (List ((Bool × Int × Unit) × ((List Int) × (List Int) × Unit) × Int × Unit)) :=
  bif decide (x1.2 < (x1.1.length : Int)) then
    chk (0 ≤ x1.2 ∧ x1.2 < (x1.1.length : Int)) <|
    Option.bind (R22_Resign (x1.1.getD x1.2.toNat ((false, 0, ()), ([], [], ()), 0, ())) a1) fun r1 =>
    Option.bind (R23_put x1.1 x1.2 r1.1 r1.2.1) fun r2 =>
    k1 (r2.1, IntKind.i64.wrap (x1.2 + 1))
  else
    R23_Quit_J1 x1.1
def R23_Quit (a0 : List ((Bool × Int × Unit) × ((List Int) × (List Int) × Unit) × Int × Unit)) (a1 : Int) : Option (List ((Bool × Int × Unit) × ((List Int) × (List Int) × Unit) × Int × Unit)) :=
  loop (R23_Quit_L1 a1) (a0, 0)
def R23_Enrol (a0 : List ((Bool × Int × Unit) × ((List Int) × (List Int) × Unit) × Int × Unit)) (a1 : Int) (a2 : Int) : Option ((List ((Bool × Int × Unit) × ((List Int) × (List Int) × Unit) × Int × Unit)) × Int × Unit) :=
  Option.bind (R23_is a0 a1) fun r1 =>
  bif !r1 then
    some (a0, 8, ())
  else
    chk (0 ≤ a1 ∧ a1 < (a0.length : Int)) <|
    Option.bind (R22_Enrol (a0.getD a1.toNat ((false, 0, ()), ([], [], ()), 0, ())) a2) fun r2 =>
    Option.bind (R23_put a0 a1 r2.1 r2.2.1) fun r3 =>
    some (r3.1, r3.2.1, ())
def R23_Resign (a0 : List ((Bool × Int × Unit) × ((List Int) × (List Int) × Unit) × Int × Unit)) (a1 : Int) (a2 : Int) : Option ((List ((Bool × Int × Unit) × ((List Int) × (List Int) × Unit) × Int × Unit)) × Int × Unit) :=
  Option.bind (R23_is a0 a1) fun r1 =>
  bif !r1 then
    some (a0, 8, ())
  else
    chk (0 ≤ a1 ∧ a1 < (a0.length : Int)) <|
    Option.bind (R22_Resign (a0.getD a1.toNat ((false, 0, ()), ([], [], ()), 0, ())) a2) fun r2 =>
    Option.bind (R23_put a0 a1 r2.1 r2.2.1) fun r3 =>
    some (r3.1, r3.2.1, ())
def R23_Fire (a0 : List ((Bool × Int × Unit) × ((List Int) × (List Int) × Unit) × Int × Unit)) (a1 : Int) : Option ((List ((Bool × Int × Unit) × ((List Int) × (List Int) × Unit) × Int × Unit)) × (List Int) × Int × Unit) :=
  Option.bind (R23_is a0 a1) fun r1 =>
  bif !r1 then
    some (a0, [], 8, ())
  else
    chk (0 ≤ a1 ∧ a1 < (a0.length : Int)) <|
    Option.bind (R22_Fire (a0.getD a1.toNat ((false, 0, ()), ([], [], ()), 0, ()))) fun r2 =>
    bif !decide (r2.2.2.1 = 0) then
      some (a0, [], r2.2.2.1, ())
    else
      Option.bind (R23_put a0 a1 r2.1 0) fun r3 =>
      some (r3.1, r2.2.1, 0, ())
def R23_Ready_J1 (p1 : List Int) : Option (List Int) :=
  some p1
def R23_Ready_L1 (a0 : List ((Bool × Int × Unit) × ((List Int) × (List Int) × Unit) × Int × Unit)) (k1 : (Int × List Int) → Option (List Int)) (x1 : Int × List Int) : Option (List Int) :=
  bif decide (x1.1 < (a0.length : Int)) then
    chk (0 ≤ x1.1 ∧ x1.1 < (a0.length : Int)) <|
    Option.bind (R22_Ready (a0.getD x1.1.toNat ((false, 0, ()), ([], [], ()), 0, ()))) fun r1 =>
    bif r1 then
      chk (x1.2.length + ([x1.1] : List Int).length ≤ 4294967296) <|
      k1 (IntKind.i64.wrap (x1.1 + 1), x1.2 ++ [x1.1])
    else
      k1 (IntKind.i64.wrap (x1.1 + 1), x1.2)
  else
    R23_Ready_J1 x1.2
def R23_Ready (a0 : List ((Bool × Int × Unit) × ((List Int) × (List Int) × Unit) × Int × Unit)) : Option (List Int) :=
  loop (R23_Ready_L1 a0) (0, [])
def R23_New_J1 (p1 : List ((Bool × Int × Unit) × ((List Int) × (List Int) × Unit) × Int × Unit)) : Option ((List ((Bool × Int × Unit) × ((List Int) × (List Int) × Unit) × Int × Unit)) × Int × Int × Unit) :=
  some (p1, 0, 0, ())
def R23_New_L1 (a0 : List (Bool × Int × Unit)) (k1 : (Int × (List ((Bool × Int × Unit) × ((List Int) × (List Int) × Unit) × Int × Unit))) → Option ((List ((Bool × Int × Unit) × ((List Int) × (List Int) × Unit) × Int × Unit)) × Int × Int × Unit)) (x1 : Int × (List ((Bool × Int × Unit) × ((List Int) × (List Int) × Unit) × Int × Unit))) : Option ((List ((Bool × Int × Unit) × ((List Int) × (List Int) × Unit) × Int × Unit)) × Int × Int × Unit) :=
  bif decide (x1.1 < (a0.length : Int)) then
    chk (0 ≤ x1.1 ∧ x1.1 < (a0.length : Int)) <|
    Option.bind (R22_New (a0.getD x1.1.toNat (false, 0, ()))) fun r1 =>
    bif !decide (r1.2.1 = 0) then
      some ([], x1.1, r1.2.1, ())
    else
      chk (x1.2.length + ([r1.1] : List ((Bool × Int × Unit) × ((List Int) × (List Int) × Unit) × Int × Unit)).length ≤ 4294967296) <|
      k1 (IntKind.i64.wrap (x1.1 + 1), x1.2 ++ [r1.1])
  else
    R23_New_J1 x1.2
def R23_New (a0 : List (Bool × Int × Unit)) : Option ((List ((Bool × Int × Unit) × ((List Int) × (List Int) × Unit) × Int × Unit)) × Int × Int × Unit) :=
  bif decide ((a0.length : Int) > 8) then
    some ([], 8, 5, ())
  else
    loop (R23_New_L1 a0) (0, [])
end Go.Proofs.YtkpobmmabmelfaaDoorV
