import Derived.Test.YtbkccpddkpclaaaVcG1
import Derived.Test.YtbkccpddkpclaaaDR18
namespace Go.Proofs.YtbkccpddkpclaaaV
set_option linter.unusedVariables false
def R19_New_J1 (p1 : List ((Int × Int × Int × Int × Unit) × Int × (List Int) × (Bool × (List Int) × Unit) × (List Int) × (Bool × (List Int) × Unit) × Unit)) : Option ((List ((Int × Int × Int × Int × Unit) × Int × (List Int) × (Bool × (List Int) × Unit) × (List Int) × (Bool × (List Int) × Unit) × Unit)) × Int × Int × Unit) :=
  some (p1, 0, 0, ())
def R19_New_L1 (a0 : List (Int × Int × Int × Int × Unit)) (k1 : (Int × (List ((Int × Int × Int × Int × Unit) × Int × (List Int) × (Bool × (List Int) × Unit) × (List Int) × (Bool × (List Int) × Unit) × Unit))) → Option ((List ((Int × Int × Int × Int × Unit) × Int × (List Int) × (Bool × (List Int) × Unit) × (List Int) × (Bool × (List Int) × Unit) × Unit)) × Int × Int × Unit)) (x1 : Int × (List ((Int × Int × Int × Int × Unit) × Int × (List Int) × (Bool × (List Int) × Unit) × (List Int) × (Bool × (List Int) × Unit) × Unit))) : Option ((List ((Int × Int × Int × Int × Unit) × Int × (List Int) × (Bool × (List Int) × Unit) × (List Int) × (Bool × (List Int) × Unit) × Unit)) × Int × Int × Unit) :=
  bif decide (x1.1 < (a0.length : Int)) then
    chk (0 ≤ x1.1 ∧ x1.1 < (a0.length : Int)) <|
    Option.bind (R18_New (a0.getD x1.1.toNat (0, 0, 0, 0, ()))) fun r1 =>
    bif !decide (r1.2.1 = 0) then
      some ([], x1.1, r1.2.1, ())
    else
      chk (x1.2.length + ([r1.1] : List ((Int × Int × Int × Int × Unit) × Int × (List Int) × (Bool × (List Int) × Unit) × (List Int) × (Bool × (List Int) × Unit) × Unit)).length ≤ 4294967296) <|
      k1 (IntKind.i64.wrap (x1.1 + 1), x1.2 ++ [r1.1])
  else
    R19_New_J1 x1.2
def R19_New (a0 : List (Int × Int × Int × Int × Unit)) : Option ((List ((Int × Int × Int × Int × Unit) × Int × (List Int) × (Bool × (List Int) × Unit) × (List Int) × (Bool × (List Int) × Unit) × Unit)) × Int × Int × Unit) :=
  bif decide ((a0.length : Int) > 8) then
    some ([], 8, 5, ())
  else
    loop (R19_New_L1 a0) (0, [])
def R19_Moves_J1 (p1 : List (Int × Int × Unit)) : Option (List (Int × Int × Unit)) :=
  some p1
def R19_Moves_J2 (k1 : (Int × (List (Int × Int × Unit))) → Option (List (Int × Int × Unit))) (x1 : Int × (List (Int × Int × Unit))) (p2 : List (Int × Int × Unit)) : Option (List (Int × Int × Unit)) :=
  k1 (IntKind.i64.wrap (x1.1 + 1), p2)
def R19_Moves_J3 (k1 : (Int × (List (Int × Int × Unit))) → Option (List (Int × Int × Unit))) (x1 : Int × (List (Int × Int × Unit))) (p3 : List (Int × Int × Unit)) : Option (List (Int × Int × Unit)) :=
  R19_Moves_J2 k1 x1 p3
def R19_Moves_L1 (r1 : List Int) (x1 : Int × (List (Int × Int × Unit))) (k1 : (Int × (List (Int × Int × Unit))) → Option (List (Int × Int × Unit))) (k2 : (Int × (List (Int × Int × Unit))) → Option (List (Int × Int × Unit))) (x2 : Int × (List (Int × Int × Unit))) : Option (List (Int × Int × Unit)) :=
  bif decide (x2.1 < (r1.length : Int)) then
    chk (0 ≤ x2.1 ∧ x2.1 < (r1.length : Int)) <|
    chk (x2.2.length + ([(x1.1, r1.getD x2.1.toNat 0, ())] : List (Int × Int × Unit)).length ≤ 4294967296) <|
    letv (x2.2 ++ [(x1.1, r1.getD x2.1.toNat 0, ())]) fun l1 =>
    k2 (IntKind.i64.wrap (x2.1 + 1), l1)
  else
    R19_Moves_J3 k1 x1 x2.2
def R19_Moves_L2 (a0 : List ((Int × Int × Int × Int × Unit) × Int × (List Int) × (Bool × (List Int) × Unit) × (List Int) × (Bool × (List Int) × Unit) × Unit)) (k1 : (Int × (List (Int × Int × Unit))) → Option (List (Int × Int × Unit))) (x1 : Int × (List (Int × Int × Unit))) : Option (List (Int × Int × Unit)) :=
  bif decide (x1.1 < (a0.length : Int)) then
    chk (0 ≤ x1.1 ∧ x1.1 < (a0.length : Int)) <|
    Option.bind (R18_What (a0.getD x1.1.toNat ((0, 0, 0, 0, ()), 0, [], (false, [], ()), [], (false, [], ()), ()))) fun r1 =>
    loop (R19_Moves_L1 r1 x1 k1) (0, x1.2)
  else
    R19_Moves_J1 x1.2
def R19_Moves (a0 : List ((Int × Int × Int × Int × Unit) × Int × (List Int) × (Bool × (List Int) × Unit) × (List Int) × (Bool × (List Int) × Unit) × Unit)) : Option (List (Int × Int × Unit)) :=
  loop (R19_Moves_L2 a0) (0, [])
def R19_Hits_J1 (p1 : List Int) : Option (List Int) :=
  some p1
def R19_Hits_L1 (a0 : List ((Int × Int × Int × Int × Unit) × Int × (List Int) × (Bool × (List Int) × Unit) × (List Int) × (Bool × (List Int) × Unit) × Unit)) (a1 : Int) (k1 : (Int × List Int) → Option (List Int)) (x1 : Int × List Int) : Option (List Int) :=
  bif decide (x1.1 < (a0.length : Int)) then
    chk (0 ≤ x1.1 ∧ x1.1 < (a0.length : Int)) <|
    Option.bind (R18_Hit (a0.getD x1.1.toNat ((0, 0, 0, 0, ()), 0, [], (false, [], ()), [], (false, [], ()), ())) a1) fun r1 =>
    bif r1 then
      chk (x1.2.length + ([x1.1] : List Int).length ≤ 4294967296) <|
      k1 (IntKind.i64.wrap (x1.1 + 1), x1.2 ++ [x1.1])
    else
      k1 (IntKind.i64.wrap (x1.1 + 1), x1.2)
  else
    R19_Hits_J1 x1.2
def R19_Hits (a0 : List ((Int × Int × Int × Int × Unit) × Int × (List Int) × (Bool × (List Int) × Unit) × (List Int) × (Bool × (List Int) × Unit) × Unit)) (a1 : Int) : Option (List Int) :=
  loop (R19_Hits_L1 a0 a1) (0, [])
def R19_Is (a0 : List ((Int × Int × Int × Int × Unit) × Int × (List Int) × (Bool × (List Int) × Unit) × (List Int) × (Bool × (List Int) × Unit) × Unit)) (a1 : Int) : Option Bool :=
  bif decide (a1 ≥ 0) then
    some (decide (a1 < (a0.length : Int)))
  else
    some false
def R19_put (a0 : List ((Int × Int × Int × Int × Unit) × Int × (List Int) × (Bool × (List Int) × Unit) × (List Int) × (Bool × (List Int) × Unit) × Unit)) (a1 : Int) (a2 : (Int × Int × Int × Int × Unit) × Int × (List Int) × (Bool × (List Int) × Unit) × (List Int) × (Bool × (List Int) × Unit) × Unit) : Option (List ((Int × Int × Int × Int × Unit) × Int × (List Int) × (Bool × (List Int) × Unit) × (List Int) × (Bool × (List Int) × Unit) × Unit)) :=
  chk (a0.length ≤ 4294967296) <|
  chk (0 ≤ a1 ∧ a1 < (a0.length : Int)) <|
  some (a0.set a1.toNat a2)
def R19_Poison (a0 : List ((Int × Int × Int × Int × Unit) × Int × (List Int) × (Bool × (List Int) × Unit) × (List Int) × (Bool × (List Int) × Unit) × Unit)) (a1 : Int) (a2 : Int) : Option ((List ((Int × Int × Int × Int × Unit) × Int × (List Int) × (Bool × (List Int) × Unit) × (List Int) × (Bool × (List Int) × Unit) × Unit)) × Int × Unit) :=
  Option.bind (R19_Is a0 a1) fun r1 =>
  bif !r1 then
    some (a0, 8, ())
  else
    chk (0 ≤ a1 ∧ a1 < (a0.length : Int)) <|
    Option.bind (R18_Poison (a0.getD a1.toNat ((0, 0, 0, 0, ()), 0, [], (false, [], ()), [], (false, [], ()), ())) a2) fun r2 =>
    bif !decide (r2.2.1 = 0) then
      some (a0, r2.2.1, ())
    else
      Option.bind (R19_put a0 a1 r2.1) fun r3 =>
      some (r3, 0, ())
def R19_Do (a0 : List ((Int × Int × Int × Int × Unit) × Int × (List Int) × (Bool × (List Int) × Unit) × (List Int) × (Bool × (List Int) × Unit) × Unit)) (a1 : Int × Int × Unit) : Option ((List ((Int × Int × Int × Int × Unit) × Int × (List Int) × (Bool × (List Int) × Unit) × (List Int) × (Bool × (List Int) × Unit) × Unit)) × (Int × Int × Int × Unit) × Int × Unit) :=
  Option.bind (R19_Is a0 a1.1) fun r1 =>
  bif !r1 then
    some (a0, (0, 0, 0, ()), 8, ())
  else
    chk (0 ≤ a1.1 ∧ a1.1 < (a0.length : Int)) <|
    Option.bind (R18_Do (a0.getD a1.1.toNat ((0, 0, 0, 0, ()), 0, [], (false, [], ()), [], (false, [], ()), ())) a1.2.1) fun r2 =>
    bif !decide (r2.2.2.1 = 0) then
      some (a0, r2.2.1, r2.2.2.1, ())
    else
      Option.bind (R19_put a0 a1.1 r2.1) fun r3 =>
      some (r3, r2.2.1, 0, ())
def R19_Leave_J1 (p1 : List ((Int × Int × Int × Int × Unit) × Int × (List Int) × (Bool × (List Int) × Unit) × (List Int) × (Bool × (List Int) × Unit) × Unit)) : Option (List ((Int × Int × Int × Int × Unit) × Int × (List Int) × (Bool × (List Int) × Unit) × (List Int) × (Bool × (List Int) × Unit) × Unit)) :=
  some p1
def R19_Leave_L1 (a1 : Int) (k1 : ((List ((Int × Int × Int × Int × Unit) × Int × (List Int) × (Bool × (List Int) × Unit) × (List Int) × (Bool × (List Int) × Unit) × Unit)) × Int) → Option (List ((Int × Int × Int × Int × Unit) × Int × (List Int) × (Bool × (List Int) × Unit) × (List Int) × (Bool × (List Int) × Unit) × Unit))) (x1 : (List ((Int × Int × Int × Int × Unit) × Int × (List Int) × (Bool × (List Int) × Unit) × (List Int) × (Bool × (List Int) × Unit) × Unit)) × Int) : Option (List ((Int × Int × Int × Int × Unit) × Int × (List Int) × (Bool × (List Int) × Unit) × (List Int) × (Bool × (List Int) × Unit) × Unit)) :=
  bif decide (x1.2 < (x1.1.length : Int)) then
    chk (0 ≤ x1.2 ∧ x1.2 < (x1.1.length : Int)) <|
    Option.bind (R18_Leave (x1.1.getD x1.2.toNat ((0, 0, 0, 0, ()), 0, [], (false, [], ()), [], (false, [], ()), ())) a1) fun r1 =>
    Option.bind (R19_put x1.1 x1.2 r1) fun r2 =>
    k1 (r2, IntKind.i64.wrap (x1.2 + 1))
  else
    R19_Leave_J1 x1.1
def R19_Leave (a0 : List ((Int × Int × Int × Int × Unit) × Int × (List Int) × (Bool × (List Int) × Unit) × (List Int) × (Bool × (List Int) × Unit) × Unit)) (a1 : Int) : Option (List ((Int × Int × Int × Int × Unit) × Int × (List Int) × (Bool × (List Int) × Unit) × (List Int) × (Bool × (List Int) × Unit) × Unit)) :=
  loop (R19_Leave_L1 a1) (a0, 0)
end Go.Proofs.YtbkccpddkpclaaaV
