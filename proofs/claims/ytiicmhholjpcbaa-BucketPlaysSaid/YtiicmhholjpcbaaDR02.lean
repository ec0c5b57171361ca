import Derived.Test.YtiicmhholjpcbaaVcMt
import Derived.Test.YtiicmhholjpcbaaDR01
namespace Go.Proofs.YtiicmhholjpcbaaV
set_option linter.unusedVariables false
def R02_New (a0 : Int) (a1 : Int) : Option ((Int × (List Int) × (List (Int × Int × Unit)) × Unit) × Int × Unit) :=
  bif decide (a0 < 1) then
    some ((0, [], [], ()), 1, ())
  else
    bif decide (a0 > 4096) then
      some ((0, [], [], ()), 1, ())
    else
      bif decide (a1 < 1) then
        some ((0, [], [], ()), 1, ())
      else
        bif decide (a1 > 65535) then
          some ((0, [], [], ()), 1, ())
        else
          chk (a0 = a0 ∧ 0 ≤ a0 ∧ a0 ≤ 4294967296) <|
          some ((a1, List.replicate a0.toNat 0, [], ()), 0, ())
def R02_find_J1 : Option Int :=
  some (-1)
def R02_find_L1 (a0 : Int × (List Int) × (List (Int × Int × Unit)) × Unit) (a1 : Int) (k1 : Int → Option Int) (x1 : Int) : Option Int :=
  bif decide (x1 < (a0.2.2.1.length : Int)) then
    chk (0 ≤ x1 ∧ x1 < (a0.2.2.1.length : Int)) <|
    bif decide ((a0.2.2.1.getD x1.toNat (0, 0, ())).1 = a1) then
      some x1
    else
      k1 (IntKind.i64.wrap (x1 + 1))
  else
    R02_find_J1
def R02_find (a0 : Int × (List Int) × (List (Int × Int × Unit)) × Unit) (a1 : Int) : Option Int :=
  loop (R02_find_L1 a0 a1) 0
def R02_at (a0 : Int × (List Int) × (List (Int × Int × Unit)) × Unit) (a1 : Int) : Option (Int × Int × Unit) :=
  Option.bind (R01_Slot a1) fun r1 =>
  bif decide (r1 < 0) then
    some (0, 8, ())
  else
    bif decide (r1 ≥ (a0.2.1.length : Int)) then
      some (0, 8, ())
    else
      Option.bind (R02_find a0 r1) fun r2 =>
      bif decide (r2 < 0) then
        some (0, 9, ())
      else
        chk (0 ≤ r1 ∧ r1 < (a0.2.1.length : Int)) <|
        Option.bind (R01_Gen a1) fun r3 =>
        bif !decide ((a0.2.1.getD r1.toNat 0) = r3) then
          some (0, 9, ())
        else
          some (r2, 0, ())
def R02_Set (a0 : Int × (List Int) × (List (Int × Int × Unit)) × Unit) (a1 : Int) (a2 : Int) : Option ((Int × (List Int) × (List (Int × Int × Unit)) × Unit) × Int × Unit) :=
  Option.bind (R02_at a0 a1) fun r1 =>
  bif decide (r1.2.1 = 0) then
    chk (a0.2.2.1.length ≤ 4294967296) <|
    chk (0 ≤ r1.1 ∧ r1.1 < (a0.2.2.1.length : Int)) <|
    letv (a0.2.2.1.set r1.1.toNat ((a0.2.2.1.getD r1.1.toNat (0, 0, ())).1, a2, ())) fun l1 =>
    some ((a0.1, a0.2.1, l1, ()), r1.2.1, ())
  else
    some (a0, r1.2.1, ())
def R02_Drop (a0 : Int × (List Int) × (List (Int × Int × Unit)) × Unit) (a1 : Int) : Option ((Int × (List Int) × (List (Int × Int × Unit)) × Unit) × Int × Unit) :=
  Option.bind (R02_at a0 a1) fun r1 =>
  bif decide (r1.2.1 = 0) then
    chk (0 ≤ (0 : Int) ∧ (0 : Int) ≤ r1.1 ∧ r1.1 ≤ (a0.2.2.1.length : Int)) <|
    chk (((a0.2.2.1.take r1.1.toNat).drop (0 : Int).toNat).length ≤ 4294967296) <|
    letv ((a0.2.2.1.take r1.1.toNat).drop (0 : Int).toNat) fun l1 =>
    chk (0 ≤ (IntKind.i64.wrap (r1.1 + 1)) ∧ (IntKind.i64.wrap (r1.1 + 1)) ≤ (a0.2.2.1.length : Int) ∧ (a0.2.2.1.length : Int) ≤ (a0.2.2.1.length : Int)) <|
    chk (l1.length + ((a0.2.2.1.take (a0.2.2.1.length : Int).toNat).drop (IntKind.i64.wrap (r1.1 + 1)).toNat).length ≤ 4294967296) <|
    letv (l1 ++ ((a0.2.2.1.take (a0.2.2.1.length : Int).toNat).drop (IntKind.i64.wrap (r1.1 + 1)).toNat)) fun l2 =>
    some ((a0.1, a0.2.1, l2, ()), r1.2.1, ())
  else
    some (a0, r1.2.1, ())
def R02_open (a0 : Int × (List Int) × (List (Int × Int × Unit)) × Unit) (a1 : Int) : Option Bool :=
  Option.bind (R02_find a0 a1) fun r1 =>
  bif decide (r1 < 0) then
    chk (0 ≤ a1 ∧ a1 < (a0.2.1.length : Int)) <|
    some (decide ((a0.2.1.getD a1.toNat 0) < a0.1))
  else
    some false
def R02_Add_J1 (a0 : Int × (List Int) × (List (Int × Int × Unit)) × Unit) : Option ((Int × (List Int) × (List (Int × Int × Unit)) × Unit) × Int × Int × Unit) :=
  some (a0, 0, 10, ())
def R02_Add_J2 (k1 : Int → Option ((Int × (List Int) × (List (Int × Int × Unit)) × Unit) × Int × Int × Unit)) (x1 : Int) : Option ((Int × (List Int) × (List (Int × Int × Unit)) × Unit) × Int × Int × Unit) :=
  k1 (IntKind.i64.wrap (x1 + 1))
def R02_Add_J3 (x1 : Int) (l1 : List Int) (a0 : Int × (List Int) × (List (Int × Int × Unit)) × Unit) (p2 : List (Int × Int × Unit)) : Option ((Int × (List Int) × (List (Int × Int × Unit)) × Unit) × Int × Int × Unit) :=
  chk (0 ≤ x1 ∧ x1 < (l1.length : Int)) <|
  Option.bind (R01_Make x1 (l1.getD x1.toNat 0)) fun r2 =>
  some ((a0.1, l1, p2, ()), r2.1, 0, ())
def R02_Add_L1 (a0 : Int × (List Int) × (List (Int × Int × Unit)) × Unit) (x1 : Int) (l1 : List Int) (k2 : (Int × (List (Int × Int × Unit))) → Option ((Int × (List Int) × (List (Int × Int × Unit)) × Unit) × Int × Int × Unit)) (x2 : Int × (List (Int × Int × Unit))) : Option ((Int × (List Int) × (List (Int × Int × Unit)) × Unit) × Int × Int × Unit) :=
  bif decide (x2.1 < (a0.2.2.1.length : Int)) then
    chk (0 ≤ x2.1 ∧ x2.1 < (a0.2.2.1.length : Int)) <|
    bif decide ((a0.2.2.1.getD x2.1.toNat (0, 0, ())).1 > x1) then
      chk (0 ≤ x2.1 ∧ x2.1 < (a0.2.2.1.length : Int)) <|
      chk (x2.2.length + ([(a0.2.2.1.getD x2.1.toNat (0, 0, ()))] : List (Int × Int × Unit)).length ≤ 4294967296) <|
      letv (x2.2 ++ [(a0.2.2.1.getD x2.1.toNat (0, 0, ()))]) fun l2 =>
      k2 (IntKind.i64.wrap (x2.1 + 1), l2)
    else
      k2 (IntKind.i64.wrap (x2.1 + 1), x2.2)
  else
    R02_Add_J3 x1 l1 a0 x2.2
def R02_Add_J4 (x1 : Int) (a1 : Int) (a0 : Int × (List Int) × (List (Int × Int × Unit)) × Unit) (l1 : List Int) (p1 : List (Int × Int × Unit)) : Option ((Int × (List Int) × (List (Int × Int × Unit)) × Unit) × Int × Int × Unit) :=
  chk (p1.length + ([(x1, a1, ())] : List (Int × Int × Unit)).length ≤ 4294967296) <|
  loop (R02_Add_L1 a0 x1 l1) (0, p1 ++ [(x1, a1, ())])
def R02_Add_L2 (a0 : Int × (List Int) × (List (Int × Int × Unit)) × Unit) (x1 : Int) (a1 : Int) (l1 : List Int) (k3 : (Int × (List (Int × Int × Unit))) → Option ((Int × (List Int) × (List (Int × Int × Unit)) × Unit) × Int × Int × Unit)) (x3 : Int × (List (Int × Int × Unit))) : Option ((Int × (List Int) × (List (Int × Int × Unit)) × Unit) × Int × Int × Unit) :=
  bif decide (x3.1 < (a0.2.2.1.length : Int)) then
    chk (0 ≤ x3.1 ∧ x3.1 < (a0.2.2.1.length : Int)) <|
    bif decide ((a0.2.2.1.getD x3.1.toNat (0, 0, ())).1 < x1) then
      chk (0 ≤ x3.1 ∧ x3.1 < (a0.2.2.1.length : Int)) <|
      chk (x3.2.length + ([(a0.2.2.1.getD x3.1.toNat (0, 0, ()))] : List (Int × Int × Unit)).length ≤ 4294967296) <|
      letv (x3.2 ++ [(a0.2.2.1.getD x3.1.toNat (0, 0, ()))]) fun l3 =>
      k3 (IntKind.i64.wrap (x3.1 + 1), l3)
    else
      k3 (IntKind.i64.wrap (x3.1 + 1), x3.2)
  else
    R02_Add_J4 x1 a1 a0 l1 x3.2
def R02_Add_L3 (a0 : Int × (List Int) × (List (Int × Int × Unit)) × Unit) (a1 : Int) (k1 : Int → Option ((Int × (List Int) × (List (Int × Int × Unit)) × Unit) × Int × Int × Unit)) (x1 : Int) : Option ((Int × (List Int) × (List (Int × Int × Unit)) × Unit) × Int × Int × Unit) :=
  bif decide (x1 < (a0.2.1.length : Int)) then
    Option.bind (R02_open a0 x1) fun r1 =>
    bif !r1 then
      R02_Add_J2 k1 x1
    else
      chk (a0.2.1.length ≤ 4294967296) <|
      chk (0 ≤ x1 ∧ x1 < (a0.2.1.length : Int)) <|
      chk (0 ≤ x1 ∧ x1 < (a0.2.1.length : Int)) <|
      letv (a0.2.1.set x1.toNat (IntKind.i64.wrap ((a0.2.1.getD x1.toNat 0) + 1))) fun l1 =>
      loop (R02_Add_L2 a0 x1 a1 l1) (0, [])
  else
    R02_Add_J1 a0
def R02_Add (a0 : Int × (List Int) × (List (Int × Int × Unit)) × Unit) (a1 : Int) : Option ((Int × (List Int) × (List (Int × Int × Unit)) × Unit) × Int × Int × Unit) :=
  loop (R02_Add_L3 a0 a1) 0
def R02_Same_J1 : Option Bool :=
  some true
def R02_Same_L1 (a0 : List Int) (a1 : List Int) (k1 : Int → Option Bool) (x1 : Int) : Option Bool :=
  bif decide (x1 < (a0.length : Int)) then
    chk (0 ≤ x1 ∧ x1 < (a0.length : Int)) <|
    chk (0 ≤ x1 ∧ x1 < (a1.length : Int)) <|
    bif !decide ((a0.getD x1.toNat 0) = (a1.getD x1.toNat 0)) then
      some false
    else
      k1 (IntKind.i64.wrap (x1 + 1))
  else
    R02_Same_J1
def R02_Same (a0 : List Int) (a1 : List Int) : Option Bool :=
  bif !decide ((a0.length : Int) = (a1.length : Int)) then
    some false
  else
    loop (R02_Same_L1 a0 a1) 0
def R02_Get (a0 : Int × (List Int) × (List (Int × Int × Unit)) × Unit) (a1 : Int) : Option (Int × Int × Unit) :=
  Option.bind (R02_at a0 a1) fun r1 =>
  bif !decide (r1.2.1 = 0) then
    some (0, r1.2.1, ())
  else
    chk (0 ≤ r1.1 ∧ r1.1 < (a0.2.2.1.length : Int)) <|
    letv ((a0.2.2.1.getD r1.1.toNat (0, 0, ())).2.1) fun v1 =>
    some (v1, 0, ())
def R02_Handles_J1 (p1 : List Int) : Option (List Int) :=
  some p1
def R02_Handles_L1 (a0 : Int × (List Int) × (List (Int × Int × Unit)) × Unit) (k1 : (Int × List Int) → Option (List Int)) (x1 : Int × List Int) : Option (List Int) :=
  bif decide (x1.1 < (a0.2.2.1.length : Int)) then
    chk (0 ≤ x1.1 ∧ x1.1 < (a0.2.2.1.length : Int)) <|
    chk (0 ≤ (a0.2.2.1.getD x1.1.toNat (0, 0, ())).1 ∧ (a0.2.2.1.getD x1.1.toNat (0, 0, ())).1 < (a0.2.1.length : Int)) <|
    Option.bind (R01_Make (a0.2.2.1.getD x1.1.toNat (0, 0, ())).1 (a0.2.1.getD (a0.2.2.1.getD x1.1.toNat (0, 0, ())).1.toNat 0)) fun r1 =>
    chk (x1.2.length + ([r1.1] : List Int).length ≤ 4294967296) <|
    k1 (IntKind.i64.wrap (x1.1 + 1), x1.2 ++ [r1.1])
  else
    R02_Handles_J1 x1.2
def R02_Handles (a0 : Int × (List Int) × (List (Int × Int × Unit)) × Unit) : Option (List Int) :=
  loop (R02_Handles_L1 a0) (0, [])
def R02_Free_J1 (p1 : Int) : Option Int :=
  some p1
def R02_Free_L1 (a0 : Int × (List Int) × (List (Int × Int × Unit)) × Unit) (k1 : (Int × Int) → Option Int) (x1 : Int × Int) : Option Int :=
  bif decide (x1.2 < (a0.2.1.length : Int)) then
    Option.bind (R02_open a0 x1.2) fun r1 =>
    bif r1 then
      k1 (IntKind.i64.wrap (x1.1 + 1), IntKind.i64.wrap (x1.2 + 1))
    else
      k1 (x1.1, IntKind.i64.wrap (x1.2 + 1))
  else
    R02_Free_J1 x1.1
def R02_Free (a0 : Int × (List Int) × (List (Int × Int × Unit)) × Unit) : Option Int :=
  loop (R02_Free_L1 a0) (0, 0)
end Go.Proofs.YtiicmhholjpcbaaV
