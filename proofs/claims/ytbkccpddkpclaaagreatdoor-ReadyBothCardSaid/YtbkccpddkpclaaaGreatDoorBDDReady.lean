import Derived.Test.YtbkccpddkpclaaaGreatDoorBVcG1
namespace Go.Proofs.YtbkccpddkpclaaaGreatDoorV
abbrev tyA0 : Ty := (.pair (.pair (.int .i64) (.pair (.int .i64) (.pair (.int .i64) (.pair (.int .i64) .unit)))) (.pair (.int .i64) (.pair (.sl (.int .i64)) (.pair (.pair .bool (.pair (.sl (.int .i64)) .unit)) (.pair (.sl (.int .i64)) (.pair (.pair .bool (.pair (.sl (.int .i64)) .unit)) .unit))))))
abbrev tyA1 : Ty := (.pair (.sl (.pair (.int .i64) (.pair (.sl (.pair (.int .i64) (.pair (.int .i64) (.pair (.int .i64) (.pair (.int .i64) (.pair (.int .i64) .unit)))))) .unit))) (.pair (.sl (.pair (.int .i64) (.pair (.int .i64) (.pair (.int .i64) .unit)))) (.pair (.sl (.int .i64)) .unit)))
abbrev tzA2 : Type := ((Int × Int × Int × Int × Unit) × Int × (List Int) × (Bool × (List Int) × Unit) × (List Int) × (Bool × (List Int) × Unit) × Unit)
abbrev tyA3 : Ty := (.pair (.int .i64) .unit)
abbrev tzA4 : Type := ((Bool × Int × Unit) × ((List Int) × (List Int) × Unit) × Int × Unit)
abbrev tyA5 : Ty := (.pair (.pair .bool tyA3) (.pair (.pair (.sl (.int .i64)) (.pair (.sl (.int .i64)) .unit)) tyA3))
abbrev tzA6 : Type := (List (Int × (List (Int × Int × Int × Int × Int × Unit)) × Unit))
abbrev tyA7 : Ty := (.pair (.int .i64) (.pair (.int .i64) (.pair (.int .i64) tyA3)))
abbrev tzA8 : Type := (Int × Int × Int × Int × Unit)
abbrev tzA9 : Type := (List (Int × Int × Int × Unit))
abbrev tzA10 : Type := (List (Int × Int × Int × Int × Int × Unit))
abbrev tyA11 : Ty := (.pair (.sl (.int .i64)) .unit)
abbrev tyA12 : Ty := (.pair (.int .i64) (.pair (.sl tyA0) (.pair (.sl tyA5) tyA1)))
abbrev tyA13 : Ty := (.pair (.int .i64) (.pair (.sl (.pair (.int .i64) tyA7)) .unit))
abbrev tyA14 : Ty := (.pair (.int .i64) (.pair (.int .i64) tyA3))
abbrev tyA15 : Ty := (.pair (.int .i64) (.pair (.sl (.int .i64)) (.pair (.pair .bool tyA11) (.pair (.sl (.int .i64)) (.pair (.pair .bool tyA11) .unit)))))
abbrev tzA16 : Type := (Int × (List tzA2) × (List tzA4) × tzA6 × tzA9 × (List Int) × Unit)
abbrev tyA17 : Ty := (.pair (.sl (.int .i64)) tyA11)
abbrev tzA18 : Type := (tzA6 × Int × Int × Int × (List tzA2) × (List tzA4) × tzA6 × tzA9 × List Int × (List tzA8) × Int × (List tzA2) × (List tzA4) × tzA6 × tzA9 × List Int × (List tzA8))
abbrev tyA19 : Ty := (.pair (.int .i64) (.pair (.pair (.int .i64) tyA7) .unit))
abbrev tzA20 : Type := (tzA6 × Int × Int × tzA10 × Int × Int × Int × (List tzA2) × (List tzA4) × tzA6 × tzA9 × List Int × (List tzA8) × Int × (List tzA2) × (List tzA4) × tzA6 × tzA9 × List Int × Int × tzA10 × (List tzA8))
abbrev tyA21 : Ty := (.pair (.int .i64) (.pair (.int .i64) (.pair (.sl tyA14) .unit)))
abbrev tyA22 : Ty := (.pair (.sl tyA7) (.pair (.sl (.pair .bool tyA3)) (.pair (.sl (.int .u8)) (.pair (.sl tyA13) (.pair (.sl (.int .u8)) tyA3)))))
abbrev tzA23 : Type := ((List tzA2) × (List tzA4) × Int × tzA6 × Int × Int × (List tzA8) × (List (Bool × Int × Unit)) × List Int × tzA6 × List Int × Int × Int × Int × Int × tzA9 × tzA6)
abbrev tyA24 : Ty := (.sl (.pair (.int .i64) tyA7))
abbrev tzA25 : Type := (Bool × (List Int) × Unit)
abbrev tyA26 : Ty := (.pair tyA7 (.pair .bool .unit))
abbrev tyA27 : Ty := (.pair (.sl (.int .i64)) tyA3)
abbrev tyA28 : Ty := (.pair (.sl tyA5) (.pair (.int .i64) tyA3))
abbrev tyA29 : Ty := (.pair (.sl tyA0) (.pair (.int .i64) tyA3))
abbrev tzA30 : Type := ((List Int) × (List Int) × Unit)
abbrev tzA31 : Type := (Int × Int × Int × Int × Int × Unit)
abbrev tzA32 : Type := (List (Int × Int × Unit))
abbrev tyA33 : Ty := (.pair (.sl tyA0) (.pair (.sl tyA5) tyA1))
abbrev tyA34 : Ty := (.pair (.int .i64) (.pair tyA24 (.pair .bool .unit)))
set_option linter.unusedVariables false
def L18_To (a0 : tzA8 × Int × (List Int) × tzA25 × (List Int) × tzA25 × Unit) : Option tzA2 :=
  some a0
end Go.Proofs.YtbkccpddkpclaaaGreatDoorV
namespace Go.Proofs.YtbkccpddkpclaaaGreatDoorV
set_option linter.unusedVariables false
def L19_Small_J1 : Option Bool :=
  some true
def L19_Small_L1 (p1 : Int) (a0 : List tzA2) (k1 : Int → Option Bool) (x1 : Int) : Option Bool :=
  bif decide (x1 < p1) then
    chk (0 ≤ x1 ∧ x1 < (a0.length : Int)) <|
    bif decide (((a0.getD x1.toNat ((0, 0, 0, 0, ()), 0, [], (false, [], ()), [], (false, [], ()), ())).2.2.1.length : Int) > 20) then
      some false
    else
      bif decide (((a0.getD x1.toNat ((0, 0, 0, 0, ()), 0, [], (false, [], ()), [], (false, [], ()), ())).2.2.2.1.2.1.length : Int) > 20) then
        some false
      else
        bif decide (((a0.getD x1.toNat ((0, 0, 0, 0, ()), 0, [], (false, [], ()), [], (false, [], ()), ())).2.2.2.2.1.length : Int) > 20) then
          some false
        else
          bif decide (((a0.getD x1.toNat ((0, 0, 0, 0, ()), 0, [], (false, [], ()), [], (false, [], ()), ())).2.2.2.2.2.1.2.1.length : Int) > 20) then
            some false
          else
            k1 (IntKind.i64.wrap (x1 + 1))
  else
    L19_Small_J1
def L19_Small (a0 : List tzA2) : Option Bool :=
  bif decide ((a0.length : Int) > 10) then
    some false
  else
    loop (L19_Small_L1 (a0.length : Int) a0) 0
def L19_To_J1 (p1 : List tzA2) : Option (List tzA2) :=
  some p1
def L19_To_L1 (p2 : Int) (a0 : List tzA2) (k1 : (Int × (List tzA2)) → Option (List tzA2)) (x1 : Int × (List tzA2)) : Option (List tzA2) :=
  bif decide (x1.1 < p2) then
    chk (0 ≤ x1.1 ∧ x1.1 < (a0.length : Int)) <|
    Option.bind (L18_To (a0.getD x1.1.toNat ((0, 0, 0, 0, ()), 0, [], (false, [], ()), [], (false, [], ()), ()))) fun r1 =>
    chk (x1.2.length + ([r1] : List tzA2).length ≤ 4294967296) <|
    k1 (IntKind.i64.wrap (x1.1 + 1), x1.2 ++ [r1])
  else
    L19_To_J1 x1.2
def L19_To (a0 : List tzA2) : Option (List tzA2) :=
  loop (L19_To_L1 (a0.length : Int) a0) (0, [])
end Go.Proofs.YtbkccpddkpclaaaGreatDoorV
namespace Go.Proofs.YtbkccpddkpclaaaGreatDoorV
set_option linter.unusedVariables false
def R04_fine (a0 : Int) : Option Bool :=
  bif decide (a0 ≥ 0) then
    some (decide (a0 ≤ 255))
  else
    some false
def R04_Words_J1 (p1 : List Int) (p2 : List Int) : Option (List Int) :=
  some p2
def R04_Words_L1 (a0 : List Int) (p3 : List Int) (k1 : (Int × List Int) → Option (List Int)) (x1 : Int × List Int) : Option (List Int) :=
  bif decide (x1.1 < (a0.length : Int)) then
    chk (0 ≤ x1.1 ∧ x1.1 < (a0.length : Int)) <|
    Option.bind (R04_fine (a0.getD x1.1.toNat 0)) fun r1 =>
    bif r1 then
      chk (0 ≤ x1.1 ∧ x1.1 < (a0.length : Int)) <|
      chk ((64 : Int) ≠ 0) <|
      chk (0 ≤ (IntKind.i64.wrap (Int.tdiv (a0.getD x1.1.toNat 0) 64)) ∧ (IntKind.i64.wrap (Int.tdiv (a0.getD x1.1.toNat 0) 64)) < (4 : Int)) <|
      chk (0 ≤ x1.1 ∧ x1.1 < (a0.length : Int)) <|
      chk ((64 : Int) ≠ 0) <|
      chk (0 ≤ (IntKind.u64.wrap (Int.tmod (a0.getD x1.1.toNat 0) 64))) <|
      chk (0 ≤ (IntKind.i64.wrap (Int.tdiv (a0.getD x1.1.toNat 0) 64)) ∧ (IntKind.i64.wrap (Int.tdiv (a0.getD x1.1.toNat 0) 64)) < (4 : Int)) <|
      k1 (IntKind.i64.wrap (x1.1 + 1), x1.2.set (IntKind.i64.wrap (Int.tdiv (a0.getD x1.1.toNat 0) 64)).toNat (bitsOp .or .u64 (x1.2.getD (IntKind.i64.wrap (Int.tdiv (a0.getD x1.1.toNat 0) 64)).toNat 0) (IntKind.u64.wrap (1 * 2 ^ min (IntKind.u64.wrap (Int.tmod (a0.getD x1.1.toNat 0) 64)).toNat 64))))
    else
      k1 (IntKind.i64.wrap (x1.1 + 1), x1.2)
  else
    R04_Words_J1 p3 x1.2
def R04_Words (a0 : List Int) : Option (List Int) :=
  loop (R04_Words_L1 a0 (List.replicate 4 0)) (0, (List.replicate 4 0))
def R04_Has_J1 : Option Bool :=
  some false
def R04_Has_L1 (a0 : List Int) (a1 : Int) (k1 : Int → Option Bool) (x1 : Int) : Option Bool :=
  bif decide (x1 < (a0.length : Int)) then
    chk (0 ≤ x1 ∧ x1 < (a0.length : Int)) <|
    bif decide ((a0.getD x1.toNat 0) = a1) then
      some true
    else
      k1 (IntKind.i64.wrap (x1 + 1))
  else
    R04_Has_J1
def R04_Has (a0 : List Int) (a1 : Int) : Option Bool :=
  loop (R04_Has_L1 a0 a1) 0
def R04_Of_J1 (p1 : List Int) : Option (List Int) :=
  some p1
def R04_Of_L1 (a0 : List Int) (k1 : (Int × List Int) → Option (List Int)) (x1 : Int × List Int) : Option (List Int) :=
  bif decide (x1.1 ≤ 255) then
    Option.bind (R04_Has a0 x1.1) fun r1 =>
    bif r1 then
      chk (x1.2.length + ([x1.1] : List Int).length ≤ 4294967296) <|
      k1 (IntKind.i64.wrap (x1.1 + 1), x1.2 ++ [x1.1])
    else
      k1 (IntKind.i64.wrap (x1.1 + 1), x1.2)
  else
    R04_Of_J1 x1.2
def R04_Of (a0 : List Int) : Option (List Int) :=
  loop (R04_Of_L1 a0) (0, [])
def R04_Less_J1 (p1 : List Int) : Option (List Int) :=
  some p1
def R04_Less_L1 (a0 : List Int) (a1 : List Int) (k1 : (Int × List Int) → Option (List Int)) (x1 : Int × List Int) : Option (List Int) :=
  bif decide (x1.1 < (a0.length : Int)) then
    chk (0 ≤ x1.1 ∧ x1.1 < (a0.length : Int)) <|
    Option.bind (R04_Has a1 (a0.getD x1.1.toNat 0)) fun r1 =>
    bif !r1 then
      chk (0 ≤ x1.1 ∧ x1.1 < (a0.length : Int)) <|
      chk (x1.2.length + ([a0.getD x1.1.toNat 0] : List Int).length ≤ 4294967296) <|
      k1 (IntKind.i64.wrap (x1.1 + 1), x1.2 ++ [a0.getD x1.1.toNat 0])
    else
      k1 (IntKind.i64.wrap (x1.1 + 1), x1.2)
  else
    R04_Less_J1 x1.2
def R04_Less (a0 : List Int) (a1 : List Int) : Option (List Int) :=
  loop (R04_Less_L1 a0 a1) (0, [])
def R04_Add (a0 : List Int) (a1 : Int) : Option (List Int) :=
  chk (a0.length ≤ 4294967296) <|
  chk (a0.length + ([a1] : List Int).length ≤ 4294967296) <|
  Option.bind (R04_Of (a0 ++ [a1])) fun r1 =>
  some r1
end Go.Proofs.YtbkccpddkpclaaaGreatDoorV
namespace Go.Proofs.YtbkccpddkpclaaaGreatDoorV
set_option linter.unusedVariables false
def L21_To (a0 : (List Int) × (List Int) × Unit) : Option tzA30 :=
  Option.bind (R04_Words a0.1) fun r1 =>
  Option.bind (R04_Words a0.2.1) fun r2 =>
  some (r1, r2, ())
def L21_Plain (a0 : (List Int) × (List Int) × Unit) : Option tzA30 :=
  Option.bind (R04_Of a0.1) fun r1 =>
  Option.bind (R04_Of a0.2.1) fun r2 =>
  some (r1, r2, ())
end Go.Proofs.YtbkccpddkpclaaaGreatDoorV
namespace Go.Proofs.YtbkccpddkpclaaaGreatDoorV
set_option linter.unusedVariables false
def L22_Small (a0 : (Bool × Int × Unit) × tzA30 × Int × Unit) : Option Bool :=
  bif decide ((a0.2.1.1.length : Int) ≤ 40) then
    some (decide ((a0.2.1.2.1.length : Int) ≤ 40))
  else
    some false
def L22_To (a0 : (Bool × Int × Unit) × tzA30 × Int × Unit) : Option tzA4 :=
  Option.bind (L21_Plain a0.2.1) fun r1 =>
  Option.bind (L21_To r1) fun r2 =>
  some (a0.1, r2, a0.2.2.1, ())
def L22_Plain (a0 : (Bool × Int × Unit) × tzA30 × Int × Unit) : Option tzA4 :=
  Option.bind (L21_Plain a0.2.1) fun r1 =>
  some (a0.1, r1, a0.2.2.1, ())
end Go.Proofs.YtbkccpddkpclaaaGreatDoorV
namespace Go.Proofs.YtbkccpddkpclaaaGreatDoorV
set_option linter.unusedVariables false
def L23_Small_J1 (a0 : List tzA4) : Option Bool :=
  some (decide ((a0.length : Int) ≤ 10))
def L23_Small_L1 (p1 : Int) (a0 : List tzA4) (k1 : Int → Option Bool) (x1 : Int) : Option Bool :=
  bif decide (x1 < p1) then
    chk (0 ≤ x1 ∧ x1 < (a0.length : Int)) <|
    Option.bind (L22_Small (a0.getD x1.toNat ((false, 0, ()), ([], [], ()), 0, ()))) fun r1 =>
    bif !r1 then
      some false
    else
      k1 (IntKind.i64.wrap (x1 + 1))
  else
    L23_Small_J1 a0
def L23_Small (a0 : List tzA4) : Option Bool :=
  loop (L23_Small_L1 (a0.length : Int) a0) 0
def L23_To_J1 (p1 : List tzA4) : Option (List tzA4) :=
  some p1
def L23_To_L1 (p2 : Int) (a0 : List tzA4) (k1 : (Int × (List tzA4)) → Option (List tzA4)) (x1 : Int × (List tzA4)) : Option (List tzA4) :=
  bif decide (x1.1 < p2) then
    chk (0 ≤ x1.1 ∧ x1.1 < (a0.length : Int)) <|
    Option.bind (L22_To (a0.getD x1.1.toNat ((false, 0, ()), ([], [], ()), 0, ()))) fun r1 =>
    chk (x1.2.length + ([r1] : List tzA4).length ≤ 4294967296) <|
    k1 (IntKind.i64.wrap (x1.1 + 1), x1.2 ++ [r1])
  else
    L23_To_J1 x1.2
def L23_To (a0 : List tzA4) : Option (List tzA4) :=
  loop (L23_To_L1 (a0.length : Int) a0) (0, [])
def L23_Plain_J1 (p1 : List tzA4) : Option (List tzA4) :=
  some p1
def L23_Plain_L1 (p2 : Int) (a0 : List tzA4) (k1 : (Int × (List tzA4)) → Option (List tzA4)) (x1 : Int × (List tzA4)) : Option (List tzA4) :=
  bif decide (x1.1 < p2) then
    chk (0 ≤ x1.1 ∧ x1.1 < (a0.length : Int)) <|
    Option.bind (L22_Plain (a0.getD x1.1.toNat ((false, 0, ()), ([], [], ()), 0, ()))) fun r1 =>
    chk (x1.2.length + ([r1] : List tzA4).length ≤ 4294967296) <|
    k1 (IntKind.i64.wrap (x1.1 + 1), x1.2 ++ [r1])
  else
    L23_Plain_J1 x1.2
def L23_Plain (a0 : List tzA4) : Option (List tzA4) :=
  loop (L23_Plain_L1 (a0.length : Int) a0) (0, [])
end Go.Proofs.YtbkccpddkpclaaaGreatDoorV
namespace Go.Proofs.YtbkccpddkpclaaaGreatDoorV
set_option linter.unusedVariables false
def R02_Same_J1 : Option Bool :=
  some true
def R02_Same_L1 (a0 : List Int) (a1 : List Int) (k1 : Int → Option Bool) (x1 : Int) : Option Bool :=
  bif decide (x1 < (a0.length : Int)) then
    chk (0 ≤ x1 ∧ x1 < (a0.length : Int)) <|
    chk (0 ≤ x1 ∧ x1 < (a1.length : Int)) <|
    bif !decide ((a0.getD x1.toNat 0) = (a1.getD x1.toNat 0)) then
      some false
    else
      k1 (IntKind.i64.wrap (x1 + 1))
  else
    R02_Same_J1
def R02_Same (a0 : List Int) (a1 : List Int) : Option Bool :=
  bif !decide ((a0.length : Int) = (a1.length : Int)) then
    some false
  else
    loop (R02_Same_L1 a0 a1) 0
end Go.Proofs.YtbkccpddkpclaaaGreatDoorV
namespace Go.Proofs.YtbkccpddkpclaaaGreatDoorV
set_option linter.unusedVariables false
def R05_Fine (a0 : Int) : Option Bool :=
  bif decide (a0 ≥ 0) then
    some (decide (a0 ≤ 1099511627776))
  else
    some false
def R05_Due (a0 : Int) (a1 : Int) : Option Bool :=
  Option.bind (R05_Fine a0) fun r1 =>
  bif r1 then
    Option.bind (R05_Fine a1) fun r2 =>
    bif r2 then
      some (decide (a0 ≥ a1))
    else
      some false
  else
    some false
end Go.Proofs.YtbkccpddkpclaaaGreatDoorV
namespace Go.Proofs.YtbkccpddkpclaaaGreatDoorV
set_option linter.unusedVariables false
def R06_New (a0 : Int) : Option ((Int × Int × tzA9 × Unit) × Int × Unit) :=
  bif decide (a0 < 0) then
    some ((0, 0, [], ()), 1, ())
  else
    bif decide (a0 > 1024) then
      some ((0, 0, [], ()), 1, ())
    else
      some ((a0, 0, [], ()), 0, ())
def R06_Add_J1 (a0 : Int × Int × tzA9 × Unit) (a1 : Int) (a2 : Int) (p1 : Int) (p2 : Int) : Option ((Int × Int × tzA9 × Unit) × Int × Int × Unit) :=
  chk (0 ≤ (0 : Int) ∧ (0 : Int) ≤ p1 ∧ p1 ≤ (a0.2.2.1.length : Int)) <|
  chk (((a0.2.2.1.take p1.toNat).drop (0 : Int).toNat).length ≤ 4294967296) <|
  letv ((a0.2.2.1.take p1.toNat).drop (0 : Int).toNat) fun l1 =>
  chk (l1.length + ([(a1, p2, a2, ())] : List (Int × Int × Int × Unit)).length ≤ 4294967296) <|
  chk (0 ≤ p1 ∧ p1 ≤ (a0.2.2.1.length : Int) ∧ (a0.2.2.1.length : Int) ≤ (a0.2.2.1.length : Int)) <|
  chk ((l1 ++ [(a1, p2, a2, ())]).length + ((a0.2.2.1.take (a0.2.2.1.length : Int).toNat).drop p1.toNat).length ≤ 4294967296) <|
  letv ((l1 ++ [(a1, p2, a2, ())]) ++ ((a0.2.2.1.take (a0.2.2.1.length : Int).toNat).drop p1.toNat)) fun l2 =>
  some ((a0.1, p2, l2, ()), p2, 0, ())
def R06_Add_L1 (a0 : Int × Int × tzA9 × Unit) (a1 : Int) (a2 : Int) (p3 : Int) (k1 : Int → Option ((Int × Int × tzA9 × Unit) × Int × Int × Unit)) (x1 : Int) : Option ((Int × Int × tzA9 × Unit) × Int × Int × Unit) :=
  bif decide (x1 < (a0.2.2.1.length : Int)) then
    chk (0 ≤ x1 ∧ x1 < (a0.2.2.1.length : Int)) <|
    bif decide ((a0.2.2.1.getD x1.toNat (0, 0, 0, ())).1 ≤ a1) then
      k1 (IntKind.i64.wrap (x1 + 1))
    else
      R06_Add_J1 a0 a1 a2 x1 p3
  else
    R06_Add_J1 a0 a1 a2 x1 p3
def R06_Add (a0 : Int × Int × tzA9 × Unit) (a1 : Int) (a2 : Int) : Option ((Int × Int × tzA9 × Unit) × Int × Int × Unit) :=
  Option.bind (R05_Fine a1) fun r1 =>
  bif !r1 then
    some (a0, 0, 8, ())
  else
    bif decide ((a0.2.2.1.length : Int) = a0.1) then
      some (a0, 0, 10, ())
    else
      loop (R06_Add_L1 a0 a1 a2 (IntKind.i64.wrap (a0.2.1 + 1))) 0
end Go.Proofs.YtbkccpddkpclaaaGreatDoorV
namespace Go.Proofs.YtbkccpddkpclaaaGreatDoorV
set_option linter.unusedVariables false
def R17_At_J1 : Option Int :=
  some (-1)
def R17_At_L1 (a0 : List Int) (a1 : Int) (k1 : Int → Option Int) (x1 : Int) : Option Int :=
  bif decide (x1 < (a0.length : Int)) then
    chk (0 ≤ x1 ∧ x1 < (a0.length : Int)) <|
    bif decide ((a0.getD x1.toNat 0) = a1) then
      some x1
    else
      k1 (IntKind.i64.wrap (x1 + 1))
  else
    R17_At_J1
def R17_At (a0 : List Int) (a1 : Int) : Option Int :=
  loop (R17_At_L1 a0 a1) 0
def R17_Fine_J1 (a0 : Bool × (List Int) × Unit) : Option Bool :=
  bif a0.1 then
    some true
  else
    some (decide ((a0.2.1.length : Int) < 2))
def R17_Fine_L1 (a0 : Bool × (List Int) × Unit) (k1 : Int → Option Bool) (x1 : Int) : Option Bool :=
  bif decide (x1 < (a0.2.1.length : Int)) then
    chk (0 ≤ x1 ∧ x1 < (a0.2.1.length : Int)) <|
    bif decide ((a0.2.1.getD x1.toNat 0) < 0) then
      some false
    else
      chk (0 ≤ x1 ∧ x1 < (a0.2.1.length : Int)) <|
      bif decide ((a0.2.1.getD x1.toNat 0) > 15) then
        some false
      else
        chk (0 ≤ x1 ∧ x1 < (a0.2.1.length : Int)) <|
        Option.bind (R17_At a0.2.1 (a0.2.1.getD x1.toNat 0)) fun r1 =>
        bif !decide (r1 = x1) then
          some false
        else
          k1 (IntKind.i64.wrap (x1 + 1))
  else
    R17_Fine_J1 a0
def R17_Fine (a0 : Bool × (List Int) × Unit) : Option Bool :=
  loop (R17_Fine_L1 a0) 0
def R17_Join (a0 : Bool × (List Int) × Unit) (a1 : Int) : Option (tzA25 × Int × Unit) :=
  Option.bind (R17_Fine a0) fun r1 =>
  bif !r1 then
    some (a0, 1, ())
  else
    bif decide (a1 < 0) then
      some (a0, 8, ())
    else
      bif decide (a1 > 15) then
        some (a0, 8, ())
      else
        Option.bind (R17_At a0.2.1 a1) fun r2 =>
        bif decide (r2 ≥ 0) then
          some (a0, 7, ())
        else
          bif decide ((a0.2.1.length : Int) > 0) then
            bif !a0.1 then
              some (a0, 15, ())
            else
              chk (a0.2.1.length ≤ 4294967296) <|
              chk (a0.2.1.length + ([a1] : List Int).length ≤ 4294967296) <|
              some ((a0.1, a0.2.1 ++ [a1], ()), 0, ())
          else
            chk (a0.2.1.length ≤ 4294967296) <|
            chk (a0.2.1.length + ([a1] : List Int).length ≤ 4294967296) <|
            some ((a0.1, a0.2.1 ++ [a1], ()), 0, ())
end Go.Proofs.YtbkccpddkpclaaaGreatDoorV
namespace Go.Proofs.YtbkccpddkpclaaaGreatDoorV
set_option linter.unusedVariables false
def poison_Fine (a0 : Int) : Option Bool :=
  bif decide (a0 ≥ 0) then
    some (decide (a0 ≤ 255))
  else
    some false
def word_Fine (a0 : Int) : Option Bool :=
  bif decide (a0 ≥ (-2147483648)) then
    some (decide (a0 ≤ 2147483647))
  else
    some false
def poison_Hit (a0 : Int) (a1 : Int) : Option Bool :=
  Option.bind (poison_Fine a0) fun r1 =>
  bif r1 then
    Option.bind (poison_Fine a1) fun r2 =>
    bif r2 then
      some (decide (a0 > a1))
    else
      some false
  else
    some false
def R16_Fine (a0 : Int) : Option Bool :=
  bif decide (a0 ≥ 0) then
    some (decide (a0 ≤ 255))
  else
    some false
def R08_Fine (a0 : Int) : Option Bool :=
  bif decide (a0 ≥ (-2147483648)) then
    some (decide (a0 ≤ 2147483647))
  else
    some false
def R16_Hit (a0 : Int) (a1 : Int) : Option Bool :=
  Option.bind (R16_Fine a0) fun r1 =>
  bif r1 then
    Option.bind (R16_Fine a1) fun r2 =>
    bif r2 then
      some (decide (a1 < a0))
    else
      some false
  else
    some false
def R16_Raise (a0 : Int) (a1 : Int) : Option (Int × Int × Unit) :=
  Option.bind (R16_Fine a0) fun r1 =>
  bif !r1 then
    some (0, 8, ())
  else
    bif decide (a1 < 1) then
      some (0, 8, ())
    else
      bif decide (a1 > 255) then
        some (0, 8, ())
      else
        bif decide (a1 > a0) then
          some (a1, 0, ())
        else
          some (a0, 0, ())
end Go.Proofs.YtbkccpddkpclaaaGreatDoorV
namespace Go.Proofs.YtbkccpddkpclaaaGreatDoorV
set_option linter.unusedVariables false
def R18_Check (a0 : Int × Int × Int × Int × Unit) : Option Int :=
  bif decide (a0.1 < 0) then
    some 12
  else
    bif decide (a0.1 > 3) then
      some 12
    else
      bif decide (a0.2.1 < 0) then
        some 8
      else
        bif decide (a0.2.1 > 8) then
          some 8
        else
          Option.bind (R16_Fine a0.2.2.1) fun r1 =>
          bif !r1 then
            some 8
          else
            Option.bind (R16_Fine a0.2.2.2.1) fun r2 =>
            bif !r2 then
              some 8
            else
              some 0
def R18_New (a0 : Int × Int × Int × Int × Unit) : Option (tzA2 × Int × Unit) :=
  Option.bind (R18_Check a0) fun r1 =>
  bif !decide (r1 = 0) then
    some (((0, 0, 0, 0, ()), 0, [], (false, [], ()), [], (false, [], ()), ()), r1, ())
  else
    bif decide (a0.1 = 1) then
      some ((a0, 0, [], (true, [], ()), [], (decide (a0.1 ≥ 2), [], ()), ()), 0, ())
    else
      some ((a0, 0, [], (decide (a0.1 = 3), [], ()), [], (decide (a0.1 ≥ 2), [], ()), ()), 0, ())
def R18_words_J1 : Option Bool :=
  some true
def R18_words_L1 (a0 : List Int) (k1 : Int → Option Bool) (x1 : Int) : Option Bool :=
  bif decide (x1 < (a0.length : Int)) then
    chk (0 ≤ x1 ∧ x1 < (a0.length : Int)) <|
    Option.bind (R08_Fine (a0.getD x1.toNat 0)) fun r1 =>
    bif !r1 then
      some false
    else
      k1 (IntKind.i64.wrap (x1 + 1))
  else
    R18_words_J1
def R18_words (a0 : List Int) : Option Bool :=
  loop (R18_words_L1 a0) 0
def R18_Fine (a0 : tzA8 × Int × (List Int) × tzA25 × (List Int) × tzA25 × Unit) : Option Bool :=
  Option.bind (R18_New a0.1) fun r1 =>
  bif !decide (r1.2.1 = 0) then
    some false
  else
    Option.bind (R16_Fine a0.2.1) fun r2 =>
    bif !r2 then
      some false
    else
      Option.bind (R18_words a0.2.2.1) fun r3 =>
      bif !r3 then
        some false
      else
        Option.bind (R18_words a0.2.2.2.2.1) fun r4 =>
        bif !r4 then
          some false
        else
          bif decide ((a0.2.2.1.length : Int) > a0.1.2.1) then
            some false
          else
            bif !decide ((a0.2.2.2.2.1.length : Int) = (a0.2.2.2.1.2.1.length : Int)) then
              some false
            else
              Option.bind (R17_Fine a0.2.2.2.1) fun r5 =>
              bif r5 then
                Option.bind (R17_Fine a0.2.2.2.2.2.1) fun r6 =>
                bif r6 then
                  bif a0.2.2.2.1.1 == r1.1.2.2.2.1.1 then
                    some (a0.2.2.2.2.2.1.1 == r1.1.2.2.2.2.2.1.1)
                  else
                    some false
                else
                  some false
              else
                some false
def R18_Recv (a0 : tzA8 × Int × (List Int) × tzA25 × (List Int) × tzA25 × Unit) (a1 : Int) : Option (tzA2 × Int × Unit) :=
  Option.bind (R18_Fine a0) fun r1 =>
  bif !r1 then
    some (a0, 1, ())
  else
    Option.bind (R17_Join a0.2.2.2.2.2.1 a1) fun r2 =>
    bif !decide (r2.2.1 = 0) then
      some (a0, r2.2.1, ())
    else
      some ((a0.1, a0.2.1, a0.2.2.1, a0.2.2.2.1, a0.2.2.2.2.1, r2.1, ()), 0, ())
def R18_Send (a0 : tzA8 × Int × (List Int) × tzA25 × (List Int) × tzA25 × Unit) (a1 : Int) (a2 : Int) : Option (tzA2 × Int × Unit) :=
  Option.bind (R18_Fine a0) fun r1 =>
  bif !r1 then
    some (a0, 1, ())
  else
    Option.bind (R08_Fine a2) fun r2 =>
    bif !r2 then
      some (a0, 8, ())
    else
      Option.bind (R17_Join a0.2.2.2.1 a1) fun r3 =>
      bif !decide (r3.2.1 = 0) then
        some (a0, r3.2.1, ())
      else
        chk (a0.2.2.2.2.1.length ≤ 4294967296) <|
        chk (a0.2.2.2.2.1.length + ([a2] : List Int).length ≤ 4294967296) <|
        some ((a0.1, a0.2.1, a0.2.2.1, r3.1, a0.2.2.2.2.1 ++ [a2], a0.2.2.2.2.2.1, ()), 0, ())
def R18_InHit (a0 : tzA8 × Int × (List Int) × tzA25 × (List Int) × tzA25 × Unit) : Option Bool :=
  Option.bind (R16_Hit a0.2.1 a0.1.2.2.1) fun r1 =>
  some r1
def R18_OutHit (a0 : tzA8 × Int × (List Int) × tzA25 × (List Int) × tzA25 × Unit) : Option Bool :=
  Option.bind (R16_Hit a0.2.1 a0.1.2.2.2.1) fun r1 =>
  some r1
def R18_What (a0 : tzA8 × Int × (List Int) × tzA25 × (List Int) × tzA25 × Unit) : Option (List Int) :=
  Option.bind (R18_Fine a0) fun r1 =>
  bif !r1 then
    some []
  else
    bif decide ((a0.2.2.2.1.2.1.length : Int) > 0) then
      Option.bind (R18_OutHit a0) fun r2 =>
      bif decide ((a0.2.2.2.2.2.1.2.1.length : Int) > 0) then
        Option.bind (R18_InHit a0) fun r3 =>
        bif decide (a0.1.2.1 = 0) then
          bif !r2 then
            bif !r3 then
              chk (([1] : List Int).length ≤ 4294967296) <|
              bif decide (a0.1.2.1 > 0) then
                bif !r2 then
                  bif decide ((a0.2.2.1.length : Int) < a0.1.2.1) then
                    chk (([1] : List Int).length + ([2] : List Int).length ≤ 4294967296) <|
                    bif decide (a0.1.2.1 > 0) then
                      bif !r3 then
                        bif decide ((a0.2.2.1.length : Int) > 0) then
                          chk (([1] ++ [2] : List Int).length + ([3] : List Int).length ≤ 4294967296) <|
                          some (([1] ++ [2]) ++ [3])
                        else
                          some ([1] ++ [2])
                      else
                        some ([1] ++ [2])
                    else
                      some ([1] ++ [2])
                  else
                    bif decide (a0.1.2.1 > 0) then
                      bif !r3 then
                        bif decide ((a0.2.2.1.length : Int) > 0) then
                          chk (([1] : List Int).length + ([3] : List Int).length ≤ 4294967296) <|
                          some ([1] ++ [3])
                        else
                          some [1]
                      else
                        some [1]
                    else
                      some [1]
                else
                  bif decide (a0.1.2.1 > 0) then
                    bif !r3 then
                      bif decide ((a0.2.2.1.length : Int) > 0) then
                        chk (([1] : List Int).length + ([3] : List Int).length ≤ 4294967296) <|
                        some ([1] ++ [3])
                      else
                        some [1]
                    else
                      some [1]
                  else
                    some [1]
              else
                bif decide (a0.1.2.1 > 0) then
                  bif !r3 then
                    bif decide ((a0.2.2.1.length : Int) > 0) then
                      chk (([1] : List Int).length + ([3] : List Int).length ≤ 4294967296) <|
                      some ([1] ++ [3])
                    else
                      some [1]
                  else
                    some [1]
                else
                  some [1]
            else
              bif decide (a0.1.2.1 > 0) then
                bif !r2 then
                  bif decide ((a0.2.2.1.length : Int) < a0.1.2.1) then
                    chk (([2] : List Int).length ≤ 4294967296) <|
                    bif decide (a0.1.2.1 > 0) then
                      bif !r3 then
                        bif decide ((a0.2.2.1.length : Int) > 0) then
                          chk (([2] : List Int).length + ([3] : List Int).length ≤ 4294967296) <|
                          some ([2] ++ [3])
                        else
                          some [2]
                      else
                        some [2]
                    else
                      some [2]
                  else
                    bif decide (a0.1.2.1 > 0) then
                      bif !r3 then
                        bif decide ((a0.2.2.1.length : Int) > 0) then
                          chk (([3] : List Int).length ≤ 4294967296) <|
                          some [3]
                        else
                          some []
                      else
                        some []
                    else
                      some []
                else
                  bif decide (a0.1.2.1 > 0) then
                    bif !r3 then
                      bif decide ((a0.2.2.1.length : Int) > 0) then
                        chk (([3] : List Int).length ≤ 4294967296) <|
                        some [3]
                      else
                        some []
                    else
                      some []
                  else
                    some []
              else
                bif decide (a0.1.2.1 > 0) then
                  bif !r3 then
                    bif decide ((a0.2.2.1.length : Int) > 0) then
                      chk (([3] : List Int).length ≤ 4294967296) <|
                      some [3]
                    else
                      some []
                  else
                    some []
                else
                  some []
          else
            bif decide (a0.1.2.1 > 0) then
              bif !r2 then
                bif decide ((a0.2.2.1.length : Int) < a0.1.2.1) then
                  chk (([2] : List Int).length ≤ 4294967296) <|
                  bif decide (a0.1.2.1 > 0) then
                    bif !r3 then
                      bif decide ((a0.2.2.1.length : Int) > 0) then
                        chk (([2] : List Int).length + ([3] : List Int).length ≤ 4294967296) <|
                        some ([2] ++ [3])
                      else
                        some [2]
                    else
                      some [2]
                  else
                    some [2]
                else
                  bif decide (a0.1.2.1 > 0) then
                    bif !r3 then
                      bif decide ((a0.2.2.1.length : Int) > 0) then
                        chk (([3] : List Int).length ≤ 4294967296) <|
                        some [3]
                      else
                        some []
                    else
                      some []
                  else
                    some []
              else
                bif decide (a0.1.2.1 > 0) then
                  bif !r3 then
                    bif decide ((a0.2.2.1.length : Int) > 0) then
                      chk (([3] : List Int).length ≤ 4294967296) <|
                      some [3]
                    else
                      some []
                  else
                    some []
                else
                  some []
            else
              bif decide (a0.1.2.1 > 0) then
                bif !r3 then
                  bif decide ((a0.2.2.1.length : Int) > 0) then
                    chk (([3] : List Int).length ≤ 4294967296) <|
                    some [3]
                  else
                    some []
                else
                  some []
              else
                some []
        else
          bif decide (a0.1.2.1 > 0) then
            bif !r2 then
              bif decide ((a0.2.2.1.length : Int) < a0.1.2.1) then
                chk (([2] : List Int).length ≤ 4294967296) <|
                bif decide (a0.1.2.1 > 0) then
                  bif !r3 then
                    bif decide ((a0.2.2.1.length : Int) > 0) then
                      chk (([2] : List Int).length + ([3] : List Int).length ≤ 4294967296) <|
                      some ([2] ++ [3])
                    else
                      some [2]
                  else
                    some [2]
                else
                  some [2]
              else
                bif decide (a0.1.2.1 > 0) then
                  bif !r3 then
                    bif decide ((a0.2.2.1.length : Int) > 0) then
                      chk (([3] : List Int).length ≤ 4294967296) <|
                      some [3]
                    else
                      some []
                  else
                    some []
                else
                  some []
            else
              bif decide (a0.1.2.1 > 0) then
                bif !r3 then
                  bif decide ((a0.2.2.1.length : Int) > 0) then
                    chk (([3] : List Int).length ≤ 4294967296) <|
                    some [3]
                  else
                    some []
                else
                  some []
              else
                some []
          else
            bif decide (a0.1.2.1 > 0) then
              bif !r3 then
                bif decide ((a0.2.2.1.length : Int) > 0) then
                  chk (([3] : List Int).length ≤ 4294967296) <|
                  some [3]
                else
                  some []
              else
                some []
            else
              some []
      else
        bif decide (a0.1.2.1 = 0) then
          bif !r2 then
            bif decide (a0.1.2.1 > 0) then
              bif !r2 then
                bif decide ((a0.2.2.1.length : Int) < a0.1.2.1) then
                  chk (([2] : List Int).length ≤ 4294967296) <|
                  bif decide (a0.1.2.1 > 0) then
                    some [2]
                  else
                    some [2]
                else
                  bif decide (a0.1.2.1 > 0) then
                    some []
                  else
                    some []
              else
                bif decide (a0.1.2.1 > 0) then
                  some []
                else
                  some []
            else
              bif decide (a0.1.2.1 > 0) then
                some []
              else
                some []
          else
            bif decide (a0.1.2.1 > 0) then
              bif !r2 then
                bif decide ((a0.2.2.1.length : Int) < a0.1.2.1) then
                  chk (([2] : List Int).length ≤ 4294967296) <|
                  bif decide (a0.1.2.1 > 0) then
                    some [2]
                  else
                    some [2]
                else
                  bif decide (a0.1.2.1 > 0) then
                    some []
                  else
                    some []
              else
                bif decide (a0.1.2.1 > 0) then
                  some []
                else
                  some []
            else
              bif decide (a0.1.2.1 > 0) then
                some []
              else
                some []
        else
          bif decide (a0.1.2.1 > 0) then
            bif !r2 then
              bif decide ((a0.2.2.1.length : Int) < a0.1.2.1) then
                chk (([2] : List Int).length ≤ 4294967296) <|
                bif decide (a0.1.2.1 > 0) then
                  some [2]
                else
                  some [2]
              else
                bif decide (a0.1.2.1 > 0) then
                  some []
                else
                  some []
            else
              bif decide (a0.1.2.1 > 0) then
                some []
              else
                some []
          else
            bif decide (a0.1.2.1 > 0) then
              some []
            else
              some []
    else
      bif decide ((a0.2.2.2.2.2.1.2.1.length : Int) > 0) then
        Option.bind (R18_InHit a0) fun r4 =>
        bif decide (a0.1.2.1 = 0) then
          bif decide (a0.1.2.1 > 0) then
            bif decide (a0.1.2.1 > 0) then
              bif !r4 then
                bif decide ((a0.2.2.1.length : Int) > 0) then
                  chk (([3] : List Int).length ≤ 4294967296) <|
                  some [3]
                else
                  some []
              else
                some []
            else
              some []
          else
            bif decide (a0.1.2.1 > 0) then
              bif !r4 then
                bif decide ((a0.2.2.1.length : Int) > 0) then
                  chk (([3] : List Int).length ≤ 4294967296) <|
                  some [3]
                else
                  some []
              else
                some []
            else
              some []
        else
          bif decide (a0.1.2.1 > 0) then
            bif decide (a0.1.2.1 > 0) then
              bif !r4 then
                bif decide ((a0.2.2.1.length : Int) > 0) then
                  chk (([3] : List Int).length ≤ 4294967296) <|
                  some [3]
                else
                  some []
              else
                some []
            else
              some []
          else
            bif decide (a0.1.2.1 > 0) then
              bif !r4 then
                bif decide ((a0.2.2.1.length : Int) > 0) then
                  chk (([3] : List Int).length ≤ 4294967296) <|
                  some [3]
                else
                  some []
              else
                some []
            else
              some []
      else
        bif decide (a0.1.2.1 = 0) then
          bif decide (a0.1.2.1 > 0) then
            bif decide (a0.1.2.1 > 0) then
              some []
            else
              some []
          else
            bif decide (a0.1.2.1 > 0) then
              some []
            else
              some []
        else
          bif decide (a0.1.2.1 > 0) then
            bif decide (a0.1.2.1 > 0) then
              some []
            else
              some []
          else
            bif decide (a0.1.2.1 > 0) then
              some []
            else
              some []
def R18_Poison (a0 : tzA8 × Int × (List Int) × tzA25 × (List Int) × tzA25 × Unit) (a1 : Int) : Option (tzA2 × Int × Unit) :=
  Option.bind (R18_Fine a0) fun r1 =>
  bif !r1 then
    some (a0, 1, ())
  else
    Option.bind (R16_Raise a0.2.1 a1) fun r2 =>
    bif !decide (r2.2.1 = 0) then
      some (a0, r2.2.1, ())
    else
      some ((a0.1, r2.1, a0.2.2.1, a0.2.2.2.1, a0.2.2.2.2.1, a0.2.2.2.2.2.1, ()), 0, ())
end Go.Proofs.YtbkccpddkpclaaaGreatDoorV
namespace Go.Proofs.YtbkccpddkpclaaaGreatDoorV
set_option linter.unusedVariables false
def R19_New_J1 (p1 : List tzA2) : Option ((List tzA2) × Int × Int × Unit) :=
  some (p1, 0, 0, ())
def R19_New_L1 (a0 : List tzA8) (k1 : (Int × (List tzA2)) → Option ((List tzA2) × Int × Int × Unit)) (x1 : Int × (List tzA2)) : Option ((List tzA2) × Int × Int × Unit) :=
  bif decide (x1.1 < (a0.length : Int)) then
    chk (0 ≤ x1.1 ∧ x1.1 < (a0.length : Int)) <|
    Option.bind (R18_New (a0.getD x1.1.toNat (0, 0, 0, 0, ()))) fun r1 =>
    bif !decide (r1.2.1 = 0) then
      some ([], x1.1, r1.2.1, ())
    else
      chk (x1.2.length + ([r1.1] : List tzA2).length ≤ 4294967296) <|
      k1 (IntKind.i64.wrap (x1.1 + 1), x1.2 ++ [r1.1])
  else
    R19_New_J1 x1.2
def R19_New (a0 : List tzA8) : Option ((List tzA2) × Int × Int × Unit) :=
  bif decide ((a0.length : Int) > 8) then
    some ([], 8, 5, ())
  else
    loop (R19_New_L1 a0) (0, [])
def R19_Is (a0 : List tzA2) (a1 : Int) : Option Bool :=
  bif decide (a1 ≥ 0) then
    some (decide (a1 < (a0.length : Int)))
  else
    some false
def R19_put (a0 : List tzA2) (a1 : Int) (a2 : tzA8 × Int × (List Int) × tzA25 × (List Int) × tzA25 × Unit) : Option (List tzA2) :=
  chk (a0.length ≤ 4294967296) <|
  chk (0 ≤ a1 ∧ a1 < (a0.length : Int)) <|
  some (a0.set a1.toNat a2)
def R19_Offer_J1 (p1 : List tzA2) : Option ((List tzA2) × Int × Int × Unit) :=
  some (p1, 0, 0, ())
def R19_Offer_J2 (a0 : List tzA2) (x1 : (List tzA2) × Int) (a2 : List tzA31) (k1 : ((List tzA2) × Int) → Option ((List tzA2) × Int × Int × Unit)) (p2 : Int) (p3 : Int) (p4 : Int) (p5 : Int) (p6 : Int) (p7 : Int) (p8 : List Int) (p9 : Bool) (p10 : List Int) (p11 : List Int) (p12 : Bool) (p13 : List Int) : Option ((List tzA2) × Int × Int × Unit) :=
  bif !decide (p2 = 0) then
    some (a0, x1.2, p2, ())
  else
    Option.bind (R19_put x1.1 (a2.getD x1.2.toNat (0, 0, 0, 0, 0, ())).2.1 ((p3, p4, p5, p6, ()), p7, p8, (p9, p10, ()), p11, (p12, p13, ()), ())) fun r3 =>
    k1 (r3, IntKind.i64.wrap (x1.2 + 1))
def R19_Offer_J3 (a2 : List tzA31) (x1 : (List tzA2) × Int) (a1 : Int) (a0 : List tzA2) (k1 : ((List tzA2) × Int) → Option ((List tzA2) × Int × Int × Unit)) : Option ((List tzA2) × Int × Int × Unit) :=
  chk (0 ≤ (a2.getD x1.2.toNat (0, 0, 0, 0, 0, ())).2.1 ∧ (a2.getD x1.2.toNat (0, 0, 0, 0, 0, ())).2.1 < (x1.1.length : Int)) <|
  Option.bind (R18_Recv (x1.1.getD (a2.getD x1.2.toNat (0, 0, 0, 0, 0, ())).2.1.toNat ((0, 0, 0, 0, ()), 0, [], (false, [], ()), [], (false, [], ()), ())) a1) fun r2 =>
  bif decide ((a2.getD x1.2.toNat (0, 0, 0, 0, 0, ())).1 = 2) then
    chk (0 ≤ (a2.getD x1.2.toNat (0, 0, 0, 0, 0, ())).2.1 ∧ (a2.getD x1.2.toNat (0, 0, 0, 0, 0, ())).2.1 < (x1.1.length : Int)) <|
    Option.bind (R18_Send (x1.1.getD (a2.getD x1.2.toNat (0, 0, 0, 0, 0, ())).2.1.toNat ((0, 0, 0, 0, ()), 0, [], (false, [], ()), [], (false, [], ()), ())) a1 (a2.getD x1.2.toNat (0, 0, 0, 0, 0, ())).2.2.1) fun r4 =>
    R19_Offer_J2 a0 x1 a2 k1 r4.2.1 r4.1.1.1 r4.1.1.2.1 r4.1.1.2.2.1 r4.1.1.2.2.2.1 r4.1.2.1 r4.1.2.2.1 r4.1.2.2.2.1.1 r4.1.2.2.2.1.2.1 r4.1.2.2.2.2.1 r4.1.2.2.2.2.2.1.1 r4.1.2.2.2.2.2.1.2.1
  else
    R19_Offer_J2 a0 x1 a2 k1 r2.2.1 r2.1.1.1 r2.1.1.2.1 r2.1.1.2.2.1 r2.1.1.2.2.2.1 r2.1.2.1 r2.1.2.2.1 r2.1.2.2.2.1.1 r2.1.2.2.2.1.2.1 r2.1.2.2.2.2.1 r2.1.2.2.2.2.2.1.1 r2.1.2.2.2.2.2.1.2.1
def R19_Offer_J4 (a0 : List tzA2) (a2 : List tzA31) (x1 : (List tzA2) × Int) (a3 : Bool) (a1 : Int) (k1 : ((List tzA2) × Int) → Option ((List tzA2) × Int × Int × Unit)) : Option ((List tzA2) × Int × Int × Unit) :=
  Option.bind (R19_Is a0 (a2.getD x1.2.toNat (0, 0, 0, 0, 0, ())).2.1) fun r1 =>
  bif !r1 then
    some (a0, x1.2, 8, ())
  else
    bif a3 then
      bif decide ((a2.getD x1.2.toNat (0, 0, 0, 0, 0, ())).1 = 1) then
        chk (0 ≤ (a2.getD x1.2.toNat (0, 0, 0, 0, 0, ())).2.1 ∧ (a2.getD x1.2.toNat (0, 0, 0, 0, 0, ())).2.1 < (x1.1.length : Int)) <|
        bif (x1.1.getD (a2.getD x1.2.toNat (0, 0, 0, 0, 0, ())).2.1.toNat ((0, 0, 0, 0, ()), 0, [], (false, [], ()), [], (false, [], ()), ())).2.2.2.2.2.1.1 then
          some (a0, x1.2, 12, ())
        else
          bif decide ((a2.getD x1.2.toNat (0, 0, 0, 0, 0, ())).1 = 2) then
            chk (0 ≤ (a2.getD x1.2.toNat (0, 0, 0, 0, 0, ())).2.1 ∧ (a2.getD x1.2.toNat (0, 0, 0, 0, 0, ())).2.1 < (x1.1.length : Int)) <|
            bif (x1.1.getD (a2.getD x1.2.toNat (0, 0, 0, 0, 0, ())).2.1.toNat ((0, 0, 0, 0, ()), 0, [], (false, [], ()), [], (false, [], ()), ())).2.2.2.1.1 then
              some (a0, x1.2, 12, ())
            else
              R19_Offer_J3 a2 x1 a1 a0 k1
          else
            R19_Offer_J3 a2 x1 a1 a0 k1
      else
        bif decide ((a2.getD x1.2.toNat (0, 0, 0, 0, 0, ())).1 = 2) then
          chk (0 ≤ (a2.getD x1.2.toNat (0, 0, 0, 0, 0, ())).2.1 ∧ (a2.getD x1.2.toNat (0, 0, 0, 0, 0, ())).2.1 < (x1.1.length : Int)) <|
          bif (x1.1.getD (a2.getD x1.2.toNat (0, 0, 0, 0, 0, ())).2.1.toNat ((0, 0, 0, 0, ()), 0, [], (false, [], ()), [], (false, [], ()), ())).2.2.2.1.1 then
            some (a0, x1.2, 12, ())
          else
            R19_Offer_J3 a2 x1 a1 a0 k1
        else
          R19_Offer_J3 a2 x1 a1 a0 k1
    else
      R19_Offer_J3 a2 x1 a1 a0 k1
def R19_Offer_L1 (a2 : List tzA31) (a0 : List tzA2) (a3 : Bool) (a1 : Int) (k1 : ((List tzA2) × Int) → Option ((List tzA2) × Int × Int × Unit)) (x1 : (List tzA2) × Int) : Option ((List tzA2) × Int × Int × Unit) :=
  bif decide (x1.2 < (a2.length : Int)) then
    chk (0 ≤ x1.2 ∧ x1.2 < (a2.length : Int)) <|
    bif !decide ((a2.getD x1.2.toNat (0, 0, 0, 0, 0, ())).1 = 1) then
      bif !decide ((a2.getD x1.2.toNat (0, 0, 0, 0, 0, ())).1 = 2) then
        k1 (x1.1, IntKind.i64.wrap (x1.2 + 1))
      else
        R19_Offer_J4 a0 a2 x1 a3 a1 k1
    else
      R19_Offer_J4 a0 a2 x1 a3 a1 k1
  else
    R19_Offer_J1 x1.1
def R19_Offer (a0 : List tzA2) (a1 : Int) (a2 : List tzA31) (a3 : Bool) : Option ((List tzA2) × Int × Int × Unit) :=
  loop (R19_Offer_L1 a2 a0 a3 a1) (a0, 0)
def R19_Poison (a0 : List tzA2) (a1 : Int) (a2 : Int) : Option ((List tzA2) × Int × Unit) :=
  Option.bind (R19_Is a0 a1) fun r1 =>
  bif !r1 then
    some (a0, 8, ())
  else
    chk (0 ≤ a1 ∧ a1 < (a0.length : Int)) <|
    Option.bind (R18_Poison (a0.getD a1.toNat ((0, 0, 0, 0, ()), 0, [], (false, [], ()), [], (false, [], ()), ())) a2) fun r2 =>
    bif !decide (r2.2.1 = 0) then
      some (a0, r2.2.1, ())
    else
      Option.bind (R19_put a0 a1 r2.1) fun r3 =>
      some (r3, 0, ())
end Go.Proofs.YtbkccpddkpclaaaGreatDoorV
namespace Go.Proofs.YtbkccpddkpclaaaGreatDoorV
set_option linter.unusedVariables false
def R20_Fine (a0 : Int) (a1 : Int) : Option Bool :=
  bif decide (a1 ≥ 1) then
    bif decide (a1 ≤ 65535) then
      bif decide (a0 ≥ 0) then
        some (decide (a0 ≤ a1))
      else
        some false
    else
      some false
  else
    some false
end Go.Proofs.YtbkccpddkpclaaaGreatDoorV
namespace Go.Proofs.YtbkccpddkpclaaaGreatDoorV
set_option linter.unusedVariables false
def R21_Fine_J1 (a0 : (List Int) × (List Int) × Unit) : Option Bool :=
  Option.bind (R04_Less a0.2.1 a0.1) fun r1 =>
  some (decide ((r1.length : Int) = 0))
def R21_Fine_L1 (a0 : (List Int) × (List Int) × Unit) (k1 : Int → Option Bool) (x1 : Int) : Option Bool :=
  bif decide (x1 < (a0.1.length : Int)) then
    chk (0 ≤ x1 ∧ x1 < (a0.1.length : Int)) <|
    bif decide ((a0.1.getD x1.toNat 0) < 0) then
      some false
    else
      chk (0 ≤ x1 ∧ x1 < (a0.1.length : Int)) <|
      bif decide ((a0.1.getD x1.toNat 0) > 15) then
        some false
      else
        k1 (IntKind.i64.wrap (x1 + 1))
  else
    R21_Fine_J1 a0
def R21_Fine (a0 : (List Int) × (List Int) × Unit) : Option Bool :=
  loop (R21_Fine_L1 a0) 0
def R21_Full (a0 : (List Int) × (List Int) × Unit) : Option Bool :=
  Option.bind (R21_Fine a0) fun r1 =>
  bif r1 then
    bif decide ((a0.1.length : Int) > 0) then
      letv (decide ((a0.2.1.length : Int) = (a0.1.length : Int))) fun v1 =>
      some v1
    else
      some false
  else
    some false
def R21_asked (a0 : (List Int) × (List Int) × Unit) (a1 : Int) : Option Int :=
  Option.bind (R21_Fine a0) fun r1 =>
  bif !r1 then
    some 1
  else
    bif decide (a1 < 0) then
      some 8
    else
      bif decide (a1 > 15) then
        some 8
      else
        some 0
def R21_Enrol (a0 : (List Int) × (List Int) × Unit) (a1 : Int) : Option (tzA30 × Int × Unit) :=
  Option.bind (R21_asked a0 a1) fun r1 =>
  bif !decide (r1 = 0) then
    some (a0, r1, ())
  else
    Option.bind (R04_Has a0.1 a1) fun r2 =>
    bif r2 then
      some (a0, 7, ())
    else
      Option.bind (R04_Add a0.1 a1) fun r3 =>
      some ((r3, a0.2.1, ()), 0, ())
def R21_Offer (a0 : (List Int) × (List Int) × Unit) (a1 : Int) : Option (tzA30 × Int × Unit) :=
  Option.bind (R21_asked a0 a1) fun r1 =>
  bif !decide (r1 = 0) then
    some (a0, r1, ())
  else
    Option.bind (R04_Has a0.1 a1) fun r2 =>
    bif !r2 then
      some (a0, 6, ())
    else
      Option.bind (R04_Has a0.2.1 a1) fun r3 =>
      bif r3 then
        some (a0, 7, ())
      else
        Option.bind (R04_Add a0.2.1 a1) fun r4 =>
        some ((a0.1, r4, ()), 0, ())
end Go.Proofs.YtbkccpddkpclaaaGreatDoorV
namespace Go.Proofs.YtbkccpddkpclaaaGreatDoorV
set_option linter.unusedVariables false
def R22_Fine (a0 : (Bool × Int × Unit) × tzA30 × Int × Unit) : Option Bool :=
  Option.bind (R20_Fine a0.2.2.1 a0.1.2.1) fun r1 =>
  bif r1 then
    Option.bind (R21_Fine a0.2.1) fun r2 =>
    some r2
  else
    some false
def R22_Ready (a0 : (Bool × Int × Unit) × tzA30 × Int × Unit) : Option Bool :=
  Option.bind (R22_Fine a0) fun r1 =>
  bif r1 then
    Option.bind (R21_Full a0.2.1) fun r2 =>
    bif r2 then
      some (decide (a0.2.2.1 < a0.1.2.1))
    else
      some false
  else
    some false
def R22_Check (a0 : Bool × Int × Unit) : Option Int :=
  bif decide (a0.2.1 < 1) then
    some 8
  else
    bif decide (a0.2.1 > 65535) then
      some 8
    else
      some 0
def R22_New (a0 : Bool × Int × Unit) : Option (tzA4 × Int × Unit) :=
  Option.bind (R22_Check a0) fun r1 =>
  bif !decide (r1 = 0) then
    some (((false, 0, ()), ([], [], ()), 0, ()), r1, ())
  else
    some ((a0, ([], [], ()), 0, ()), 0, ())
def R22_Enrol (a0 : (Bool × Int × Unit) × tzA30 × Int × Unit) (a1 : Int) : Option (tzA4 × Int × Unit) :=
  Option.bind (R22_Fine a0) fun r1 =>
  bif !r1 then
    some (a0, 1, ())
  else
    Option.bind (R21_Enrol a0.2.1 a1) fun r2 =>
    some ((a0.1, r2.1, a0.2.2.1, ()), r2.2.1, ())
def R22_Offer_J1 (a0 : (Bool × Int × Unit) × tzA30 × Int × Unit) (a1 : Int) : Option (tzA4 × Int × Unit) :=
  bif decide (a0.2.2.1 = a0.1.2.1) then
    some (a0, 14, ())
  else
    Option.bind (R21_Offer a0.2.1 a1) fun r2 =>
    some ((a0.1, r2.1, a0.2.2.1, ()), r2.2.1, ())
def R22_Offer (a0 : (Bool × Int × Unit) × tzA30 × Int × Unit) (a1 : Int) (a2 : Bool) : Option (tzA4 × Int × Unit) :=
  Option.bind (R22_Fine a0) fun r1 =>
  bif !r1 then
    some (a0, 1, ())
  else
    bif a2 then
      bif !a0.1.1 then
        some (a0, 12, ())
      else
        R22_Offer_J1 a0 a1
    else
      R22_Offer_J1 a0 a1
end Go.Proofs.YtbkccpddkpclaaaGreatDoorV
namespace Go.Proofs.YtbkccpddkpclaaaGreatDoorV
set_option linter.unusedVariables false
def R23_New_J1 (p1 : List tzA4) : Option ((List tzA4) × Int × Int × Unit) :=
  some (p1, 0, 0, ())
def R23_New_L1 (a0 : List (Bool × Int × Unit)) (k1 : (Int × (List tzA4)) → Option ((List tzA4) × Int × Int × Unit)) (x1 : Int × (List tzA4)) : Option ((List tzA4) × Int × Int × Unit) :=
  bif decide (x1.1 < (a0.length : Int)) then
    chk (0 ≤ x1.1 ∧ x1.1 < (a0.length : Int)) <|
    Option.bind (R22_New (a0.getD x1.1.toNat (false, 0, ()))) fun r1 =>
    bif !decide (r1.2.1 = 0) then
      some ([], x1.1, r1.2.1, ())
    else
      chk (x1.2.length + ([r1.1] : List tzA4).length ≤ 4294967296) <|
      k1 (IntKind.i64.wrap (x1.1 + 1), x1.2 ++ [r1.1])
  else
    R23_New_J1 x1.2
def R23_New (a0 : List (Bool × Int × Unit)) : Option ((List tzA4) × Int × Int × Unit) :=
  bif decide ((a0.length : Int) > 8) then
    some ([], 8, 5, ())
  else
    loop (R23_New_L1 a0) (0, [])
def R23_is (a0 : List tzA4) (a1 : Int) : Option Bool :=
  bif decide (a1 ≥ 0) then
    some (decide (a1 < (a0.length : Int)))
  else
    some false
def R23_put (a0 : List tzA4) (a1 : Int) (a2 : (Bool × Int × Unit) × tzA30 × Int × Unit) (a3 : Int) : Option ((List tzA4) × Int × Unit) :=
  bif !decide (a3 = 0) then
    some (a0, a3, ())
  else
    chk (a0.length ≤ 4294967296) <|
    chk (0 ≤ a1 ∧ a1 < (a0.length : Int)) <|
    some (a0.set a1.toNat a2, 0, ())
def R23_Enrol (a0 : List tzA4) (a1 : Int) (a2 : Int) : Option ((List tzA4) × Int × Unit) :=
  Option.bind (R23_is a0 a1) fun r1 =>
  bif !r1 then
    some (a0, 8, ())
  else
    chk (0 ≤ a1 ∧ a1 < (a0.length : Int)) <|
    Option.bind (R22_Enrol (a0.getD a1.toNat ((false, 0, ()), ([], [], ()), 0, ())) a2) fun r2 =>
    Option.bind (R23_put a0 a1 r2.1 r2.2.1) fun r3 =>
    some (r3.1, r3.2.1, ())
def R23_Offer_J1 (p1 : List tzA4) : Option ((List tzA4) × Int × Int × Unit) :=
  some (p1, 0, 0, ())
def R23_Offer_L1 (a2 : List tzA31) (a0 : List tzA4) (a1 : Int) (a3 : Bool) (k1 : ((List tzA4) × Int) → Option ((List tzA4) × Int × Int × Unit)) (x1 : (List tzA4) × Int) : Option ((List tzA4) × Int × Int × Unit) :=
  bif decide (x1.2 < (a2.length : Int)) then
    chk (0 ≤ x1.2 ∧ x1.2 < (a2.length : Int)) <|
    bif !decide ((a2.getD x1.2.toNat (0, 0, 0, 0, 0, ())).1 = 3) then
      k1 (x1.1, IntKind.i64.wrap (x1.2 + 1))
    else
      chk (0 ≤ x1.2 ∧ x1.2 < (a2.length : Int)) <|
      Option.bind (R23_is a0 (a2.getD x1.2.toNat (0, 0, 0, 0, 0, ())).2.1) fun r1 =>
      bif !r1 then
        some (a0, x1.2, 8, ())
      else
        chk (0 ≤ x1.2 ∧ x1.2 < (a2.length : Int)) <|
        chk (0 ≤ (a2.getD x1.2.toNat (0, 0, 0, 0, 0, ())).2.1 ∧ (a2.getD x1.2.toNat (0, 0, 0, 0, 0, ())).2.1 < (x1.1.length : Int)) <|
        Option.bind (R22_Offer (x1.1.getD (a2.getD x1.2.toNat (0, 0, 0, 0, 0, ())).2.1.toNat ((false, 0, ()), ([], [], ()), 0, ())) a1 a3) fun r2 =>
        bif !decide (r2.2.1 = 0) then
          some (a0, x1.2, r2.2.1, ())
        else
          chk (0 ≤ x1.2 ∧ x1.2 < (a2.length : Int)) <|
          Option.bind (R23_put x1.1 (a2.getD x1.2.toNat (0, 0, 0, 0, 0, ())).2.1 r2.1 0) fun r3 =>
          k1 (r3.1, IntKind.i64.wrap (x1.2 + 1))
  else
    R23_Offer_J1 x1.1
def R23_Offer (a0 : List tzA4) (a1 : Int) (a2 : List tzA31) (a3 : Bool) : Option ((List tzA4) × Int × Int × Unit) :=
  loop (R23_Offer_L1 a2 a0 a1 a3) (a0, 0)
end Go.Proofs.YtbkccpddkpclaaaGreatDoorV
namespace Go.Proofs.YtbkccpddkpclaaaGreatDoorV
set_option linter.unusedVariables false
def R29_guards_J1 : Option tzA10 :=
  some []
def R29_guards_L1 (a0 : Int × (List tzA2) × (List tzA4) × tzA6 × tzA9 × (List Int) × Unit) (a1 : Int) (k1 : Int → Option tzA10) (x1 : Int) : Option tzA10 :=
  bif decide (x1 < (a0.2.2.2.1.length : Int)) then
    chk (0 ≤ x1 ∧ x1 < (a0.2.2.2.1.length : Int)) <|
    bif decide ((a0.2.2.2.1.getD x1.toNat (0, [], ())).1 = a1) then
      chk (0 ≤ x1 ∧ x1 < (a0.2.2.2.1.length : Int)) <|
      letv ((a0.2.2.2.1.getD x1.toNat (0, [], ())).2.1) fun v1 =>
      some v1
    else
      k1 (IntKind.i64.wrap (x1 + 1))
  else
    R29_guards_J1
def R29_guards (a0 : Int × (List tzA2) × (List tzA4) × tzA6 × tzA9 × (List Int) × Unit) (a1 : Int) : Option tzA10 :=
  loop (R29_guards_L1 a0 a1) 0
def R29_hit_J1 (a1 : Int × Int × Int × Int × Int × Unit) (a0 : Int × (List tzA2) × (List tzA4) × tzA6 × tzA9 × (List Int) × Unit) : Option Bool :=
  bif decide (a1.1 = 1) then
    chk (0 ≤ a1.2.1 ∧ a1.2.1 < (a0.2.1.length : Int)) <|
    Option.bind (R18_InHit (a0.2.1.getD a1.2.1.toNat ((0, 0, 0, 0, ()), 0, [], (false, [], ()), [], (false, [], ()), ()))) fun r1 =>
    some r1
  else
    chk (0 ≤ a1.2.1 ∧ a1.2.1 < (a0.2.1.length : Int)) <|
    Option.bind (R18_OutHit (a0.2.1.getD a1.2.1.toNat ((0, 0, 0, 0, ()), 0, [], (false, [], ()), [], (false, [], ()), ()))) fun r2 =>
    some r2
def R29_hit (a0 : Int × (List tzA2) × (List tzA4) × tzA6 × tzA9 × (List Int) × Unit) (a1 : Int × Int × Int × Int × Int × Unit) : Option Bool :=
  bif !decide (a1.1 = 1) then
    bif !decide (a1.1 = 2) then
      some false
    else
      bif decide (a1.2.1 < 0) then
        some false
      else
        bif decide (a1.2.1 ≥ (a0.2.1.length : Int)) then
          some false
        else
          R29_hit_J1 a1 a0
  else
    bif decide (a1.2.1 < 0) then
      some false
    else
      bif decide (a1.2.1 ≥ (a0.2.1.length : Int)) then
        some false
      else
        R29_hit_J1 a1 a0
def R29_move_J1 : Option Int :=
  some 0
def R29_move_C1 (x1 : Int × List Int × Int × Int × Int × Int × Int × Int × Int × Int × Int × Int × Int × List Int × Bool × List Int × List Int × Bool × List Int) (k2 : (Int × List Int × Int × Int × Int × Int × Int × Int × Int × Int × Int × Int × Int × List Int × Bool × List Int × List Int × Bool × List Int) → Option Int) : Option Int :=
  bif decide (x1.2.2.2.1 = 1) then
    chk (0 ≤ x1.2.2.1 ∧ x1.2.2.1 < (x1.2.1.length : Int)) <|
    bif !decide ((x1.2.1.getD x1.2.2.1.toNat 0) = 2) then
      chk (0 ≤ (0 : Int) ∧ (0 : Int) < (x1.2.2.2.2.2.2.2.2.2.2.2.2.2.2.2.2.2.2.length : Int)) <|
      bif decide ((x1.2.2.2.2.2.2.2.2.2.2.2.2.2.2.2.2.2.2.getD (0 : Int).toNat 0) = x1.1) then
        chk (0 ≤ x1.2.2.1 ∧ x1.2.2.1 < (x1.2.1.length : Int)) <|
        some (x1.2.1.getD x1.2.2.1.toNat 0)
      else
        bif decide (x1.2.2.2.1 = 2) then
          chk (0 ≤ x1.2.2.1 ∧ x1.2.2.1 < (x1.2.1.length : Int)) <|
          bif !decide ((x1.2.1.getD x1.2.2.1.toNat 0) = 3) then
            chk (0 ≤ (0 : Int) ∧ (0 : Int) < (x1.2.2.2.2.2.2.2.2.2.2.2.2.2.2.2.1.length : Int)) <|
            bif decide ((x1.2.2.2.2.2.2.2.2.2.2.2.2.2.2.2.1.getD (0 : Int).toNat 0) = x1.1) then
              chk (0 ≤ x1.2.2.1 ∧ x1.2.2.1 < (x1.2.1.length : Int)) <|
              some (x1.2.1.getD x1.2.2.1.toNat 0)
            else
              k2 (x1.1, x1.2.1, x1.2.2.1, x1.2.2.2.1, x1.2.2.2.2.1, x1.2.2.2.2.2.1, x1.2.2.2.2.2.2.1, x1.2.2.2.2.2.2.2.1, x1.2.2.2.2.2.2.2.2.1, x1.2.2.2.2.2.2.2.2.2.1, x1.2.2.2.2.2.2.2.2.2.2.1, x1.2.2.2.2.2.2.2.2.2.2.2.1, x1.2.2.2.2.2.2.2.2.2.2.2.2.1, x1.2.2.2.2.2.2.2.2.2.2.2.2.2.1, x1.2.2.2.2.2.2.2.2.2.2.2.2.2.2.1, x1.2.2.2.2.2.2.2.2.2.2.2.2.2.2.2.1, x1.2.2.2.2.2.2.2.2.2.2.2.2.2.2.2.2.1, x1.2.2.2.2.2.2.2.2.2.2.2.2.2.2.2.2.2.1, x1.2.2.2.2.2.2.2.2.2.2.2.2.2.2.2.2.2.2)
          else
            k2 (x1.1, x1.2.1, x1.2.2.1, x1.2.2.2.1, x1.2.2.2.2.1, x1.2.2.2.2.2.1, x1.2.2.2.2.2.2.1, x1.2.2.2.2.2.2.2.1, x1.2.2.2.2.2.2.2.2.1, x1.2.2.2.2.2.2.2.2.2.1, x1.2.2.2.2.2.2.2.2.2.2.1, x1.2.2.2.2.2.2.2.2.2.2.2.1, x1.2.2.2.2.2.2.2.2.2.2.2.2.1, x1.2.2.2.2.2.2.2.2.2.2.2.2.2.1, x1.2.2.2.2.2.2.2.2.2.2.2.2.2.2.1, x1.2.2.2.2.2.2.2.2.2.2.2.2.2.2.2.1, x1.2.2.2.2.2.2.2.2.2.2.2.2.2.2.2.2.1, x1.2.2.2.2.2.2.2.2.2.2.2.2.2.2.2.2.2.1, x1.2.2.2.2.2.2.2.2.2.2.2.2.2.2.2.2.2.2)
        else
          k2 (x1.1, x1.2.1, x1.2.2.1, x1.2.2.2.1, x1.2.2.2.2.1, x1.2.2.2.2.2.1, x1.2.2.2.2.2.2.1, x1.2.2.2.2.2.2.2.1, x1.2.2.2.2.2.2.2.2.1, x1.2.2.2.2.2.2.2.2.2.1, x1.2.2.2.2.2.2.2.2.2.2.1, x1.2.2.2.2.2.2.2.2.2.2.2.1, x1.2.2.2.2.2.2.2.2.2.2.2.2.1, x1.2.2.2.2.2.2.2.2.2.2.2.2.2.1, x1.2.2.2.2.2.2.2.2.2.2.2.2.2.2.1, x1.2.2.2.2.2.2.2.2.2.2.2.2.2.2.2.1, x1.2.2.2.2.2.2.2.2.2.2.2.2.2.2.2.2.1, x1.2.2.2.2.2.2.2.2.2.2.2.2.2.2.2.2.2.1, x1.2.2.2.2.2.2.2.2.2.2.2.2.2.2.2.2.2.2)
    else
      bif decide (x1.2.2.2.1 = 2) then
        chk (0 ≤ x1.2.2.1 ∧ x1.2.2.1 < (x1.2.1.length : Int)) <|
        bif !decide ((x1.2.1.getD x1.2.2.1.toNat 0) = 3) then
          chk (0 ≤ (0 : Int) ∧ (0 : Int) < (x1.2.2.2.2.2.2.2.2.2.2.2.2.2.2.2.1.length : Int)) <|
          bif decide ((x1.2.2.2.2.2.2.2.2.2.2.2.2.2.2.2.1.getD (0 : Int).toNat 0) = x1.1) then
            chk (0 ≤ x1.2.2.1 ∧ x1.2.2.1 < (x1.2.1.length : Int)) <|
            some (x1.2.1.getD x1.2.2.1.toNat 0)
          else
            k2 (x1.1, x1.2.1, x1.2.2.1, x1.2.2.2.1, x1.2.2.2.2.1, x1.2.2.2.2.2.1, x1.2.2.2.2.2.2.1, x1.2.2.2.2.2.2.2.1, x1.2.2.2.2.2.2.2.2.1, x1.2.2.2.2.2.2.2.2.2.1, x1.2.2.2.2.2.2.2.2.2.2.1, x1.2.2.2.2.2.2.2.2.2.2.2.1, x1.2.2.2.2.2.2.2.2.2.2.2.2.1, x1.2.2.2.2.2.2.2.2.2.2.2.2.2.1, x1.2.2.2.2.2.2.2.2.2.2.2.2.2.2.1, x1.2.2.2.2.2.2.2.2.2.2.2.2.2.2.2.1, x1.2.2.2.2.2.2.2.2.2.2.2.2.2.2.2.2.1, x1.2.2.2.2.2.2.2.2.2.2.2.2.2.2.2.2.2.1, x1.2.2.2.2.2.2.2.2.2.2.2.2.2.2.2.2.2.2)
        else
          k2 (x1.1, x1.2.1, x1.2.2.1, x1.2.2.2.1, x1.2.2.2.2.1, x1.2.2.2.2.2.1, x1.2.2.2.2.2.2.1, x1.2.2.2.2.2.2.2.1, x1.2.2.2.2.2.2.2.2.1, x1.2.2.2.2.2.2.2.2.2.1, x1.2.2.2.2.2.2.2.2.2.2.1, x1.2.2.2.2.2.2.2.2.2.2.2.1, x1.2.2.2.2.2.2.2.2.2.2.2.2.1, x1.2.2.2.2.2.2.2.2.2.2.2.2.2.1, x1.2.2.2.2.2.2.2.2.2.2.2.2.2.2.1, x1.2.2.2.2.2.2.2.2.2.2.2.2.2.2.2.1, x1.2.2.2.2.2.2.2.2.2.2.2.2.2.2.2.2.1, x1.2.2.2.2.2.2.2.2.2.2.2.2.2.2.2.2.2.1, x1.2.2.2.2.2.2.2.2.2.2.2.2.2.2.2.2.2.2)
      else
        k2 (x1.1, x1.2.1, x1.2.2.1, x1.2.2.2.1, x1.2.2.2.2.1, x1.2.2.2.2.2.1, x1.2.2.2.2.2.2.1, x1.2.2.2.2.2.2.2.1, x1.2.2.2.2.2.2.2.2.1, x1.2.2.2.2.2.2.2.2.2.1, x1.2.2.2.2.2.2.2.2.2.2.1, x1.2.2.2.2.2.2.2.2.2.2.2.1, x1.2.2.2.2.2.2.2.2.2.2.2.2.1, x1.2.2.2.2.2.2.2.2.2.2.2.2.2.1, x1.2.2.2.2.2.2.2.2.2.2.2.2.2.2.1, x1.2.2.2.2.2.2.2.2.2.2.2.2.2.2.2.1, x1.2.2.2.2.2.2.2.2.2.2.2.2.2.2.2.2.1, x1.2.2.2.2.2.2.2.2.2.2.2.2.2.2.2.2.2.1, x1.2.2.2.2.2.2.2.2.2.2.2.2.2.2.2.2.2.2)
  else
    bif decide (x1.2.2.2.1 = 2) then
      chk (0 ≤ x1.2.2.1 ∧ x1.2.2.1 < (x1.2.1.length : Int)) <|
      bif !decide ((x1.2.1.getD x1.2.2.1.toNat 0) = 3) then
        chk (0 ≤ (0 : Int) ∧ (0 : Int) < (x1.2.2.2.2.2.2.2.2.2.2.2.2.2.2.2.1.length : Int)) <|
        bif decide ((x1.2.2.2.2.2.2.2.2.2.2.2.2.2.2.2.1.getD (0 : Int).toNat 0) = x1.1) then
          chk (0 ≤ x1.2.2.1 ∧ x1.2.2.1 < (x1.2.1.length : Int)) <|
          some (x1.2.1.getD x1.2.2.1.toNat 0)
        else
          k2 (x1.1, x1.2.1, x1.2.2.1, x1.2.2.2.1, x1.2.2.2.2.1, x1.2.2.2.2.2.1, x1.2.2.2.2.2.2.1, x1.2.2.2.2.2.2.2.1, x1.2.2.2.2.2.2.2.2.1, x1.2.2.2.2.2.2.2.2.2.1, x1.2.2.2.2.2.2.2.2.2.2.1, x1.2.2.2.2.2.2.2.2.2.2.2.1, x1.2.2.2.2.2.2.2.2.2.2.2.2.1, x1.2.2.2.2.2.2.2.2.2.2.2.2.2.1, x1.2.2.2.2.2.2.2.2.2.2.2.2.2.2.1, x1.2.2.2.2.2.2.2.2.2.2.2.2.2.2.2.1, x1.2.2.2.2.2.2.2.2.2.2.2.2.2.2.2.2.1, x1.2.2.2.2.2.2.2.2.2.2.2.2.2.2.2.2.2.1, x1.2.2.2.2.2.2.2.2.2.2.2.2.2.2.2.2.2.2)
      else
        k2 (x1.1, x1.2.1, x1.2.2.1, x1.2.2.2.1, x1.2.2.2.2.1, x1.2.2.2.2.2.1, x1.2.2.2.2.2.2.1, x1.2.2.2.2.2.2.2.1, x1.2.2.2.2.2.2.2.2.1, x1.2.2.2.2.2.2.2.2.2.1, x1.2.2.2.2.2.2.2.2.2.2.1, x1.2.2.2.2.2.2.2.2.2.2.2.1, x1.2.2.2.2.2.2.2.2.2.2.2.2.1, x1.2.2.2.2.2.2.2.2.2.2.2.2.2.1, x1.2.2.2.2.2.2.2.2.2.2.2.2.2.2.1, x1.2.2.2.2.2.2.2.2.2.2.2.2.2.2.2.1, x1.2.2.2.2.2.2.2.2.2.2.2.2.2.2.2.2.1, x1.2.2.2.2.2.2.2.2.2.2.2.2.2.2.2.2.2.1, x1.2.2.2.2.2.2.2.2.2.2.2.2.2.2.2.2.2.2)
    else
      k2 (x1.1, x1.2.1, x1.2.2.1, x1.2.2.2.1, x1.2.2.2.2.1, x1.2.2.2.2.2.1, x1.2.2.2.2.2.2.1, x1.2.2.2.2.2.2.2.1, x1.2.2.2.2.2.2.2.2.1, x1.2.2.2.2.2.2.2.2.2.1, x1.2.2.2.2.2.2.2.2.2.2.1, x1.2.2.2.2.2.2.2.2.2.2.2.1, x1.2.2.2.2.2.2.2.2.2.2.2.2.1, x1.2.2.2.2.2.2.2.2.2.2.2.2.2.1, x1.2.2.2.2.2.2.2.2.2.2.2.2.2.2.1, x1.2.2.2.2.2.2.2.2.2.2.2.2.2.2.2.1, x1.2.2.2.2.2.2.2.2.2.2.2.2.2.2.2.2.1, x1.2.2.2.2.2.2.2.2.2.2.2.2.2.2.2.2.2.1, x1.2.2.2.2.2.2.2.2.2.2.2.2.2.2.2.2.2.2)
def R29_move_R1 (k1 : (Int × List Int × Int × Int × Int × Int × Int × Int × Int × Int × Int × Int × Int × List Int × Bool × List Int × List Int × Bool × List Int) → Option Int) (x2 : Int × List Int × Int × Int × Int × Int × Int × Int × Int × Int × Int × Int × Int × List Int × Bool × List Int × List Int × Bool × List Int) : Option Int :=
  k1 (x2.1, x2.2.1, IntKind.i64.wrap (x2.2.2.1 + 1), x2.2.2.2.1, x2.2.2.2.2.1, x2.2.2.2.2.2.1, x2.2.2.2.2.2.2.1, x2.2.2.2.2.2.2.2.1, x2.2.2.2.2.2.2.2.2.1, x2.2.2.2.2.2.2.2.2.2.1, x2.2.2.2.2.2.2.2.2.2.2.1, x2.2.2.2.2.2.2.2.2.2.2.2.1, x2.2.2.2.2.2.2.2.2.2.2.2.2.1, x2.2.2.2.2.2.2.2.2.2.2.2.2.2.1, x2.2.2.2.2.2.2.2.2.2.2.2.2.2.2.1, x2.2.2.2.2.2.2.2.2.2.2.2.2.2.2.2.1, x2.2.2.2.2.2.2.2.2.2.2.2.2.2.2.2.2.1, x2.2.2.2.2.2.2.2.2.2.2.2.2.2.2.2.2.2.1, x2.2.2.2.2.2.2.2.2.2.2.2.2.2.2.2.2.2.2)
def R29_move_L1 (k1 : (Int × List Int × Int × Int × Int × Int × Int × Int × Int × Int × Int × Int × Int × List Int × Bool × List Int × List Int × Bool × List Int) → Option Int) (x1 : Int × List Int × Int × Int × Int × Int × Int × Int × Int × Int × Int × Int × Int × List Int × Bool × List Int × List Int × Bool × List Int) : Option Int :=
  bif decide (x1.2.2.1 < (x1.2.1.length : Int)) then
    cutv 1 (R29_move_C1 x1) (R29_move_R1 k1)
  else
    R29_move_J1
def R29_move (a0 : Int × (List tzA2) × (List tzA4) × tzA6 × tzA9 × (List Int) × Unit) (a1 : Int) (a2 : Int × Int × Int × Int × Int × Unit) : Option Int :=
  bif decide (a2.2.1 < 0) then
    some 0
  else
    bif decide (a2.2.1 ≥ (a0.2.1.length : Int)) then
      some 0
    else
      chk (0 ≤ a2.2.1 ∧ a2.2.1 < (a0.2.1.length : Int)) <|
      Option.bind (R18_What (a0.2.1.getD a2.2.1.toNat ((0, 0, 0, 0, ()), 0, [], (false, [], ()), [], (false, [], ()), ()))) fun r1 =>
      loop R29_move_L1 (a1, r1, 0, a2.1, a2.2.1, a2.2.2.1, a2.2.2.2.1, a2.2.2.2.2.1, (a0.2.1.getD a2.2.1.toNat ((0, 0, 0, 0, ()), 0, [], (false, [], ()), [], (false, [], ()), ())).1.1, (a0.2.1.getD a2.2.1.toNat ((0, 0, 0, 0, ()), 0, [], (false, [], ()), [], (false, [], ()), ())).1.2.1, (a0.2.1.getD a2.2.1.toNat ((0, 0, 0, 0, ()), 0, [], (false, [], ()), [], (false, [], ()), ())).1.2.2.1, (a0.2.1.getD a2.2.1.toNat ((0, 0, 0, 0, ()), 0, [], (false, [], ()), [], (false, [], ()), ())).1.2.2.2.1, (a0.2.1.getD a2.2.1.toNat ((0, 0, 0, 0, ()), 0, [], (false, [], ()), [], (false, [], ()), ())).2.1, (a0.2.1.getD a2.2.1.toNat ((0, 0, 0, 0, ()), 0, [], (false, [], ()), [], (false, [], ()), ())).2.2.1, (a0.2.1.getD a2.2.1.toNat ((0, 0, 0, 0, ()), 0, [], (false, [], ()), [], (false, [], ()), ())).2.2.2.1.1, (a0.2.1.getD a2.2.1.toNat ((0, 0, 0, 0, ()), 0, [], (false, [], ()), [], (false, [], ()), ())).2.2.2.1.2.1, (a0.2.1.getD a2.2.1.toNat ((0, 0, 0, 0, ()), 0, [], (false, [], ()), [], (false, [], ()), ())).2.2.2.2.1, (a0.2.1.getD a2.2.1.toNat ((0, 0, 0, 0, ()), 0, [], (false, [], ()), [], (false, [], ()), ())).2.2.2.2.2.1.1, (a0.2.1.getD a2.2.1.toNat ((0, 0, 0, 0, ()), 0, [], (false, [], ()), [], (false, [], ()), ())).2.2.2.2.2.1.2.1)
def R29_due_J1 : Option Bool :=
  some false
def R29_due_L1 (a0 : Int × (List tzA2) × (List tzA4) × tzA6 × tzA9 × (List Int) × Unit) (a1 : Int) (a2 : Int × Int × Int × Int × Int × Unit) (k1 : Int → Option Bool) (x1 : Int) : Option Bool :=
  bif decide (x1 < (a0.2.2.2.2.1.length : Int)) then
    chk (0 ≤ x1 ∧ x1 < (a0.2.2.2.2.1.length : Int)) <|
    bif decide ((a0.2.2.2.2.1.getD x1.toNat (0, 0, 0, ())).2.2.1 = (IntKind.i64.wrap ((IntKind.i64.wrap (8 * a1)) + a2.2.2.2.2.1))) then
      chk (0 ≤ x1 ∧ x1 < (a0.2.2.2.2.1.length : Int)) <|
      Option.bind (R05_Due a0.1 (a0.2.2.2.2.1.getD x1.toNat (0, 0, 0, ())).1) fun r1 =>
      bif r1 then
        some true
      else
        k1 (IntKind.i64.wrap (x1 + 1))
    else
      k1 (IntKind.i64.wrap (x1 + 1))
  else
    R29_due_J1
def R29_due (a0 : Int × (List tzA2) × (List tzA4) × tzA6 × tzA9 × (List Int) × Unit) (a1 : Int) (a2 : Int × Int × Int × Int × Int × Unit) : Option Bool :=
  loop (R29_due_L1 a0 a1 a2) 0
def R29_of_J1 (a0 : Int × (List tzA2) × (List tzA4) × tzA6 × tzA9 × (List Int) × Unit) (a1 : Int) (a2 : Int × Int × Int × Int × Int × Unit) (k1 : Unit → Option (tzA8 × Bool × Unit)) (p1 : Bool) : Option (tzA8 × Bool × Unit) :=
  bif p1 then
    Option.bind (R29_move a0 a1 a2) fun r2 =>
    bif decide (r2 > 0) then
      some ((IntKind.i64.wrap (1 + r2), a2.2.1, 0, 0, ()), true, ())
    else
      k1 ()
  else
    bif decide (a2.1 = 3) then
      bif decide (a2.2.1 ≥ 0) then
        bif decide (a2.2.1 < (a0.2.2.1.length : Int)) then
          chk (0 ≤ a2.2.1 ∧ a2.2.1 < (a0.2.2.1.length : Int)) <|
          Option.bind (R22_Ready (a0.2.2.1.getD a2.2.1.toNat ((false, 0, ()), ([], [], ()), 0, ()))) fun r3 =>
          bif r3 then
            chk (0 ≤ a2.2.1 ∧ a2.2.1 < (a0.2.2.1.length : Int)) <|
            Option.bind (R04_Has (a0.2.2.1.getD a2.2.1.toNat ((false, 0, ()), ([], [], ()), 0, ())).2.1.2.1 a1) fun r4 =>
            bif r4 then
              some ((1, a2.2.1, 0, 0, ()), true, ())
            else
              k1 ()
          else
            k1 ()
        else
          k1 ()
      else
        k1 ()
    else
      bif decide (a2.1 = 4) then
        Option.bind (R29_due a0 a1 a2) fun r5 =>
        bif r5 then
          some ((6, 0, a1, a2.2.2.2.2.1, ()), true, ())
        else
          k1 ()
      else
        bif decide (a2.1 = 5) then
          some ((8, 0, a1, a2.2.2.2.2.1, ()), true, ())
        else
          bif decide (a2.1 = 6) then
            Option.bind (R04_Has a0.2.2.2.2.2.1 a2.2.2.1) fun r6 =>
            bif !r6 then
              some ((7, 0, a1, a2.2.2.2.2.1, ()), true, ())
            else
              k1 ()
          else
            k1 ()
def R29_of_C1 (a2 : Int × Int × Int × Int × Int × Unit) (a0 : Int × (List tzA2) × (List tzA4) × tzA6 × tzA9 × (List Int) × Unit) (a1 : Int) (k1 : Unit → Option (tzA8 × Bool × Unit)) : Option (tzA8 × Bool × Unit) :=
  bif decide (a2.1 = 1) then
    R29_of_J1 a0 a1 a2 k1 true
  else
    R29_of_J1 a0 a1 a2 k1 (decide (a2.1 = 2))
def R29_of_R1 (x1 : Unit) : Option (tzA8 × Bool × Unit) :=
  some ((0, 0, 0, 0, ()), false, ())
def R29_of (a0 : Int × (List tzA2) × (List tzA4) × tzA6 × tzA9 × (List Int) × Unit) (a1 : Int) (a2 : Int × Int × Int × Int × Int × Unit) : Option (tzA8 × Bool × Unit) :=
  Option.bind (R29_hit a0 a2) fun r1 =>
  bif r1 then
    some ((5, 0, a1, a2.2.2.2.2.1, ()), true, ())
  else
    cutv 1 (R29_of_C1 a2 a0 a1) R29_of_R1
def R29_Which_J1 : Option (tzA8 × Bool × Unit) :=
  some ((0, 0, 0, 0, ()), false, ())
def R29_Which_L1 (r1 : List tzA31) (a2 : Int) (a0 : Int × (List tzA2) × (List tzA4) × tzA6 × tzA9 × (List Int) × Unit) (a1 : Int) (k1 : Int → Option (tzA8 × Bool × Unit)) (x1 : Int) : Option (tzA8 × Bool × Unit) :=
  bif decide (x1 < (r1.length : Int)) then
    chk (0 ≤ x1 ∧ x1 < (r1.length : Int)) <|
    bif decide ((r1.getD x1.toNat (0, 0, 0, 0, 0, ())).2.2.2.2.1 = a2) then
      chk (0 ≤ x1 ∧ x1 < (r1.length : Int)) <|
      Option.bind (R29_of a0 a1 (r1.getD x1.toNat (0, 0, 0, 0, 0, ()))) fun r2 =>
      some (r2.1, r2.2.1, ())
    else
      k1 (IntKind.i64.wrap (x1 + 1))
  else
    R29_Which_J1
def R29_Which (a0 : Int × (List tzA2) × (List tzA4) × tzA6 × tzA9 × (List Int) × Unit) (a1 : Int) (a2 : Int) : Option (tzA8 × Bool × Unit) :=
  Option.bind (R29_guards a0 a1) fun r1 =>
  loop (R29_Which_L1 r1 a2 a0 a1) 0
def R29_Guards_J1 (p1 : List Int) : Option (List Int) :=
  some p1
def R29_Guards_L1 (r1 : List tzA31) (a0 : Int × (List tzA2) × (List tzA4) × tzA6 × tzA9 × (List Int) × Unit) (a1 : Int) (k1 : (Int × List Int) → Option (List Int)) (x1 : Int × List Int) : Option (List Int) :=
  bif decide (x1.1 < (r1.length : Int)) then
    chk (0 ≤ x1.1 ∧ x1.1 < (r1.length : Int)) <|
    Option.bind (R29_of a0 a1 (r1.getD x1.1.toNat (0, 0, 0, 0, 0, ()))) fun r2 =>
    bif r2.2.1 then
      chk (0 ≤ x1.1 ∧ x1.1 < (r1.length : Int)) <|
      letv ([(r1.getD x1.1.toNat (0, 0, 0, 0, 0, ())).2.2.2.2.1]) fun l1 =>
      chk (x1.2.length + l1.length ≤ 4294967296) <|
      k1 (IntKind.i64.wrap (x1.1 + 1), x1.2 ++ l1)
    else
      k1 (IntKind.i64.wrap (x1.1 + 1), x1.2)
  else
    R29_Guards_J1 x1.2
def R29_Guards (a0 : Int × (List tzA2) × (List tzA4) × tzA6 × tzA9 × (List Int) × Unit) (a1 : Int) : Option (List Int) :=
  Option.bind (R29_guards a0 a1) fun r1 =>
  loop (R29_Guards_L1 r1 a0 a1) (0, [])
end Go.Proofs.YtbkccpddkpclaaaGreatDoorV
namespace Go.Proofs.YtbkccpddkpclaaaGreatDoorV
set_option linter.unusedVariables false
def phase_Fine (a0 : Int) (a1 : Int) : Option Bool :=
  bif decide (a1 ≥ 1) then
    bif decide (a1 ≤ 65535) then
      bif decide (a0 ≥ 0) then
        some (decide (a0 ≤ a1))
      else
        some false
    else
      some false
  else
    some false
def phase_Left (a0 : Int) (a1 : Int) : Option Int :=
  Option.bind (phase_Fine a0 a1) fun r1 =>
  bif !r1 then
    some 0
  else
    some (IntKind.i64.wrap (a1 - a0))
end Go.Proofs.YtbkccpddkpclaaaGreatDoorV
namespace Go.Proofs.YtbkccpddkpclaaaGreatDoorV
set_option linter.unusedVariables false
def bitset_Less_1 (a0 : Int) (a1 : Int) : Option Int :=
  some (bitsOp .andNot .u64 a0 a1)
def bitset_Less_J1 (k1 : (List Int × List Int) → Option (List Int)) (p1 : List Int) (p2 : List Int) (p3 : List Int) (p4 : List Int) (p5 : List Int) : Option (List Int) :=
  k1 (p4, p3)
def bitset_Less_C1 (x2 : Int × List Int × List Int × List Int × List Int × List Int × List Int) (k3 : (Int × List Int × List Int × List Int × List Int × List Int × List Int) → Option (List Int)) : Option (List Int) :=
  chk (0 ≤ x2.1 ∧ x2.1 < (4 : Int)) <|
  chk (0 ≤ x2.1 ∧ x2.1 < (4 : Int)) <|
  Option.bind (bitset_Less_1 (x2.2.2.2.2.1.getD x2.1.toNat 0) (x2.2.2.2.2.2.1.getD x2.1.toNat 0)) fun r1 =>
  chk (0 ≤ x2.1 ∧ x2.1 < (4 : Int)) <|
  k3 (x2.1, x2.2.1, x2.2.2.1, x2.2.2.2.1, x2.2.2.2.2.1.set x2.1.toNat r1, x2.2.2.2.2.2.1, x2.2.2.2.2.2.2)
def bitset_Less_R1 (k2 : (Int × List Int × List Int × List Int × List Int × List Int × List Int) → Option (List Int)) (x3 : Int × List Int × List Int × List Int × List Int × List Int × List Int) : Option (List Int) :=
  k2 (IntKind.i64.wrap (x3.1 + 1), x3.2.1, x3.2.2.1, x3.2.2.2.1, x3.2.2.2.2.1, x3.2.2.2.2.2.1, x3.2.2.2.2.2.2)
def bitset_Less_L1 (k1 : (List Int × List Int) → Option (List Int)) (k2 : (Int × List Int × List Int × List Int × List Int × List Int × List Int) → Option (List Int)) (x2 : Int × List Int × List Int × List Int × List Int × List Int × List Int) : Option (List Int) :=
  bif decide (x2.1 < 4) then
    cutv 1 (bitset_Less_C1 x2) (bitset_Less_R1 k2)
  else
    bitset_Less_J1 k1 x2.2.1 x2.2.2.1 x2.2.2.2.1 x2.2.2.2.2.1 x2.2.2.2.2.2.2
def bitset_Less_C2 (a0 : List Int) (a1 : List Int) (k1 : (List Int × List Int) → Option (List Int)) : Option (List Int) :=
  loop (bitset_Less_L1 k1) (0, a0, a1, (List.replicate 4 0), a0, a1, (List.replicate 4 0))
def bitset_Less_R2 (x1 : List Int × List Int) : Option (List Int) :=
  some x1.1
def bitset_Less (a0 : List Int) (a1 : List Int) : Option (List Int) :=
  cutv 2 (bitset_Less_C2 a0 a1) bitset_Less_R2
def bitset_Sub (a0 : List Int) (a1 : List Int) : Option Bool :=
  Option.bind (bitset_Less a0 a1) fun r1 =>
  letv (decide ((r1 : List Int) = (List.replicate 4 0))) fun v1 =>
  some v1
def bitset_fine (a0 : Int) : Option Bool :=
  bif decide (a0 ≥ 0) then
    some (decide (a0 ≤ 255))
  else
    some false
def bitset_Has (a0 : List Int) (a1 : Int) : Option Bool :=
  Option.bind (bitset_fine a1) fun r1 =>
  bif r1 then
    chk ((64 : Int) ≠ 0) <|
    chk (0 ≤ (IntKind.i64.wrap (Int.tdiv a1 64)) ∧ (IntKind.i64.wrap (Int.tdiv a1 64)) < (4 : Int)) <|
    chk ((64 : Int) ≠ 0) <|
    chk (0 ≤ (Int.tmod a1 64)) <|
    letv (decide ((bitsOp .and .u64 (Int.fdiv (a0.getD (IntKind.i64.wrap (Int.tdiv a1 64)).toNat 0) (2 ^ min (Int.tmod a1 64).toNat 64)) 1) = 1)) fun v1 =>
    some v1
  else
    some false
end Go.Proofs.YtbkccpddkpclaaaGreatDoorV
namespace Go.Proofs.YtbkccpddkpclaaaGreatDoorV
set_option linter.unusedVariables false
def roll_Fine (a0 : (List Int) × (List Int) × Unit) : Option Bool :=
  Option.bind (bitset_Sub a0.1 gl_becket_roll_everybody) fun r1 =>
  bif r1 then
    Option.bind (bitset_Sub a0.2.1 a0.1) fun r2 =>
    some r2
  else
    some false
def roll_Full (a0 : (List Int) × (List Int) × Unit) : Option Bool :=
  Option.bind (roll_Fine a0) fun r1 =>
  bif r1 then
    bif decide ((a0.2.1 : List Int) = a0.1) then
      letv (!(decide ((a0.2.1 : List Int) = (List.replicate 4 0)))) fun v1 =>
      some v1
    else
      some false
  else
    some false
end Go.Proofs.YtbkccpddkpclaaaGreatDoorV
namespace Go.Proofs.YtbkccpddkpclaaaGreatDoorV
set_option linter.unusedVariables false
def barrier_Fine (a0 : (Bool × Int × Unit) × tzA30 × Int × Unit) : Option Bool :=
  Option.bind (phase_Fine a0.2.2.1 a0.1.2.1) fun r1 =>
  bif r1 then
    Option.bind (roll_Fine a0.2.1) fun r2 =>
    some r2
  else
    some false
def barrier_Ready (a0 : (Bool × Int × Unit) × tzA30 × Int × Unit) : Option Bool :=
  Option.bind (barrier_Fine a0) fun r1 =>
  bif r1 then
    Option.bind (roll_Full a0.2.1) fun r2 =>
    bif r2 then
      Option.bind (phase_Left a0.2.2.1 a0.1.2.1) fun r3 =>
      some (decide (r3 > 0))
    else
      some false
  else
    some false
end Go.Proofs.YtbkccpddkpclaaaGreatDoorV
namespace Go.Proofs.YtbkccpddkpclaaaGreatDoorV
set_option linter.unusedVariables false
def bartab_Ready_J1 (p1 : List Int) : Option (List Int) :=
  some p1
def bartab_Ready_L1 (p2 : Int) (a0 : List tzA4) (k1 : (Int × List Int) → Option (List Int)) (x1 : Int × List Int) : Option (List Int) :=
  bif decide (x1.1 < p2) then
    chk (0 ≤ x1.1 ∧ x1.1 < (a0.length : Int)) <|
    Option.bind (barrier_Ready (a0.getD x1.1.toNat ((false, 0, ()), ((List.replicate 4 0), (List.replicate 4 0), ()), 0, ()))) fun r1 =>
    bif r1 then
      chk (x1.2.length + ([x1.1] : List Int).length ≤ 4294967296) <|
      k1 (IntKind.i64.wrap (x1.1 + 1), x1.2 ++ [x1.1])
    else
      k1 (IntKind.i64.wrap (x1.1 + 1), x1.2)
  else
    bartab_Ready_J1 x1.2
def bartab_Ready (a0 : List tzA4) : Option (List Int) :=
  loop (bartab_Ready_L1 (a0.length : Int) a0) (0, [])
end Go.Proofs.YtbkccpddkpclaaaGreatDoorV
namespace Go.Proofs.YtbkccpddkpclaaaGreatDoorV
set_option linter.unusedVariables false
def slices_Index_int_int_J1 : Option Int :=
  some (-1)
def slices_Index_int_int_L1 (p1 : Int) (a0 : List Int) (a1 : Int) (k1 : Int → Option Int) (x1 : Int) : Option Int :=
  bif decide (x1 < p1) then
    chk (0 ≤ x1 ∧ x1 < (a0.length : Int)) <|
    bif decide (a1 = (a0.getD x1.toNat 0)) then
      some x1
    else
      k1 (IntKind.i64.wrap (x1 + 1))
  else
    slices_Index_int_int_J1
def slices_Index_int_int (a0 : List Int) (a1 : Int) : Option Int :=
  loop (slices_Index_int_int_L1 (a0.length : Int) a0 a1) 0
def slices_Contains_int_int (a0 : List Int) (a1 : Int) : Option Bool :=
  Option.bind (slices_Index_int_int a0 a1) fun r1 =>
  some (decide (r1 ≥ 0))
end Go.Proofs.YtbkccpddkpclaaaGreatDoorV
namespace Go.Proofs.YtbkccpddkpclaaaGreatDoorV
set_option linter.unusedVariables false
def claims_process (a0 : Int) : Option Bool :=
  bif decide (a0 ≥ 0) then
    some (decide (a0 < 16))
  else
    some false
def claims_Fine_J1 (a0 : Bool × (List Int) × Unit) : Option Bool :=
  bif a0.1 then
    some true
  else
    some (decide ((a0.2.1.length : Int) ≤ 1))
def claims_Fine_L1 (p1 : Int) (a0 : Bool × (List Int) × Unit) (k1 : Int → Option Bool) (x1 : Int) : Option Bool :=
  bif decide (x1 < p1) then
    chk (0 ≤ x1 ∧ x1 < (a0.2.1.length : Int)) <|
    Option.bind (claims_process (a0.2.1.getD x1.toNat 0)) fun r1 =>
    bif !r1 then
      some false
    else
      chk (0 ≤ (0 : Int) ∧ (0 : Int) ≤ x1 ∧ x1 ≤ (a0.2.1.length : Int)) <|
      Option.bind (slices_Contains_int_int ((a0.2.1.take x1.toNat).drop (0 : Int).toNat) (a0.2.1.getD x1.toNat 0)) fun r2 =>
      bif r2 then
        some false
      else
        k1 (IntKind.i64.wrap (x1 + 1))
  else
    claims_Fine_J1 a0
def claims_Fine (a0 : Bool × (List Int) × Unit) : Option Bool :=
  loop (claims_Fine_L1 (a0.2.1.length : Int) a0) 0
def claims_Head (a0 : Bool × (List Int) × Unit) : Option (Int × Bool × Unit) :=
  Option.bind (claims_Fine a0) fun r1 =>
  bif !r1 then
    some (0, false, ())
  else
    bif decide ((a0.2.1.length : Int) = 0) then
      some (0, false, ())
    else
      chk (0 ≤ (0 : Int) ∧ (0 : Int) < (a0.2.1.length : Int)) <|
      some (a0.2.1.getD (0 : Int).toNat 0, true, ())
end Go.Proofs.YtbkccpddkpclaaaGreatDoorV
namespace Go.Proofs.YtbkccpddkpclaaaGreatDoorV
set_option linter.unusedVariables false
def channel_Check (a0 : Int × Int × Int × Int × Unit) : Option Int :=
  bif decide (a0.1 < 0) then
    some 12
  else
    bif decide (a0.1 > 3) then
      some 12
    else
      bif decide (a0.2.1 < 0) then
        some 8
      else
        bif decide (a0.2.1 > 8) then
          some 8
        else
          Option.bind (poison_Fine a0.2.2.1) fun r1 =>
          bif !r1 then
            some 8
          else
            Option.bind (poison_Fine a0.2.2.2.1) fun r2 =>
            bif !r2 then
              some 8
            else
              some 0
def channel_words_1 (a0 : Int) : Option Bool :=
  Option.bind (word_Fine a0) fun r1 =>
  some (!r1)
def channel_words_J1 (k1 : Bool → Option Bool) : Option Bool :=
  k1 false
def channel_words_L1 (p1 : Int) (a0 : List Int) (k1 : Bool → Option Bool) (k2 : Int → Option Bool) (x2 : Int) : Option Bool :=
  bif decide (x2 < p1) then
    chk (0 ≤ x2 ∧ x2 < (a0.length : Int)) <|
    Option.bind (channel_words_1 (a0.getD x2.toNat 0)) fun r1 =>
    bif r1 then
      k1 (decide (x2 ≥ 0))
    else
      k2 (IntKind.i64.wrap (x2 + 1))
  else
    channel_words_J1 k1
def channel_words_C1 (a0 : List Int) (k1 : Bool → Option Bool) : Option Bool :=
  loop (channel_words_L1 (a0.length : Int) a0 k1) 0
def channel_words_R1 (x1 : Bool) : Option Bool :=
  some (!x1)
def channel_words (a0 : List Int) : Option Bool :=
  cutv 1 (channel_words_C1 a0) channel_words_R1
def channel_shares (a0 : Int × Int × Int × Int × Unit) (a1 : Int) : Option Bool :=
  some (!decide ((bitsOp .and .i64 a0.1 a1) = 0))
def channel_Fine (a0 : tzA8 × Int × (List Int) × tzA25 × (List Int) × tzA25 × Unit) : Option Bool :=
  Option.bind (channel_Check a0.1) fun r1 =>
  bif !decide (r1 = 0) then
    some false
  else
    Option.bind (poison_Fine a0.2.1) fun r2 =>
    bif !r2 then
      some false
    else
      bif decide ((a0.2.2.1.length : Int) > a0.1.2.1) then
        some false
      else
        Option.bind (channel_words a0.2.2.1) fun r3 =>
        bif !r3 then
          some false
        else
          Option.bind (channel_words a0.2.2.2.2.1) fun r4 =>
          bif !r4 then
            some false
          else
            Option.bind (channel_shares a0.1 1) fun r5 =>
            bif !(a0.2.2.2.1.1 == r5) then
              some false
            else
              Option.bind (channel_shares a0.1 2) fun r6 =>
              bif !(a0.2.2.2.2.2.1.1 == r6) then
                some false
              else
                Option.bind (claims_Fine a0.2.2.2.1) fun r7 =>
                bif r7 then
                  Option.bind (claims_Fine a0.2.2.2.2.2.1) fun r8 =>
                  bif r8 then
                    letv (decide ((a0.2.2.2.2.1.length : Int) = (a0.2.2.2.1.2.1.length : Int))) fun v1 =>
                    some v1
                  else
                    some false
                else
                  some false
def channel_may (a0 : tzA8 × Int × (List Int) × tzA25 × (List Int) × tzA25 × Unit) (a1 : Int) : Option Bool :=
  Option.bind (claims_Head a0.2.2.2.1) fun r1 =>
  Option.bind (claims_Head a0.2.2.2.2.2.1) fun r2 =>
  bif r1.2.1 then
    Option.bind (poison_Hit a0.2.1 a0.1.2.2.2.1) fun r3 =>
    bif r2.2.1 then
      Option.bind (poison_Hit a0.2.1 a0.1.2.2.1) fun r4 =>
      bif decide (a1 = 1) then
        bif decide (a0.1.2.1 = 0) then
          bif !r3 then
            some (!r4)
          else
            some false
        else
          some false
      else
        bif decide (a1 = 2) then
          bif decide ((a0.2.2.1.length : Int) < a0.1.2.1) then
            some (!r3)
          else
            some false
        else
          bif decide (a1 = 3) then
            bif decide ((a0.2.2.1.length : Int) > 0) then
              some (!r4)
            else
              some false
          else
            some false
    else
      bif decide (a1 = 1) then
        bif decide (a0.1.2.1 = 0) then
          bif !r3 then
            some false
          else
            some false
        else
          some false
      else
        bif decide (a1 = 2) then
          bif decide ((a0.2.2.1.length : Int) < a0.1.2.1) then
            some (!r3)
          else
            some false
        else
          bif decide (a1 = 3) then
            bif decide ((a0.2.2.1.length : Int) > 0) then
              some false
            else
              some false
          else
            some false
  else
    bif r2.2.1 then
      Option.bind (poison_Hit a0.2.1 a0.1.2.2.1) fun r5 =>
      bif decide (a1 = 1) then
        bif decide (a0.1.2.1 = 0) then
          some false
        else
          some false
      else
        bif decide (a1 = 2) then
          bif decide ((a0.2.2.1.length : Int) < a0.1.2.1) then
            some false
          else
            some false
        else
          bif decide (a1 = 3) then
            bif decide ((a0.2.2.1.length : Int) > 0) then
              some (!r5)
            else
              some false
          else
            some false
    else
      bif decide (a1 = 1) then
        bif decide (a0.1.2.1 = 0) then
          some false
        else
          some false
      else
        bif decide (a1 = 2) then
          bif decide ((a0.2.2.1.length : Int) < a0.1.2.1) then
            some false
          else
            some false
        else
          bif decide (a1 = 3) then
            bif decide ((a0.2.2.1.length : Int) > 0) then
              some false
            else
              some false
          else
            some false
def channel_What_J1 (p1 : List Int) : Option (List Int) :=
  some p1
def channel_What_L1 (a0 : tzA8 × Int × (List Int) × tzA25 × (List Int) × tzA25 × Unit) (k1 : (Int × List Int) → Option (List Int)) (x1 : Int × List Int) : Option (List Int) :=
  bif decide (x1.1 ≤ 3) then
    Option.bind (channel_may a0 x1.1) fun r2 =>
    bif r2 then
      chk (x1.2.length + ([x1.1] : List Int).length ≤ 4294967296) <|
      k1 (IntKind.i64.wrap (x1.1 + 1), x1.2 ++ [x1.1])
    else
      k1 (IntKind.i64.wrap (x1.1 + 1), x1.2)
  else
    channel_What_J1 x1.2
def channel_What (a0 : tzA8 × Int × (List Int) × tzA25 × (List Int) × tzA25 × Unit) : Option (List Int) :=
  Option.bind (channel_Fine a0) fun r1 =>
  bif !r1 then
    some []
  else
    loop (channel_What_L1 a0) (1, [])
end Go.Proofs.YtbkccpddkpclaaaGreatDoorV
namespace Go.Proofs.YtbkccpddkpclaaaGreatDoorV
set_option linter.unusedVariables false
def chantab_Moves_J1 (p1 : List (Int × Int × Unit)) : Option tzA32 :=
  some p1
def chantab_Moves_J2 (k1 : (Int × Int × tzA32) → Option tzA32) (x1 : Int × Int × tzA32) (p2 : List (Int × Int × Unit)) : Option tzA32 :=
  k1 (x1.1, IntKind.i64.wrap (x1.2.1 + 1), p2)
def chantab_Moves_J3 (k1 : (Int × Int × tzA32) → Option tzA32) (x1 : Int × Int × tzA32) (p3 : List (Int × Int × Unit)) : Option tzA32 :=
  chantab_Moves_J2 k1 x1 p3
def chantab_Moves_L1 (p4 : Int) (r1 : List Int) (x1 : Int × Int × tzA32) (k1 : (Int × Int × tzA32) → Option tzA32) (k2 : (Int × tzA32) → Option tzA32) (x2 : Int × tzA32) : Option tzA32 :=
  bif decide (x2.1 < p4) then
    chk (0 ≤ x2.1 ∧ x2.1 < (r1.length : Int)) <|
    chk (x2.2.length + ([(x1.2.1, r1.getD x2.1.toNat 0, ())] : List (Int × Int × Unit)).length ≤ 4294967296) <|
    letv (x2.2 ++ [(x1.2.1, r1.getD x2.1.toNat 0, ())]) fun l1 =>
    k2 (IntKind.i64.wrap (x2.1 + 1), l1)
  else
    chantab_Moves_J3 k1 x1 x2.2
def chantab_Moves_L2 (a0 : List tzA2) (k1 : (Int × Int × tzA32) → Option tzA32) (x1 : Int × Int × tzA32) : Option tzA32 :=
  bif decide (x1.2.1 < x1.1) then
    chk (0 ≤ x1.2.1 ∧ x1.2.1 < (a0.length : Int)) <|
    Option.bind (channel_What (a0.getD x1.2.1.toNat ((0, 0, 0, 0, ()), 0, [], (false, [], ()), [], (false, [], ()), ()))) fun r1 =>
    loop (chantab_Moves_L1 (r1.length : Int) r1 x1 k1) (0, x1.2.2)
  else
    chantab_Moves_J1 x1.2.2
def chantab_Moves (a0 : List tzA2) : Option tzA32 :=
  loop (chantab_Moves_L2 a0) ((a0.length : Int), 0, [])
end Go.Proofs.YtbkccpddkpclaaaGreatDoorV
namespace Go.Proofs.YtbkccpddkpclaaaGreatDoorV
set_option linter.unusedVariables false
def clock_held_int (a0 : Int) (a1 : Int) (a2 : Int) : Option Int :=
  some (max a1 (min a0 a2))
def clock_Fine (a0 : Int) : Option Bool :=
  Option.bind (clock_held_int a0 0 1099511627776) fun r1 =>
  some (decide (r1 = a0))
def clock_Due (a0 : Int) (a1 : Int) : Option Bool :=
  Option.bind (clock_Fine a0) fun r1 =>
  bif r1 then
    Option.bind (clock_Fine a1) fun r2 =>
    bif r2 then
      some (decide (a1 ≤ a0))
    else
      some false
  else
    some false
end Go.Proofs.YtbkccpddkpclaaaGreatDoorV
namespace Go.Proofs.YtbkccpddkpclaaaGreatDoorV
set_option linter.unusedVariables false
def ready_View_guards_J1 : Option tzA10 :=
  some []
def ready_View_guards_L1 (p1 : Int) (a0 : Int × (List tzA2) × (List tzA4) × tzA6 × tzA9 × (List Int) × Unit) (a1 : Int) (k1 : Int → Option tzA10) (x1 : Int) : Option tzA10 :=
  bif decide (x1 < p1) then
    chk (0 ≤ x1 ∧ x1 < (a0.2.2.2.1.length : Int)) <|
    bif decide ((a0.2.2.2.1.getD x1.toNat (0, [], ())).1 = a1) then
      letv ((a0.2.2.2.1.getD x1.toNat (0, [], ())).2.1) fun v1 =>
      some v1
    else
      k1 (IntKind.i64.wrap (x1 + 1))
  else
    ready_View_guards_J1
def ready_View_guards (a0 : Int × (List tzA2) × (List tzA4) × tzA6 × tzA9 × (List Int) × Unit) (a1 : Int) : Option tzA10 :=
  loop (ready_View_guards_L1 (a0.2.2.2.1.length : Int) a0 a1) 0
def ready_moves (a0 : Int) : Option Int :=
  letv (IntKind.i64.wrap ((IntKind.i64.wrap (2 + a0)) - 1)) fun v1 =>
  some v1
def ready_one (a0 : Int) (a1 : Int) (a2 : Int × Int × Int × Int × Int × Unit) : Option tzA8 :=
  some (a0, 0, a1, a2.2.2.2.2.1, ())
def ready_View_end_J1 : Option (tzA8 × Bool × Unit) :=
  some ((0, 0, 0, 0, ()), false, ())
def ready_View_end_L1 (p6 : Int) (r4 : List Int) (p2 : Int) (a2 : Int × Int × Int × Int × Int × Unit) (k1 : Int → Option (tzA8 × Bool × Unit)) (x1 : Int) : Option (tzA8 × Bool × Unit) :=
  bif decide (x1 < p6) then
    chk (0 ≤ x1 ∧ x1 < (r4.length : Int)) <|
    bif !decide ((r4.getD x1.toNat 0) = p2) then
      Option.bind (ready_moves (r4.getD x1.toNat 0)) fun r5 =>
      some ((r5, a2.2.1, 0, 0, ()), true, ())
    else
      k1 (IntKind.i64.wrap (x1 + 1))
  else
    ready_View_end_J1
def ready_View_end_J2 (a0 : Int × (List tzA2) × (List tzA4) × tzA6 × tzA9 × (List Int) × Unit) (a2 : Int × Int × Int × Int × Int × Unit) (a1 : Int) (v1 : Int) (p1 : Int) (p2 : Int) (p3 : Int) (p4 : Bool) (p5 : List Int) : Option (tzA8 × Bool × Unit) :=
  Option.bind (poison_Hit (a0.2.1.getD a2.2.1.toNat ((0, 0, 0, 0, ()), 0, [], (false, [], ()), [], (false, [], ()), ())).2.1 p1) fun r1 =>
  bif r1 then
    Option.bind (ready_one 5 a1 a2) fun r2 =>
    some (r2, true, ())
  else
    Option.bind (claims_Head (p4, p5, ())) fun r3 =>
    bif !r3.2.1 then
      some ((0, 0, 0, 0, ()), false, ())
    else
      bif !decide (r3.1 = a1) then
        some ((0, 0, 0, 0, ()), false, ())
      else
        Option.bind (channel_What (((a0.2.1.getD a2.2.1.toNat ((0, 0, 0, 0, ()), 0, [], (false, [], ()), [], (false, [], ()), ())).1.1, (a0.2.1.getD a2.2.1.toNat ((0, 0, 0, 0, ()), 0, [], (false, [], ()), [], (false, [], ()), ())).1.2.1, v1, p3, ()), (a0.2.1.getD a2.2.1.toNat ((0, 0, 0, 0, ()), 0, [], (false, [], ()), [], (false, [], ()), ())).2.1, (a0.2.1.getD a2.2.1.toNat ((0, 0, 0, 0, ()), 0, [], (false, [], ()), [], (false, [], ()), ())).2.2.1, (a0.2.1.getD a2.2.1.toNat ((0, 0, 0, 0, ()), 0, [], (false, [], ()), [], (false, [], ()), ())).2.2.2.1, (a0.2.1.getD a2.2.1.toNat ((0, 0, 0, 0, ()), 0, [], (false, [], ()), [], (false, [], ()), ())).2.2.2.2.1, (a0.2.1.getD a2.2.1.toNat ((0, 0, 0, 0, ()), 0, [], (false, [], ()), [], (false, [], ()), ())).2.2.2.2.2.1, ())) fun r4 =>
        loop (ready_View_end_L1 (r4.length : Int) r4 p2 a2) 0
def ready_View_end (a0 : Int × (List tzA2) × (List tzA4) × tzA6 × tzA9 × (List Int) × Unit) (a1 : Int) (a2 : Int × Int × Int × Int × Int × Unit) : Option (tzA8 × Bool × Unit) :=
  bif decide (a2.2.1 < 0) then
    some ((0, 0, 0, 0, ()), false, ())
  else
    bif decide (a2.2.1 ≥ (a0.2.1.length : Int)) then
      some ((0, 0, 0, 0, ()), false, ())
    else
      chk (0 ≤ a2.2.1 ∧ a2.2.1 < (a0.2.1.length : Int)) <|
      letv ((a0.2.1.getD a2.2.1.toNat ((0, 0, 0, 0, ()), 0, [], (false, [], ()), [], (false, [], ()), ())).1.2.2.1) fun v1 =>
      bif decide (a2.1 = 2) then
        letv ((a0.2.1.getD a2.2.1.toNat ((0, 0, 0, 0, ()), 0, [], (false, [], ()), [], (false, [], ()), ())).1.2.2.2.1) fun v2 =>
        ready_View_end_J2 a0 a2 a1 v1 v2 3 v2 (a0.2.1.getD a2.2.1.toNat ((0, 0, 0, 0, ()), 0, [], (false, [], ()), [], (false, [], ()), ())).2.2.2.1.1 (a0.2.1.getD a2.2.1.toNat ((0, 0, 0, 0, ()), 0, [], (false, [], ()), [], (false, [], ()), ())).2.2.2.1.2.1
      else
        ready_View_end_J2 a0 a2 a1 v1 v1 2 (a0.2.1.getD a2.2.1.toNat ((0, 0, 0, 0, ()), 0, [], (false, [], ()), [], (false, [], ()), ())).1.2.2.2.1 (a0.2.1.getD a2.2.1.toNat ((0, 0, 0, 0, ()), 0, [], (false, [], ()), [], (false, [], ()), ())).2.2.2.2.2.1.1 (a0.2.1.getD a2.2.1.toNat ((0, 0, 0, 0, ()), 0, [], (false, [], ()), [], (false, [], ()), ())).2.2.2.2.2.1.2.1
def ready_View_at (a0 : Int × (List tzA2) × (List tzA4) × tzA6 × tzA9 × (List Int) × Unit) (a1 : Int) (a2 : Int) : Option Bool :=
  Option.bind (bartab_Ready a0.2.2.1) fun r1 =>
  Option.bind (slices_Contains_int_int r1 a2) fun r2 =>
  bif r2 then
    chk (0 ≤ a2 ∧ a2 < (a0.2.2.1.length : Int)) <|
    Option.bind (bitset_Has (a0.2.2.1.getD a2.toNat ((false, 0, ()), ((List.replicate 4 0), (List.replicate 4 0), ()), 0, ())).2.1.2.1 a1) fun r3 =>
    some r3
  else
    some false
def ready_View_due_J1 (k1 : Bool → Option Bool) : Option Bool :=
  k1 false
def ready_View_due_L1 (p1 : Int) (a0 : Int × (List tzA2) × (List tzA4) × tzA6 × tzA9 × (List Int) × Unit) (a1 : Int) (a2 : Int × Int × Int × Int × Int × Unit) (k1 : Bool → Option Bool) (k2 : Int → Option Bool) (x2 : Int) : Option Bool :=
  bif decide (x2 < p1) then
    chk (0 ≤ x2 ∧ x2 < (a0.2.2.2.2.1.length : Int)) <|
    bif decide ((a0.2.2.2.2.1.getD x2.toNat (0, 0, 0, ())).2.2.1 = (IntKind.i64.wrap ((IntKind.i64.wrap (8 * a1)) + a2.2.2.2.2.1))) then
      Option.bind (clock_Due a0.1 (a0.2.2.2.2.1.getD x2.toNat (0, 0, 0, ())).1) fun r1 =>
      bif r1 then
        k1 (decide (x2 ≥ 0))
      else
        k2 (IntKind.i64.wrap (x2 + 1))
    else
      k2 (IntKind.i64.wrap (x2 + 1))
  else
    ready_View_due_J1 k1
def ready_View_due_C1 (a0 : Int × (List tzA2) × (List tzA4) × tzA6 × tzA9 × (List Int) × Unit) (a1 : Int) (a2 : Int × Int × Int × Int × Int × Unit) (k1 : Bool → Option Bool) : Option Bool :=
  loop (ready_View_due_L1 (a0.2.2.2.2.1.length : Int) a0 a1 a2 k1) 0
def ready_View_due_R1 (x1 : Bool) : Option Bool :=
  some x1
def ready_View_due (a0 : Int × (List tzA2) × (List tzA4) × tzA6 × tzA9 × (List Int) × Unit) (a1 : Int) (a2 : Int × Int × Int × Int × Int × Unit) : Option Bool :=
  cutv 1 (ready_View_due_C1 a0 a1 a2) ready_View_due_R1
def ready_View_of_J1 (a0 : Int × (List tzA2) × (List tzA4) × tzA6 × tzA9 × (List Int) × Unit) (a1 : Int) (a2 : Int × Int × Int × Int × Int × Unit) (k1 : Unit → Option (tzA8 × Bool × Unit)) (p1 : Bool) : Option (tzA8 × Bool × Unit) :=
  bif p1 then
    Option.bind (ready_View_end a0 a1 a2) fun r1 =>
    some (r1.1, r1.2.1, ())
  else
    bif decide (a2.1 = 3) then
      Option.bind (ready_View_at a0 a1 a2.2.1) fun r2 =>
      bif r2 then
        some ((1, a2.2.1, 0, 0, ()), true, ())
      else
        k1 ()
    else
      bif decide (a2.1 = 4) then
        Option.bind (ready_View_due a0 a1 a2) fun r3 =>
        bif r3 then
          Option.bind (ready_one 6 a1 a2) fun r4 =>
          some (r4, true, ())
        else
          k1 ()
      else
        bif decide (a2.1 = 6) then
          Option.bind (slices_Contains_int_int a0.2.2.2.2.2.1 a2.2.2.1) fun r5 =>
          bif !r5 then
            Option.bind (ready_one 7 a1 a2) fun r6 =>
            some (r6, true, ())
          else
            k1 ()
        else
          bif decide (a2.1 = 5) then
            Option.bind (ready_one 8 a1 a2) fun r7 =>
            some (r7, true, ())
          else
            k1 ()
def ready_View_of_C1 (a2 : Int × Int × Int × Int × Int × Unit) (a0 : Int × (List tzA2) × (List tzA4) × tzA6 × tzA9 × (List Int) × Unit) (a1 : Int) (k1 : Unit → Option (tzA8 × Bool × Unit)) : Option (tzA8 × Bool × Unit) :=
  bif decide (a2.1 = 1) then
    ready_View_of_J1 a0 a1 a2 k1 true
  else
    ready_View_of_J1 a0 a1 a2 k1 (decide (a2.1 = 2))
def ready_View_of_R1 (x1 : Unit) : Option (tzA8 × Bool × Unit) :=
  some ((0, 0, 0, 0, ()), false, ())
def ready_View_of (a0 : Int × (List tzA2) × (List tzA4) × tzA6 × tzA9 × (List Int) × Unit) (a1 : Int) (a2 : Int × Int × Int × Int × Int × Unit) : Option (tzA8 × Bool × Unit) :=
  cutv 1 (ready_View_of_C1 a2 a0 a1) ready_View_of_R1
def ready_Which_J1 : Option (tzA8 × Bool × Unit) :=
  some ((0, 0, 0, 0, ()), false, ())
def ready_Which_L1 (p1 : Int) (r1 : List tzA31) (a2 : Int) (a0 : Int × (List tzA2) × (List tzA4) × tzA6 × tzA9 × (List Int) × Unit) (a1 : Int) (k1 : Int → Option (tzA8 × Bool × Unit)) (x1 : Int) : Option (tzA8 × Bool × Unit) :=
  bif decide (x1 < p1) then
    chk (0 ≤ x1 ∧ x1 < (r1.length : Int)) <|
    bif decide ((r1.getD x1.toNat (0, 0, 0, 0, 0, ())).2.2.2.2.1 = a2) then
      Option.bind (ready_View_of a0 a1 (r1.getD x1.toNat (0, 0, 0, 0, 0, ()))) fun r2 =>
      some (r2.1, r2.2.1, ())
    else
      k1 (IntKind.i64.wrap (x1 + 1))
  else
    ready_Which_J1
def ready_Which (a0 : Int × (List tzA2) × (List tzA4) × tzA6 × tzA9 × (List Int) × Unit) (a1 : Int) (a2 : Int) : Option (tzA8 × Bool × Unit) :=
  Option.bind (ready_View_guards a0 a1) fun r1 =>
  loop (ready_Which_L1 (r1.length : Int) r1 a2 a0 a1) 0
def ready_Guards_J1 (p1 : List Int) : Option (List Int) :=
  some p1
def ready_Guards_L1 (p2 : Int) (r1 : List tzA31) (a0 : Int × (List tzA2) × (List tzA4) × tzA6 × tzA9 × (List Int) × Unit) (a1 : Int) (k1 : (Int × List Int) → Option (List Int)) (x1 : Int × List Int) : Option (List Int) :=
  bif decide (x1.1 < p2) then
    chk (0 ≤ x1.1 ∧ x1.1 < (r1.length : Int)) <|
    Option.bind (ready_View_of a0 a1 (r1.getD x1.1.toNat (0, 0, 0, 0, 0, ()))) fun r2 =>
    bif r2.2.1 then
      letv ([(r1.getD x1.1.toNat (0, 0, 0, 0, 0, ())).2.2.2.2.1]) fun l1 =>
      chk (x1.2.length + l1.length ≤ 4294967296) <|
      k1 (IntKind.i64.wrap (x1.1 + 1), x1.2 ++ l1)
    else
      k1 (IntKind.i64.wrap (x1.1 + 1), x1.2)
  else
    ready_Guards_J1 x1.2
def ready_Guards (a0 : Int × (List tzA2) × (List tzA4) × tzA6 × tzA9 × (List Int) × Unit) (a1 : Int) : Option (List Int) :=
  Option.bind (ready_View_guards a0 a1) fun r1 =>
  loop (ready_Guards_L1 (r1.length : Int) r1 a0 a1) (0, [])
def ready_Events_J1 (k1 : (Int × (List tzA2) × (List tzA4) × tzA6 × tzA9 × List Int × (List tzA8)) → Option (List tzA8)) (p3 : Int) (p4 : List tzA2) (p5 : List tzA4) (p6 : List (Int × tzA10 × Unit)) (p7 : List (Int × Int × Int × Unit)) (p8 : List Int) (p9 : List tzA8) (p10 : List tzA8) : Option (List tzA8) :=
  chk (p9.length + p10.length ≤ 4294967296) <|
  k1 (p3, p4, p5, p6, p7, p8, p9 ++ p10)
def ready_Events_J2 (k2 : tzA18 → Option (List tzA8)) (p11 : List (Int × tzA10 × Unit)) (p12 : Int) (p13 : Int) (p14 : Int) (p15 : List tzA2) (p16 : List tzA4) (p17 : List (Int × tzA10 × Unit)) (p18 : List (Int × Int × Int × Unit)) (p19 : List Int) (p20 : List tzA8) (p21 : Int) (p22 : List tzA2) (p23 : List tzA4) (p24 : List (Int × tzA10 × Unit)) (p25 : List (Int × Int × Int × Unit)) (p26 : List Int) (p27 : List tzA8) : Option (List tzA8) :=
  k2 (p11, p12, IntKind.i64.wrap (p13 + 1), p14, p15, p16, p17, p18, p19, p20, p21, p22, p23, p24, p25, p26, p27)
def ready_Events_J3 (k2 : tzA18 → Option (List tzA8)) (p28 : List (Int × tzA10 × Unit)) (p29 : Int) (p30 : Int) (p31 : Int) (p32 : List tzA2) (p33 : List tzA4) (p34 : List (Int × tzA10 × Unit)) (p35 : List (Int × Int × Int × Unit)) (p36 : List Int) (p37 : List tzA8) (p38 : Int) (p39 : List tzA2) (p40 : List tzA4) (p41 : List (Int × tzA10 × Unit)) (p42 : List (Int × Int × Int × Unit)) (p43 : List Int) (p44 : List tzA8) : Option (List tzA8) :=
  ready_Events_J2 k2 p28 p29 p30 p31 p32 p33 p34 p35 p36 p37 p38 p39 p40 p41 p42 p43 p44
def ready_Events_C1 (x3 : tzA6 × Int × Int × tzA10 × Int × Int × Int × (List tzA2) × (List tzA4) × tzA6 × tzA9 × List Int × (List tzA8) × Int × (List tzA2) × (List tzA4) × tzA6 × tzA9 × List Int × Int × tzA10 × (List tzA8)) (k4 : tzA20 → Option (List tzA8)) : Option (List tzA8) :=
  chk (0 ≤ x3.2.2.2.2.2.1 ∧ x3.2.2.2.2.2.1 < (x3.2.2.2.1.length : Int)) <|
  Option.bind (ready_View_of (x3.2.2.2.2.2.2.2.2.2.2.2.2.2.1, x3.2.2.2.2.2.2.2.2.2.2.2.2.2.2.1, x3.2.2.2.2.2.2.2.2.2.2.2.2.2.2.2.1, x3.2.2.2.2.2.2.2.2.2.2.2.2.2.2.2.2.1, x3.2.2.2.2.2.2.2.2.2.2.2.2.2.2.2.2.2.1, x3.2.2.2.2.2.2.2.2.2.2.2.2.2.2.2.2.2.2.1, ()) x3.2.2.2.2.2.2.2.2.2.2.2.2.2.2.2.2.2.2.2.1 (x3.2.2.2.1.getD x3.2.2.2.2.2.1.toNat (0, 0, 0, 0, 0, ()))) fun r3 =>
  bif r3.2.1 then
    bif decide (r3.1.1 = 5) then
      chk (x3.2.2.2.2.2.2.2.2.2.2.2.2.2.2.2.2.2.2.2.2.2.length + ([r3.1] : List tzA8).length ≤ 4294967296) <|
      letv (x3.2.2.2.2.2.2.2.2.2.2.2.2.2.2.2.2.2.2.2.2.2 ++ [r3.1]) fun l1 =>
      k4 (x3.1, x3.2.1, x3.2.2.1, x3.2.2.2.1, x3.2.2.2.2.1, x3.2.2.2.2.2.1, x3.2.2.2.2.2.2.1, x3.2.2.2.2.2.2.2.1, x3.2.2.2.2.2.2.2.2.1, x3.2.2.2.2.2.2.2.2.2.1, x3.2.2.2.2.2.2.2.2.2.2.1, x3.2.2.2.2.2.2.2.2.2.2.2.1, x3.2.2.2.2.2.2.2.2.2.2.2.2.1, x3.2.2.2.2.2.2.2.2.2.2.2.2.2.1, x3.2.2.2.2.2.2.2.2.2.2.2.2.2.2.1, x3.2.2.2.2.2.2.2.2.2.2.2.2.2.2.2.1, x3.2.2.2.2.2.2.2.2.2.2.2.2.2.2.2.2.1, x3.2.2.2.2.2.2.2.2.2.2.2.2.2.2.2.2.2.1, x3.2.2.2.2.2.2.2.2.2.2.2.2.2.2.2.2.2.2.1, x3.2.2.2.2.2.2.2.2.2.2.2.2.2.2.2.2.2.2.2.1, x3.2.2.2.2.2.2.2.2.2.2.2.2.2.2.2.2.2.2.2.2.1, l1)
    else
      k4 (x3.1, x3.2.1, x3.2.2.1, x3.2.2.2.1, x3.2.2.2.2.1, x3.2.2.2.2.2.1, x3.2.2.2.2.2.2.1, x3.2.2.2.2.2.2.2.1, x3.2.2.2.2.2.2.2.2.1, x3.2.2.2.2.2.2.2.2.2.1, x3.2.2.2.2.2.2.2.2.2.2.1, x3.2.2.2.2.2.2.2.2.2.2.2.1, x3.2.2.2.2.2.2.2.2.2.2.2.2.1, x3.2.2.2.2.2.2.2.2.2.2.2.2.2.1, x3.2.2.2.2.2.2.2.2.2.2.2.2.2.2.1, x3.2.2.2.2.2.2.2.2.2.2.2.2.2.2.2.1, x3.2.2.2.2.2.2.2.2.2.2.2.2.2.2.2.2.1, x3.2.2.2.2.2.2.2.2.2.2.2.2.2.2.2.2.2.1, x3.2.2.2.2.2.2.2.2.2.2.2.2.2.2.2.2.2.2.1, x3.2.2.2.2.2.2.2.2.2.2.2.2.2.2.2.2.2.2.2.1, x3.2.2.2.2.2.2.2.2.2.2.2.2.2.2.2.2.2.2.2.2.1, x3.2.2.2.2.2.2.2.2.2.2.2.2.2.2.2.2.2.2.2.2.2)
  else
    k4 (x3.1, x3.2.1, x3.2.2.1, x3.2.2.2.1, x3.2.2.2.2.1, x3.2.2.2.2.2.1, x3.2.2.2.2.2.2.1, x3.2.2.2.2.2.2.2.1, x3.2.2.2.2.2.2.2.2.1, x3.2.2.2.2.2.2.2.2.2.1, x3.2.2.2.2.2.2.2.2.2.2.1, x3.2.2.2.2.2.2.2.2.2.2.2.1, x3.2.2.2.2.2.2.2.2.2.2.2.2.1, x3.2.2.2.2.2.2.2.2.2.2.2.2.2.1, x3.2.2.2.2.2.2.2.2.2.2.2.2.2.2.1, x3.2.2.2.2.2.2.2.2.2.2.2.2.2.2.2.1, x3.2.2.2.2.2.2.2.2.2.2.2.2.2.2.2.2.1, x3.2.2.2.2.2.2.2.2.2.2.2.2.2.2.2.2.2.1, x3.2.2.2.2.2.2.2.2.2.2.2.2.2.2.2.2.2.2.1, x3.2.2.2.2.2.2.2.2.2.2.2.2.2.2.2.2.2.2.2.1, x3.2.2.2.2.2.2.2.2.2.2.2.2.2.2.2.2.2.2.2.2.1, x3.2.2.2.2.2.2.2.2.2.2.2.2.2.2.2.2.2.2.2.2.2)
def ready_Events_R1 (k3 : tzA20 → Option (List tzA8)) (x4 : tzA6 × Int × Int × tzA10 × Int × Int × Int × (List tzA2) × (List tzA4) × tzA6 × tzA9 × List Int × (List tzA8) × Int × (List tzA2) × (List tzA4) × tzA6 × tzA9 × List Int × Int × tzA10 × (List tzA8)) : Option (List tzA8) :=
  k3 (x4.1, x4.2.1, x4.2.2.1, x4.2.2.2.1, x4.2.2.2.2.1, IntKind.i64.wrap (x4.2.2.2.2.2.1 + 1), x4.2.2.2.2.2.2.1, x4.2.2.2.2.2.2.2.1, x4.2.2.2.2.2.2.2.2.1, x4.2.2.2.2.2.2.2.2.2.1, x4.2.2.2.2.2.2.2.2.2.2.1, x4.2.2.2.2.2.2.2.2.2.2.2.1, x4.2.2.2.2.2.2.2.2.2.2.2.2.1, x4.2.2.2.2.2.2.2.2.2.2.2.2.2.1, x4.2.2.2.2.2.2.2.2.2.2.2.2.2.2.1, x4.2.2.2.2.2.2.2.2.2.2.2.2.2.2.2.1, x4.2.2.2.2.2.2.2.2.2.2.2.2.2.2.2.2.1, x4.2.2.2.2.2.2.2.2.2.2.2.2.2.2.2.2.2.1, x4.2.2.2.2.2.2.2.2.2.2.2.2.2.2.2.2.2.2.1, x4.2.2.2.2.2.2.2.2.2.2.2.2.2.2.2.2.2.2.2.1, x4.2.2.2.2.2.2.2.2.2.2.2.2.2.2.2.2.2.2.2.2.1, x4.2.2.2.2.2.2.2.2.2.2.2.2.2.2.2.2.2.2.2.2.2)
def ready_Events_L1 (k2 : tzA18 → Option (List tzA8)) (k3 : tzA20 → Option (List tzA8)) (x3 : tzA6 × Int × Int × tzA10 × Int × Int × Int × (List tzA2) × (List tzA4) × tzA6 × tzA9 × List Int × (List tzA8) × Int × (List tzA2) × (List tzA4) × tzA6 × tzA9 × List Int × Int × tzA10 × (List tzA8)) : Option (List tzA8) :=
  bif decide (x3.2.2.2.2.2.1 < x3.2.2.2.2.1) then
    cutv 1 (ready_Events_C1 x3) (ready_Events_R1 k3)
  else
    ready_Events_J3 k2 x3.1 x3.2.1 x3.2.2.1 x3.2.2.2.2.2.2.1 x3.2.2.2.2.2.2.2.1 x3.2.2.2.2.2.2.2.2.1 x3.2.2.2.2.2.2.2.2.2.1 x3.2.2.2.2.2.2.2.2.2.2.1 x3.2.2.2.2.2.2.2.2.2.2.2.1 x3.2.2.2.2.2.2.2.2.2.2.2.2.1 x3.2.2.2.2.2.2.2.2.2.2.2.2.2.1 x3.2.2.2.2.2.2.2.2.2.2.2.2.2.2.1 x3.2.2.2.2.2.2.2.2.2.2.2.2.2.2.2.1 x3.2.2.2.2.2.2.2.2.2.2.2.2.2.2.2.2.1 x3.2.2.2.2.2.2.2.2.2.2.2.2.2.2.2.2.2.1 x3.2.2.2.2.2.2.2.2.2.2.2.2.2.2.2.2.2.2.1 x3.2.2.2.2.2.2.2.2.2.2.2.2.2.2.2.2.2.2.2.2.2
def ready_Events_L2 (k1 : (Int × (List tzA2) × (List tzA4) × tzA6 × tzA9 × List Int × (List tzA8)) → Option (List tzA8)) (k2 : tzA18 → Option (List tzA8)) (x2 : tzA6 × Int × Int × Int × (List tzA2) × (List tzA4) × tzA6 × tzA9 × List Int × (List tzA8) × Int × (List tzA2) × (List tzA4) × tzA6 × tzA9 × List Int × (List tzA8)) : Option (List tzA8) :=
  bif decide (x2.2.2.1 < x2.2.1) then
    chk (0 ≤ x2.2.2.1 ∧ x2.2.2.1 < (x2.1.length : Int)) <|
    loop (ready_Events_L1 k2) (x2.1, x2.2.1, x2.2.2.1, (x2.1.getD x2.2.2.1.toNat (0, [], ())).2.1, ((x2.1.getD x2.2.2.1.toNat (0, [], ())).2.1.length : Int), 0, x2.2.2.2.1, x2.2.2.2.2.1, x2.2.2.2.2.2.1, x2.2.2.2.2.2.2.1, x2.2.2.2.2.2.2.2.1, x2.2.2.2.2.2.2.2.2.1, x2.2.2.2.2.2.2.2.2.2.1, x2.2.2.2.2.2.2.2.2.2.2.1, x2.2.2.2.2.2.2.2.2.2.2.2.1, x2.2.2.2.2.2.2.2.2.2.2.2.2.1, x2.2.2.2.2.2.2.2.2.2.2.2.2.2.1, x2.2.2.2.2.2.2.2.2.2.2.2.2.2.2.1, x2.2.2.2.2.2.2.2.2.2.2.2.2.2.2.2.1, (x2.1.getD x2.2.2.1.toNat (0, [], ())).1, (x2.1.getD x2.2.2.1.toNat (0, [], ())).2.1, x2.2.2.2.2.2.2.2.2.2.2.2.2.2.2.2.2)
  else
    ready_Events_J1 k1 x2.2.2.2.1 x2.2.2.2.2.1 x2.2.2.2.2.2.1 x2.2.2.2.2.2.2.1 x2.2.2.2.2.2.2.2.1 x2.2.2.2.2.2.2.2.2.1 x2.2.2.2.2.2.2.2.2.2.1 x2.2.2.2.2.2.2.2.2.2.2.2.2.2.2.2.2
def ready_Events_C2 (a0 : Int × (List tzA2) × (List tzA4) × tzA6 × tzA9 × (List Int) × Unit) (p2 : List tzA8) (k1 : (Int × (List tzA2) × (List tzA4) × tzA6 × tzA9 × List Int × (List tzA8)) → Option (List tzA8)) : Option (List tzA8) :=
  loop (ready_Events_L2 k1) (a0.2.2.2.1, (a0.2.2.2.1.length : Int), 0, a0.1, a0.2.1, a0.2.2.1, a0.2.2.2.1, a0.2.2.2.2.1, a0.2.2.2.2.2.1, p2, a0.1, a0.2.1, a0.2.2.1, a0.2.2.2.1, a0.2.2.2.2.1, a0.2.2.2.2.2.1, [])
def ready_Events_J4 (k5 : (Int × (List tzA2) × (List tzA4) × tzA6 × tzA9 × List Int × (List tzA8)) → Option (List tzA8)) (p46 : Int) (p47 : List tzA2) (p48 : List tzA4) (p49 : List (Int × tzA10 × Unit)) (p50 : List (Int × Int × Int × Unit)) (p51 : List Int) (p52 : List tzA8) (p53 : List tzA8) : Option (List tzA8) :=
  chk (p52.length + p53.length ≤ 4294967296) <|
  k5 (p46, p47, p48, p49, p50, p51, p52 ++ p53)
def ready_Events_J5 (k6 : tzA18 → Option (List tzA8)) (p54 : List (Int × tzA10 × Unit)) (p55 : Int) (p56 : Int) (p57 : Int) (p58 : List tzA2) (p59 : List tzA4) (p60 : List (Int × tzA10 × Unit)) (p61 : List (Int × Int × Int × Unit)) (p62 : List Int) (p63 : List tzA8) (p64 : Int) (p65 : List tzA2) (p66 : List tzA4) (p67 : List (Int × tzA10 × Unit)) (p68 : List (Int × Int × Int × Unit)) (p69 : List Int) (p70 : List tzA8) : Option (List tzA8) :=
  k6 (p54, p55, IntKind.i64.wrap (p56 + 1), p57, p58, p59, p60, p61, p62, p63, p64, p65, p66, p67, p68, p69, p70)
def ready_Events_J6 (k6 : tzA18 → Option (List tzA8)) (p71 : List (Int × tzA10 × Unit)) (p72 : Int) (p73 : Int) (p74 : Int) (p75 : List tzA2) (p76 : List tzA4) (p77 : List (Int × tzA10 × Unit)) (p78 : List (Int × Int × Int × Unit)) (p79 : List Int) (p80 : List tzA8) (p81 : Int) (p82 : List tzA2) (p83 : List tzA4) (p84 : List (Int × tzA10 × Unit)) (p85 : List (Int × Int × Int × Unit)) (p86 : List Int) (p87 : List tzA8) : Option (List tzA8) :=
  ready_Events_J5 k6 p71 p72 p73 p74 p75 p76 p77 p78 p79 p80 p81 p82 p83 p84 p85 p86 p87
def ready_Events_C3 (x7 : tzA6 × Int × Int × tzA10 × Int × Int × Int × (List tzA2) × (List tzA4) × tzA6 × tzA9 × List Int × (List tzA8) × Int × (List tzA2) × (List tzA4) × tzA6 × tzA9 × List Int × Int × tzA10 × (List tzA8)) (k8 : tzA20 → Option (List tzA8)) : Option (List tzA8) :=
  chk (0 ≤ x7.2.2.2.2.2.1 ∧ x7.2.2.2.2.2.1 < (x7.2.2.2.1.length : Int)) <|
  Option.bind (ready_View_of (x7.2.2.2.2.2.2.2.2.2.2.2.2.2.1, x7.2.2.2.2.2.2.2.2.2.2.2.2.2.2.1, x7.2.2.2.2.2.2.2.2.2.2.2.2.2.2.2.1, x7.2.2.2.2.2.2.2.2.2.2.2.2.2.2.2.2.1, x7.2.2.2.2.2.2.2.2.2.2.2.2.2.2.2.2.2.1, x7.2.2.2.2.2.2.2.2.2.2.2.2.2.2.2.2.2.2.1, ()) x7.2.2.2.2.2.2.2.2.2.2.2.2.2.2.2.2.2.2.2.1 (x7.2.2.2.1.getD x7.2.2.2.2.2.1.toNat (0, 0, 0, 0, 0, ()))) fun r4 =>
  bif r4.2.1 then
    bif decide (r4.1.1 = 7) then
      chk (x7.2.2.2.2.2.2.2.2.2.2.2.2.2.2.2.2.2.2.2.2.2.length + ([r4.1] : List tzA8).length ≤ 4294967296) <|
      letv (x7.2.2.2.2.2.2.2.2.2.2.2.2.2.2.2.2.2.2.2.2.2 ++ [r4.1]) fun l2 =>
      k8 (x7.1, x7.2.1, x7.2.2.1, x7.2.2.2.1, x7.2.2.2.2.1, x7.2.2.2.2.2.1, x7.2.2.2.2.2.2.1, x7.2.2.2.2.2.2.2.1, x7.2.2.2.2.2.2.2.2.1, x7.2.2.2.2.2.2.2.2.2.1, x7.2.2.2.2.2.2.2.2.2.2.1, x7.2.2.2.2.2.2.2.2.2.2.2.1, x7.2.2.2.2.2.2.2.2.2.2.2.2.1, x7.2.2.2.2.2.2.2.2.2.2.2.2.2.1, x7.2.2.2.2.2.2.2.2.2.2.2.2.2.2.1, x7.2.2.2.2.2.2.2.2.2.2.2.2.2.2.2.1, x7.2.2.2.2.2.2.2.2.2.2.2.2.2.2.2.2.1, x7.2.2.2.2.2.2.2.2.2.2.2.2.2.2.2.2.2.1, x7.2.2.2.2.2.2.2.2.2.2.2.2.2.2.2.2.2.2.1, x7.2.2.2.2.2.2.2.2.2.2.2.2.2.2.2.2.2.2.2.1, x7.2.2.2.2.2.2.2.2.2.2.2.2.2.2.2.2.2.2.2.2.1, l2)
    else
      k8 (x7.1, x7.2.1, x7.2.2.1, x7.2.2.2.1, x7.2.2.2.2.1, x7.2.2.2.2.2.1, x7.2.2.2.2.2.2.1, x7.2.2.2.2.2.2.2.1, x7.2.2.2.2.2.2.2.2.1, x7.2.2.2.2.2.2.2.2.2.1, x7.2.2.2.2.2.2.2.2.2.2.1, x7.2.2.2.2.2.2.2.2.2.2.2.1, x7.2.2.2.2.2.2.2.2.2.2.2.2.1, x7.2.2.2.2.2.2.2.2.2.2.2.2.2.1, x7.2.2.2.2.2.2.2.2.2.2.2.2.2.2.1, x7.2.2.2.2.2.2.2.2.2.2.2.2.2.2.2.1, x7.2.2.2.2.2.2.2.2.2.2.2.2.2.2.2.2.1, x7.2.2.2.2.2.2.2.2.2.2.2.2.2.2.2.2.2.1, x7.2.2.2.2.2.2.2.2.2.2.2.2.2.2.2.2.2.2.1, x7.2.2.2.2.2.2.2.2.2.2.2.2.2.2.2.2.2.2.2.1, x7.2.2.2.2.2.2.2.2.2.2.2.2.2.2.2.2.2.2.2.2.1, x7.2.2.2.2.2.2.2.2.2.2.2.2.2.2.2.2.2.2.2.2.2)
  else
    k8 (x7.1, x7.2.1, x7.2.2.1, x7.2.2.2.1, x7.2.2.2.2.1, x7.2.2.2.2.2.1, x7.2.2.2.2.2.2.1, x7.2.2.2.2.2.2.2.1, x7.2.2.2.2.2.2.2.2.1, x7.2.2.2.2.2.2.2.2.2.1, x7.2.2.2.2.2.2.2.2.2.2.1, x7.2.2.2.2.2.2.2.2.2.2.2.1, x7.2.2.2.2.2.2.2.2.2.2.2.2.1, x7.2.2.2.2.2.2.2.2.2.2.2.2.2.1, x7.2.2.2.2.2.2.2.2.2.2.2.2.2.2.1, x7.2.2.2.2.2.2.2.2.2.2.2.2.2.2.2.1, x7.2.2.2.2.2.2.2.2.2.2.2.2.2.2.2.2.1, x7.2.2.2.2.2.2.2.2.2.2.2.2.2.2.2.2.2.1, x7.2.2.2.2.2.2.2.2.2.2.2.2.2.2.2.2.2.2.1, x7.2.2.2.2.2.2.2.2.2.2.2.2.2.2.2.2.2.2.2.1, x7.2.2.2.2.2.2.2.2.2.2.2.2.2.2.2.2.2.2.2.2.1, x7.2.2.2.2.2.2.2.2.2.2.2.2.2.2.2.2.2.2.2.2.2)
def ready_Events_R3 (k7 : tzA20 → Option (List tzA8)) (x8 : tzA6 × Int × Int × tzA10 × Int × Int × Int × (List tzA2) × (List tzA4) × tzA6 × tzA9 × List Int × (List tzA8) × Int × (List tzA2) × (List tzA4) × tzA6 × tzA9 × List Int × Int × tzA10 × (List tzA8)) : Option (List tzA8) :=
  k7 (x8.1, x8.2.1, x8.2.2.1, x8.2.2.2.1, x8.2.2.2.2.1, IntKind.i64.wrap (x8.2.2.2.2.2.1 + 1), x8.2.2.2.2.2.2.1, x8.2.2.2.2.2.2.2.1, x8.2.2.2.2.2.2.2.2.1, x8.2.2.2.2.2.2.2.2.2.1, x8.2.2.2.2.2.2.2.2.2.2.1, x8.2.2.2.2.2.2.2.2.2.2.2.1, x8.2.2.2.2.2.2.2.2.2.2.2.2.1, x8.2.2.2.2.2.2.2.2.2.2.2.2.2.1, x8.2.2.2.2.2.2.2.2.2.2.2.2.2.2.1, x8.2.2.2.2.2.2.2.2.2.2.2.2.2.2.2.1, x8.2.2.2.2.2.2.2.2.2.2.2.2.2.2.2.2.1, x8.2.2.2.2.2.2.2.2.2.2.2.2.2.2.2.2.2.1, x8.2.2.2.2.2.2.2.2.2.2.2.2.2.2.2.2.2.2.1, x8.2.2.2.2.2.2.2.2.2.2.2.2.2.2.2.2.2.2.2.1, x8.2.2.2.2.2.2.2.2.2.2.2.2.2.2.2.2.2.2.2.2.1, x8.2.2.2.2.2.2.2.2.2.2.2.2.2.2.2.2.2.2.2.2.2)
def ready_Events_L3 (k6 : tzA18 → Option (List tzA8)) (k7 : tzA20 → Option (List tzA8)) (x7 : tzA6 × Int × Int × tzA10 × Int × Int × Int × (List tzA2) × (List tzA4) × tzA6 × tzA9 × List Int × (List tzA8) × Int × (List tzA2) × (List tzA4) × tzA6 × tzA9 × List Int × Int × tzA10 × (List tzA8)) : Option (List tzA8) :=
  bif decide (x7.2.2.2.2.2.1 < x7.2.2.2.2.1) then
    cutv 3 (ready_Events_C3 x7) (ready_Events_R3 k7)
  else
    ready_Events_J6 k6 x7.1 x7.2.1 x7.2.2.1 x7.2.2.2.2.2.2.1 x7.2.2.2.2.2.2.2.1 x7.2.2.2.2.2.2.2.2.1 x7.2.2.2.2.2.2.2.2.2.1 x7.2.2.2.2.2.2.2.2.2.2.1 x7.2.2.2.2.2.2.2.2.2.2.2.1 x7.2.2.2.2.2.2.2.2.2.2.2.2.1 x7.2.2.2.2.2.2.2.2.2.2.2.2.2.1 x7.2.2.2.2.2.2.2.2.2.2.2.2.2.2.1 x7.2.2.2.2.2.2.2.2.2.2.2.2.2.2.2.1 x7.2.2.2.2.2.2.2.2.2.2.2.2.2.2.2.2.1 x7.2.2.2.2.2.2.2.2.2.2.2.2.2.2.2.2.2.1 x7.2.2.2.2.2.2.2.2.2.2.2.2.2.2.2.2.2.2.1 x7.2.2.2.2.2.2.2.2.2.2.2.2.2.2.2.2.2.2.2.2.2
def ready_Events_L4 (k5 : (Int × (List tzA2) × (List tzA4) × tzA6 × tzA9 × List Int × (List tzA8)) → Option (List tzA8)) (k6 : tzA18 → Option (List tzA8)) (x6 : tzA6 × Int × Int × Int × (List tzA2) × (List tzA4) × tzA6 × tzA9 × List Int × (List tzA8) × Int × (List tzA2) × (List tzA4) × tzA6 × tzA9 × List Int × (List tzA8)) : Option (List tzA8) :=
  bif decide (x6.2.2.1 < x6.2.1) then
    chk (0 ≤ x6.2.2.1 ∧ x6.2.2.1 < (x6.1.length : Int)) <|
    loop (ready_Events_L3 k6) (x6.1, x6.2.1, x6.2.2.1, (x6.1.getD x6.2.2.1.toNat (0, [], ())).2.1, ((x6.1.getD x6.2.2.1.toNat (0, [], ())).2.1.length : Int), 0, x6.2.2.2.1, x6.2.2.2.2.1, x6.2.2.2.2.2.1, x6.2.2.2.2.2.2.1, x6.2.2.2.2.2.2.2.1, x6.2.2.2.2.2.2.2.2.1, x6.2.2.2.2.2.2.2.2.2.1, x6.2.2.2.2.2.2.2.2.2.2.1, x6.2.2.2.2.2.2.2.2.2.2.2.1, x6.2.2.2.2.2.2.2.2.2.2.2.2.1, x6.2.2.2.2.2.2.2.2.2.2.2.2.2.1, x6.2.2.2.2.2.2.2.2.2.2.2.2.2.2.1, x6.2.2.2.2.2.2.2.2.2.2.2.2.2.2.2.1, (x6.1.getD x6.2.2.1.toNat (0, [], ())).1, (x6.1.getD x6.2.2.1.toNat (0, [], ())).2.1, x6.2.2.2.2.2.2.2.2.2.2.2.2.2.2.2.2)
  else
    ready_Events_J4 k5 x6.2.2.2.1 x6.2.2.2.2.1 x6.2.2.2.2.2.1 x6.2.2.2.2.2.2.1 x6.2.2.2.2.2.2.2.1 x6.2.2.2.2.2.2.2.2.1 x6.2.2.2.2.2.2.2.2.2.1 x6.2.2.2.2.2.2.2.2.2.2.2.2.2.2.2.2
def ready_Events_C4 (x1 : Int × (List tzA2) × (List tzA4) × tzA6 × tzA9 × List Int × (List tzA8)) (p45 : List tzA8) (k5 : (Int × (List tzA2) × (List tzA4) × tzA6 × tzA9 × List Int × (List tzA8)) → Option (List tzA8)) : Option (List tzA8) :=
  loop (ready_Events_L4 k5) (x1.2.2.2.1, (x1.2.2.2.1.length : Int), 0, x1.1, x1.2.1, x1.2.2.1, x1.2.2.2.1, x1.2.2.2.2.1, x1.2.2.2.2.2.1, p45, x1.1, x1.2.1, x1.2.2.1, x1.2.2.2.1, x1.2.2.2.2.1, x1.2.2.2.2.2.1, [])
def ready_Events_J7 (k9 : ((List tzA8)) → Option (List tzA8)) (p88 : Int) (p89 : List tzA2) (p90 : List tzA4) (p91 : List (Int × tzA10 × Unit)) (p92 : List (Int × Int × Int × Unit)) (p93 : List Int) (p94 : List tzA8) (p95 : List tzA8) : Option (List tzA8) :=
  chk (p94.length + p95.length ≤ 4294967296) <|
  k9 (p94 ++ p95)
def ready_Events_J8 (k10 : tzA18 → Option (List tzA8)) (p96 : List (Int × tzA10 × Unit)) (p97 : Int) (p98 : Int) (p99 : Int) (p100 : List tzA2) (p101 : List tzA4) (p102 : List (Int × tzA10 × Unit)) (p103 : List (Int × Int × Int × Unit)) (p104 : List Int) (p105 : List tzA8) (p106 : Int) (p107 : List tzA2) (p108 : List tzA4) (p109 : List (Int × tzA10 × Unit)) (p110 : List (Int × Int × Int × Unit)) (p111 : List Int) (p112 : List tzA8) : Option (List tzA8) :=
  k10 (p96, p97, IntKind.i64.wrap (p98 + 1), p99, p100, p101, p102, p103, p104, p105, p106, p107, p108, p109, p110, p111, p112)
def ready_Events_J9 (k10 : tzA18 → Option (List tzA8)) (p113 : List (Int × tzA10 × Unit)) (p114 : Int) (p115 : Int) (p116 : Int) (p117 : List tzA2) (p118 : List tzA4) (p119 : List (Int × tzA10 × Unit)) (p120 : List (Int × Int × Int × Unit)) (p121 : List Int) (p122 : List tzA8) (p123 : Int) (p124 : List tzA2) (p125 : List tzA4) (p126 : List (Int × tzA10 × Unit)) (p127 : List (Int × Int × Int × Unit)) (p128 : List Int) (p129 : List tzA8) : Option (List tzA8) :=
  ready_Events_J8 k10 p113 p114 p115 p116 p117 p118 p119 p120 p121 p122 p123 p124 p125 p126 p127 p128 p129
def ready_Events_C5 (x11 : tzA6 × Int × Int × tzA10 × Int × Int × Int × (List tzA2) × (List tzA4) × tzA6 × tzA9 × List Int × (List tzA8) × Int × (List tzA2) × (List tzA4) × tzA6 × tzA9 × List Int × Int × tzA10 × (List tzA8)) (k12 : tzA20 → Option (List tzA8)) : Option (List tzA8) :=
  chk (0 ≤ x11.2.2.2.2.2.1 ∧ x11.2.2.2.2.2.1 < (x11.2.2.2.1.length : Int)) <|
  Option.bind (ready_View_of (x11.2.2.2.2.2.2.2.2.2.2.2.2.2.1, x11.2.2.2.2.2.2.2.2.2.2.2.2.2.2.1, x11.2.2.2.2.2.2.2.2.2.2.2.2.2.2.2.1, x11.2.2.2.2.2.2.2.2.2.2.2.2.2.2.2.2.1, x11.2.2.2.2.2.2.2.2.2.2.2.2.2.2.2.2.2.1, x11.2.2.2.2.2.2.2.2.2.2.2.2.2.2.2.2.2.2.1, ()) x11.2.2.2.2.2.2.2.2.2.2.2.2.2.2.2.2.2.2.2.1 (x11.2.2.2.1.getD x11.2.2.2.2.2.1.toNat (0, 0, 0, 0, 0, ()))) fun r5 =>
  bif r5.2.1 then
    bif decide (r5.1.1 = 8) then
      chk (x11.2.2.2.2.2.2.2.2.2.2.2.2.2.2.2.2.2.2.2.2.2.length + ([r5.1] : List tzA8).length ≤ 4294967296) <|
      letv (x11.2.2.2.2.2.2.2.2.2.2.2.2.2.2.2.2.2.2.2.2.2 ++ [r5.1]) fun l3 =>
      k12 (x11.1, x11.2.1, x11.2.2.1, x11.2.2.2.1, x11.2.2.2.2.1, x11.2.2.2.2.2.1, x11.2.2.2.2.2.2.1, x11.2.2.2.2.2.2.2.1, x11.2.2.2.2.2.2.2.2.1, x11.2.2.2.2.2.2.2.2.2.1, x11.2.2.2.2.2.2.2.2.2.2.1, x11.2.2.2.2.2.2.2.2.2.2.2.1, x11.2.2.2.2.2.2.2.2.2.2.2.2.1, x11.2.2.2.2.2.2.2.2.2.2.2.2.2.1, x11.2.2.2.2.2.2.2.2.2.2.2.2.2.2.1, x11.2.2.2.2.2.2.2.2.2.2.2.2.2.2.2.1, x11.2.2.2.2.2.2.2.2.2.2.2.2.2.2.2.2.1, x11.2.2.2.2.2.2.2.2.2.2.2.2.2.2.2.2.2.1, x11.2.2.2.2.2.2.2.2.2.2.2.2.2.2.2.2.2.2.1, x11.2.2.2.2.2.2.2.2.2.2.2.2.2.2.2.2.2.2.2.1, x11.2.2.2.2.2.2.2.2.2.2.2.2.2.2.2.2.2.2.2.2.1, l3)
    else
      k12 (x11.1, x11.2.1, x11.2.2.1, x11.2.2.2.1, x11.2.2.2.2.1, x11.2.2.2.2.2.1, x11.2.2.2.2.2.2.1, x11.2.2.2.2.2.2.2.1, x11.2.2.2.2.2.2.2.2.1, x11.2.2.2.2.2.2.2.2.2.1, x11.2.2.2.2.2.2.2.2.2.2.1, x11.2.2.2.2.2.2.2.2.2.2.2.1, x11.2.2.2.2.2.2.2.2.2.2.2.2.1, x11.2.2.2.2.2.2.2.2.2.2.2.2.2.1, x11.2.2.2.2.2.2.2.2.2.2.2.2.2.2.1, x11.2.2.2.2.2.2.2.2.2.2.2.2.2.2.2.1, x11.2.2.2.2.2.2.2.2.2.2.2.2.2.2.2.2.1, x11.2.2.2.2.2.2.2.2.2.2.2.2.2.2.2.2.2.1, x11.2.2.2.2.2.2.2.2.2.2.2.2.2.2.2.2.2.2.1, x11.2.2.2.2.2.2.2.2.2.2.2.2.2.2.2.2.2.2.2.1, x11.2.2.2.2.2.2.2.2.2.2.2.2.2.2.2.2.2.2.2.2.1, x11.2.2.2.2.2.2.2.2.2.2.2.2.2.2.2.2.2.2.2.2.2)
  else
    k12 (x11.1, x11.2.1, x11.2.2.1, x11.2.2.2.1, x11.2.2.2.2.1, x11.2.2.2.2.2.1, x11.2.2.2.2.2.2.1, x11.2.2.2.2.2.2.2.1, x11.2.2.2.2.2.2.2.2.1, x11.2.2.2.2.2.2.2.2.2.1, x11.2.2.2.2.2.2.2.2.2.2.1, x11.2.2.2.2.2.2.2.2.2.2.2.1, x11.2.2.2.2.2.2.2.2.2.2.2.2.1, x11.2.2.2.2.2.2.2.2.2.2.2.2.2.1, x11.2.2.2.2.2.2.2.2.2.2.2.2.2.2.1, x11.2.2.2.2.2.2.2.2.2.2.2.2.2.2.2.1, x11.2.2.2.2.2.2.2.2.2.2.2.2.2.2.2.2.1, x11.2.2.2.2.2.2.2.2.2.2.2.2.2.2.2.2.2.1, x11.2.2.2.2.2.2.2.2.2.2.2.2.2.2.2.2.2.2.1, x11.2.2.2.2.2.2.2.2.2.2.2.2.2.2.2.2.2.2.2.1, x11.2.2.2.2.2.2.2.2.2.2.2.2.2.2.2.2.2.2.2.2.1, x11.2.2.2.2.2.2.2.2.2.2.2.2.2.2.2.2.2.2.2.2.2)
def ready_Events_R5 (k11 : tzA20 → Option (List tzA8)) (x12 : tzA6 × Int × Int × tzA10 × Int × Int × Int × (List tzA2) × (List tzA4) × tzA6 × tzA9 × List Int × (List tzA8) × Int × (List tzA2) × (List tzA4) × tzA6 × tzA9 × List Int × Int × tzA10 × (List tzA8)) : Option (List tzA8) :=
  k11 (x12.1, x12.2.1, x12.2.2.1, x12.2.2.2.1, x12.2.2.2.2.1, IntKind.i64.wrap (x12.2.2.2.2.2.1 + 1), x12.2.2.2.2.2.2.1, x12.2.2.2.2.2.2.2.1, x12.2.2.2.2.2.2.2.2.1, x12.2.2.2.2.2.2.2.2.2.1, x12.2.2.2.2.2.2.2.2.2.2.1, x12.2.2.2.2.2.2.2.2.2.2.2.1, x12.2.2.2.2.2.2.2.2.2.2.2.2.1, x12.2.2.2.2.2.2.2.2.2.2.2.2.2.1, x12.2.2.2.2.2.2.2.2.2.2.2.2.2.2.1, x12.2.2.2.2.2.2.2.2.2.2.2.2.2.2.2.1, x12.2.2.2.2.2.2.2.2.2.2.2.2.2.2.2.2.1, x12.2.2.2.2.2.2.2.2.2.2.2.2.2.2.2.2.2.1, x12.2.2.2.2.2.2.2.2.2.2.2.2.2.2.2.2.2.2.1, x12.2.2.2.2.2.2.2.2.2.2.2.2.2.2.2.2.2.2.2.1, x12.2.2.2.2.2.2.2.2.2.2.2.2.2.2.2.2.2.2.2.2.1, x12.2.2.2.2.2.2.2.2.2.2.2.2.2.2.2.2.2.2.2.2.2)
def ready_Events_L5 (k10 : tzA18 → Option (List tzA8)) (k11 : tzA20 → Option (List tzA8)) (x11 : tzA6 × Int × Int × tzA10 × Int × Int × Int × (List tzA2) × (List tzA4) × tzA6 × tzA9 × List Int × (List tzA8) × Int × (List tzA2) × (List tzA4) × tzA6 × tzA9 × List Int × Int × tzA10 × (List tzA8)) : Option (List tzA8) :=
  bif decide (x11.2.2.2.2.2.1 < x11.2.2.2.2.1) then
    cutv 5 (ready_Events_C5 x11) (ready_Events_R5 k11)
  else
    ready_Events_J9 k10 x11.1 x11.2.1 x11.2.2.1 x11.2.2.2.2.2.2.1 x11.2.2.2.2.2.2.2.1 x11.2.2.2.2.2.2.2.2.1 x11.2.2.2.2.2.2.2.2.2.1 x11.2.2.2.2.2.2.2.2.2.2.1 x11.2.2.2.2.2.2.2.2.2.2.2.1 x11.2.2.2.2.2.2.2.2.2.2.2.2.1 x11.2.2.2.2.2.2.2.2.2.2.2.2.2.1 x11.2.2.2.2.2.2.2.2.2.2.2.2.2.2.1 x11.2.2.2.2.2.2.2.2.2.2.2.2.2.2.2.1 x11.2.2.2.2.2.2.2.2.2.2.2.2.2.2.2.2.1 x11.2.2.2.2.2.2.2.2.2.2.2.2.2.2.2.2.2.1 x11.2.2.2.2.2.2.2.2.2.2.2.2.2.2.2.2.2.2.1 x11.2.2.2.2.2.2.2.2.2.2.2.2.2.2.2.2.2.2.2.2.2
def ready_Events_L6 (k9 : ((List tzA8)) → Option (List tzA8)) (k10 : tzA18 → Option (List tzA8)) (x10 : tzA6 × Int × Int × Int × (List tzA2) × (List tzA4) × tzA6 × tzA9 × List Int × (List tzA8) × Int × (List tzA2) × (List tzA4) × tzA6 × tzA9 × List Int × (List tzA8)) : Option (List tzA8) :=
  bif decide (x10.2.2.1 < x10.2.1) then
    chk (0 ≤ x10.2.2.1 ∧ x10.2.2.1 < (x10.1.length : Int)) <|
    loop (ready_Events_L5 k10) (x10.1, x10.2.1, x10.2.2.1, (x10.1.getD x10.2.2.1.toNat (0, [], ())).2.1, ((x10.1.getD x10.2.2.1.toNat (0, [], ())).2.1.length : Int), 0, x10.2.2.2.1, x10.2.2.2.2.1, x10.2.2.2.2.2.1, x10.2.2.2.2.2.2.1, x10.2.2.2.2.2.2.2.1, x10.2.2.2.2.2.2.2.2.1, x10.2.2.2.2.2.2.2.2.2.1, x10.2.2.2.2.2.2.2.2.2.2.1, x10.2.2.2.2.2.2.2.2.2.2.2.1, x10.2.2.2.2.2.2.2.2.2.2.2.2.1, x10.2.2.2.2.2.2.2.2.2.2.2.2.2.1, x10.2.2.2.2.2.2.2.2.2.2.2.2.2.2.1, x10.2.2.2.2.2.2.2.2.2.2.2.2.2.2.2.1, (x10.1.getD x10.2.2.1.toNat (0, [], ())).1, (x10.1.getD x10.2.2.1.toNat (0, [], ())).2.1, x10.2.2.2.2.2.2.2.2.2.2.2.2.2.2.2.2)
  else
    ready_Events_J7 k9 x10.2.2.2.1 x10.2.2.2.2.1 x10.2.2.2.2.2.1 x10.2.2.2.2.2.2.1 x10.2.2.2.2.2.2.2.1 x10.2.2.2.2.2.2.2.2.1 x10.2.2.2.2.2.2.2.2.2.1 x10.2.2.2.2.2.2.2.2.2.2.2.2.2.2.2.2
def ready_Events_C6 (x5 : Int × (List tzA2) × (List tzA4) × tzA6 × tzA9 × List Int × (List tzA8)) (k9 : ((List tzA8)) → Option (List tzA8)) : Option (List tzA8) :=
  loop (ready_Events_L6 k9) (x5.2.2.2.1, (x5.2.2.2.1.length : Int), 0, x5.1, x5.2.1, x5.2.2.1, x5.2.2.2.1, x5.2.2.2.2.1, x5.2.2.2.2.2.1, x5.2.2.2.2.2.2, x5.1, x5.2.1, x5.2.2.1, x5.2.2.2.1, x5.2.2.2.2.1, x5.2.2.2.2.2.1, [])
def ready_Events_R6 (x9 : (List tzA8)) : Option (List tzA8) :=
  some x9
def ready_Events_R4 (x5 : Int × (List tzA2) × (List tzA4) × tzA6 × tzA9 × List Int × (List tzA8)) : Option (List tzA8) :=
  cutv 6 (ready_Events_C6 x5) ready_Events_R6
def ready_Events_J10 (x1 : Int × (List tzA2) × (List tzA4) × tzA6 × tzA9 × List Int × (List tzA8)) (p45 : List tzA8) : Option (List tzA8) :=
  cutv 4 (ready_Events_C4 x1 p45) ready_Events_R4
def ready_Events_L7 (p130 : Int) (x1 : Int × (List tzA2) × (List tzA4) × tzA6 × tzA9 × List Int × (List tzA8)) (k13 : (Int × (List tzA8)) → Option (List tzA8)) (x13 : Int × (List tzA8)) : Option (List tzA8) :=
  bif decide (x13.1 < p130) then
    chk (0 ≤ x13.1 ∧ x13.1 < (x1.2.2.2.2.1.length : Int)) <|
    Option.bind (clock_Due x1.1 (x1.2.2.2.2.1.getD x13.1.toNat (0, 0, 0, ())).1) fun r6 =>
    bif r6 then
      chk ((8 : Int) ≠ 0) <|
      chk ((8 : Int) ≠ 0) <|
      letv ([(6, 0, IntKind.i64.wrap (Int.tdiv (x1.2.2.2.2.1.getD x13.1.toNat (0, 0, 0, ())).2.2.1 8), Int.tmod (x1.2.2.2.2.1.getD x13.1.toNat (0, 0, 0, ())).2.2.1 8, ())]) fun l4 =>
      chk (x13.2.length + l4.length ≤ 4294967296) <|
      k13 (IntKind.i64.wrap (x13.1 + 1), x13.2 ++ l4)
    else
      k13 (IntKind.i64.wrap (x13.1 + 1), x13.2)
  else
    ready_Events_J10 x1 x13.2
def ready_Events_R2 (x1 : Int × (List tzA2) × (List tzA4) × tzA6 × tzA9 × List Int × (List tzA8)) : Option (List tzA8) :=
  loop (ready_Events_L7 (x1.2.2.2.2.1.length : Int) x1) (0, x1.2.2.2.2.2.2)
def ready_Events_J11 (a0 : Int × (List tzA2) × (List tzA4) × tzA6 × tzA9 × (List Int) × Unit) (p2 : List tzA8) : Option (List tzA8) :=
  cutv 2 (ready_Events_C2 a0 p2) ready_Events_R2
def ready_Events_L8 (p131 : Int) (r2 : List (Int × Int × Unit)) (a0 : Int × (List tzA2) × (List tzA4) × tzA6 × tzA9 × (List Int) × Unit) (k14 : (Int × (List tzA8)) → Option (List tzA8)) (x14 : Int × (List tzA8)) : Option (List tzA8) :=
  bif decide (x14.1 < p131) then
    chk (0 ≤ x14.1 ∧ x14.1 < (r2.length : Int)) <|
    Option.bind (ready_moves (r2.getD x14.1.toNat (0, 0, ())).2.1) fun r7 =>
    letv ([(r7, (r2.getD x14.1.toNat (0, 0, ())).1, 0, 0, ())]) fun l5 =>
    chk (x14.2.length + l5.length ≤ 4294967296) <|
    k14 (IntKind.i64.wrap (x14.1 + 1), x14.2 ++ l5)
  else
    ready_Events_J11 a0 x14.2
def ready_Events_J12 (a0 : Int × (List tzA2) × (List tzA4) × tzA6 × tzA9 × (List Int) × Unit) (p1 : List tzA8) : Option (List tzA8) :=
  Option.bind (chantab_Moves a0.2.1) fun r2 =>
  loop (ready_Events_L8 (r2.length : Int) r2 a0) (0, p1)
def ready_Events_L9 (p132 : Int) (r1 : List Int) (a0 : Int × (List tzA2) × (List tzA4) × tzA6 × tzA9 × (List Int) × Unit) (k15 : (Int × (List tzA8)) → Option (List tzA8)) (x15 : Int × (List tzA8)) : Option (List tzA8) :=
  bif decide (x15.1 < p132) then
    chk (0 ≤ x15.1 ∧ x15.1 < (r1.length : Int)) <|
    chk (x15.2.length + ([(1, r1.getD x15.1.toNat 0, 0, 0, ())] : List tzA8).length ≤ 4294967296) <|
    letv (x15.2 ++ [(1, r1.getD x15.1.toNat 0, 0, 0, ())]) fun l6 =>
    k15 (IntKind.i64.wrap (x15.1 + 1), l6)
  else
    ready_Events_J12 a0 x15.2
def ready_Events (a0 : Int × (List tzA2) × (List tzA4) × tzA6 × tzA9 × (List Int) × Unit) : Option (List tzA8) :=
  Option.bind (bartab_Ready a0.2.2.1) fun r1 =>
  loop (ready_Events_L9 (r1.length : Int) r1 a0) (0, [])
end Go.Proofs.YtbkccpddkpclaaaGreatDoorV
namespace Go.Proofs.YtbkccpddkpclaaaGreatDoorV
set_option linter.unusedVariables false
def L29_Small_J1 : Option Bool :=
  some true
def L29_Small_L1 (p1 : Int) (a0 : Int × (List tzA2) × (List tzA4) × tzA6 × tzA9 × (List Int) × Unit) (k1 : Int → Option Bool) (x1 : Int) : Option Bool :=
  bif decide (x1 < p1) then
    chk (0 ≤ x1 ∧ x1 < (a0.2.2.2.2.1.length : Int)) <|
    bif decide ((a0.2.2.2.2.1.getD x1.toNat (0, 0, 0, ())).2.2.1 < 0) then
      some false
    else
      k1 (IntKind.i64.wrap (x1 + 1))
  else
    L29_Small_J1
def L29_Small_J2 (a0 : Int × (List tzA2) × (List tzA4) × tzA6 × tzA9 × (List Int) × Unit) : Option Bool :=
  loop (L29_Small_L1 (a0.2.2.2.2.1.length : Int) a0) 0
def L29_Small_J3 (k2 : (Int × Int) → Option Bool) (x2 : Int × Int) : Option Bool :=
  k2 (x2.1, IntKind.i64.wrap (x2.2 + 1))
def L29_Small_J4 (k2 : (Int × Int) → Option Bool) (x2 : Int × Int) : Option Bool :=
  L29_Small_J3 k2 x2
def L29_Small_L2 (p3 : Int) (p2 : List tzA31) (k2 : (Int × Int) → Option Bool) (x2 : Int × Int) (k3 : Int → Option Bool) (x3 : Int) : Option Bool :=
  bif decide (x3 < p3) then
    chk (0 ≤ x3 ∧ x3 < (p2.length : Int)) <|
    bif decide ((p2.getD x3.toNat (0, 0, 0, 0, 0, ())).2.2.2.2.1 < 0) then
      some false
    else
      bif decide ((p2.getD x3.toNat (0, 0, 0, 0, 0, ())).2.2.2.2.1 > 5) then
        some false
      else
        k3 (IntKind.i64.wrap (x3 + 1))
  else
    L29_Small_J4 k2 x2
def L29_Small_L3 (a0 : Int × (List tzA2) × (List tzA4) × tzA6 × tzA9 × (List Int) × Unit) (k2 : (Int × Int) → Option Bool) (x2 : Int × Int) : Option Bool :=
  bif decide (x2.2 < x2.1) then
    chk (0 ≤ x2.2 ∧ x2.2 < (a0.2.2.2.1.length : Int)) <|
    bif decide (((a0.2.2.2.1.getD x2.2.toNat (0, [], ())).2.1.length : Int) > 8) then
      some false
    else
      bif decide ((a0.2.2.2.1.getD x2.2.toNat (0, [], ())).1 < 0) then
        some false
      else
        bif decide ((a0.2.2.2.1.getD x2.2.toNat (0, [], ())).1 > 15) then
          some false
        else
          loop (L29_Small_L2 ((a0.2.2.2.1.getD x2.2.toNat (0, [], ())).2.1.length : Int) (a0.2.2.2.1.getD x2.2.toNat (0, [], ())).2.1 k2 x2) 0
  else
    L29_Small_J2 a0
def L29_Small (a0 : Int × (List tzA2) × (List tzA4) × tzA6 × tzA9 × (List Int) × Unit) : Option Bool :=
  Option.bind (L19_Small a0.2.1) fun r1 =>
  bif !r1 then
    some false
  else
    Option.bind (L23_Small a0.2.2.1) fun r2 =>
    bif !r2 then
      some false
    else
      bif decide ((a0.2.2.2.1.length : Int) > 16) then
        some false
      else
        bif decide ((a0.2.2.2.2.1.length : Int) > 40) then
          some false
        else
          bif decide ((a0.2.2.2.2.2.1.length : Int) > 40) then
            some false
          else
            loop (L29_Small_L3 a0) ((a0.2.2.2.1.length : Int), 0)
def L29_To_J1 (a0 : Int × (List tzA2) × (List tzA4) × tzA6 × tzA9 × (List Int) × Unit) (r1 : List tzA2) (r3 : List tzA4) (p1 : List (Int × tzA10 × Unit)) (p2 : List (Int × Int × Int × Unit)) : Option tzA16 :=
  some (a0.1, r1, r3, p1, p2, a0.2.2.2.2.2.1, ())
def L29_To_L1 (p3 : Int) (a0 : Int × (List tzA2) × (List tzA4) × tzA6 × tzA9 × (List Int) × Unit) (r1 : List tzA2) (r3 : List tzA4) (p1 : List (Int × tzA10 × Unit)) (k1 : (Int × tzA9) → Option tzA16) (x1 : Int × tzA9) : Option tzA16 :=
  bif decide (x1.1 < p3) then
    chk (0 ≤ x1.1 ∧ x1.1 < (a0.2.2.2.2.1.length : Int)) <|
    letv ([(a0.2.2.2.2.1.getD x1.1.toNat (0, 0, 0, ()))]) fun l1 =>
    chk (x1.2.length + l1.length ≤ 4294967296) <|
    k1 (IntKind.i64.wrap (x1.1 + 1), x1.2 ++ l1)
  else
    L29_To_J1 a0 r1 r3 p1 x1.2
def L29_To_J2 (a0 : Int × (List tzA2) × (List tzA4) × tzA6 × tzA9 × (List Int) × Unit) (r1 : List tzA2) (r3 : List tzA4) (p1 : List (Int × tzA10 × Unit)) : Option tzA16 :=
  loop (L29_To_L1 (a0.2.2.2.2.1.length : Int) a0 r1 r3 p1) (0, [])
def L29_To_L2 (p4 : Int) (a0 : Int × (List tzA2) × (List tzA4) × tzA6 × tzA9 × (List Int) × Unit) (r1 : List tzA2) (r3 : List tzA4) (k2 : (Int × tzA6) → Option tzA16) (x2 : Int × tzA6) : Option tzA16 :=
  bif decide (x2.1 < p4) then
    chk (0 ≤ x2.1 ∧ x2.1 < (a0.2.2.2.1.length : Int)) <|
    letv ([(a0.2.2.2.1.getD x2.1.toNat (0, [], ()))]) fun l2 =>
    chk (x2.2.length + l2.length ≤ 4294967296) <|
    k2 (IntKind.i64.wrap (x2.1 + 1), x2.2 ++ l2)
  else
    L29_To_J2 a0 r1 r3 x2.2
def L29_To (a0 : Int × (List tzA2) × (List tzA4) × tzA6 × tzA9 × (List Int) × Unit) : Option tzA16 :=
  Option.bind (L19_To a0.2.1) fun r1 =>
  Option.bind (L23_Plain a0.2.2.1) fun r2 =>
  Option.bind (L23_To r2) fun r3 =>
  loop (L29_To_L2 (a0.2.2.2.1.length : Int) a0 r1 r3) (0, [])
def L29_alive : Option Bool :=
  Option.bind (R19_New [(0, 0, 0, 0, ())]) fun r1 =>
  Option.bind (R19_Offer r1.1 3 [(2, 0, 7, 0, 0, ())] false) fun r2 =>
  letv ([(1, 0, 0, 1, 0, ()), (5, 0, 0, 0, 1, ())]) fun l1 =>
  Option.bind (R19_Offer r2.1 5 l1 true) fun r3 =>
  letv ([(3, [(2, 0, 7, 0, 0, ())], ()), (5, l1, ())]) fun l2 =>
  Option.bind (L29_To (0, r3.1, [], l2, [], [], ())) fun r4 =>
  Option.bind (ready_Events r4) fun r5 =>
  Option.bind (ready_Which r4 3 0) fun r6 =>
  Option.bind (ready_Which r4 3 1) fun r7 =>
  bif decide ((r5.length : Int) = 2) then
    chk (0 ≤ (0 : Int) ∧ (0 : Int) < (r5.length : Int)) <|
    bif (decide ((r5.getD (0 : Int).toNat (0, 0, 0, 0, ())).1 = 2)) && ((decide ((r5.getD (0 : Int).toNat (0, 0, 0, 0, ())).2.1 = 0)) && ((decide ((r5.getD (0 : Int).toNat (0, 0, 0, 0, ())).2.2.1 = 0)) && ((decide ((r5.getD (0 : Int).toNat (0, 0, 0, 0, ())).2.2.2.1 = 0)) && true))) then
      chk (0 ≤ (1 : Int) ∧ (1 : Int) < (r5.length : Int)) <|
      bif (decide ((r5.getD (1 : Int).toNat (0, 0, 0, 0, ())).1 = 8)) && ((decide ((r5.getD (1 : Int).toNat (0, 0, 0, 0, ())).2.1 = 0)) && ((decide ((r5.getD (1 : Int).toNat (0, 0, 0, 0, ())).2.2.1 = 5)) && ((decide ((r5.getD (1 : Int).toNat (0, 0, 0, 0, ())).2.2.2.1 = 1)) && true))) then
        chk (0 ≤ (0 : Int) ∧ (0 : Int) < (r5.length : Int)) <|
        bif (decide (r6.1.1 = (r5.getD (0 : Int).toNat (0, 0, 0, 0, ())).1)) && ((decide (r6.1.2.1 = (r5.getD (0 : Int).toNat (0, 0, 0, 0, ())).2.1)) && ((decide (r6.1.2.2.1 = (r5.getD (0 : Int).toNat (0, 0, 0, 0, ())).2.2.1)) && ((decide (r6.1.2.2.2.1 = (r5.getD (0 : Int).toNat (0, 0, 0, 0, ())).2.2.2.1)) && true))) then
          bif r6.2.1 then
            bif !r7.2.1 then
              Option.bind (ready_Guards r4 5) fun r8 =>
              Option.bind (R02_Same r8 [0, 1]) fun r9 =>
              some r9
            else
              some false
          else
            some false
        else
          some false
      else
        some false
    else
      some false
  else
    some false
def L29_plain (a0 : Int × (List tzA2) × (List tzA4) × tzA6 × tzA9 × (List Int) × Unit) : Option tzA16 :=
  Option.bind (L23_Plain a0.2.2.1) fun r1 =>
  some (a0.1, a0.2.1, r1, a0.2.2.2.1, a0.2.2.2.2.1, a0.2.2.2.2.2.1, ())
def L29_right_J1 : Option Bool :=
  some true
def L29_right_J2 (k1 : (tzA6 × Int × Int) → Option Bool) (p1 : List (Int × tzA10 × Unit)) (p2 : Int) (p3 : Int) : Option Bool :=
  k1 (p1, p2, IntKind.i64.wrap (p3 + 1))
def L29_right_J3 (k1 : (tzA6 × Int × Int) → Option Bool) (p4 : List (Int × tzA10 × Unit)) (p5 : Int) (p6 : Int) : Option Bool :=
  L29_right_J2 k1 p4 p5 p6
def L29_right_C1 (x2 : tzA6 × Int × Int × tzA10 × Int × Int × Int × tzA10) (k3 : (tzA6 × Int × Int × tzA10 × Int × Int × Int × tzA10) → Option Bool) : Option Bool :=
  chk (0 ≤ x2.2.2.2.2.2.1 ∧ x2.2.2.2.2.2.1 < (x2.2.2.2.1.length : Int)) <|
  bif decide (x2.2.2.2.2.2.1 > 0) then
    chk (0 ≤ (IntKind.i64.wrap (x2.2.2.2.2.2.1 - 1)) ∧ (IntKind.i64.wrap (x2.2.2.2.2.2.1 - 1)) < (x2.2.2.2.2.2.2.2.length : Int)) <|
    bif decide ((x2.2.2.2.1.getD x2.2.2.2.2.2.1.toNat (0, 0, 0, 0, 0, ())).2.2.2.2.1 ≤ (x2.2.2.2.2.2.2.2.getD (IntKind.i64.wrap (x2.2.2.2.2.2.1 - 1)).toNat (0, 0, 0, 0, 0, ())).2.2.2.2.1) then
      some false
    else
      bif decide ((x2.2.2.2.1.getD x2.2.2.2.2.2.1.toNat (0, 0, 0, 0, 0, ())).1 = 4) then
        bif decide ((x2.2.2.2.1.getD x2.2.2.2.2.2.1.toNat (0, 0, 0, 0, 0, ())).2.2.1 < 0) then
          some false
        else
          bif decide ((x2.2.2.2.1.getD x2.2.2.2.2.2.1.toNat (0, 0, 0, 0, 0, ())).2.2.1 > 1099511627776) then
            some false
          else
            k3 (x2.1, x2.2.1, x2.2.2.1, x2.2.2.2.1, x2.2.2.2.2.1, x2.2.2.2.2.2.1, x2.2.2.2.2.2.2.1, x2.2.2.2.2.2.2.2)
      else
        k3 (x2.1, x2.2.1, x2.2.2.1, x2.2.2.2.1, x2.2.2.2.2.1, x2.2.2.2.2.2.1, x2.2.2.2.2.2.2.1, x2.2.2.2.2.2.2.2)
  else
    bif decide ((x2.2.2.2.1.getD x2.2.2.2.2.2.1.toNat (0, 0, 0, 0, 0, ())).1 = 4) then
      bif decide ((x2.2.2.2.1.getD x2.2.2.2.2.2.1.toNat (0, 0, 0, 0, 0, ())).2.2.1 < 0) then
        some false
      else
        bif decide ((x2.2.2.2.1.getD x2.2.2.2.2.2.1.toNat (0, 0, 0, 0, 0, ())).2.2.1 > 1099511627776) then
          some false
        else
          k3 (x2.1, x2.2.1, x2.2.2.1, x2.2.2.2.1, x2.2.2.2.2.1, x2.2.2.2.2.2.1, x2.2.2.2.2.2.2.1, x2.2.2.2.2.2.2.2)
    else
      k3 (x2.1, x2.2.1, x2.2.2.1, x2.2.2.2.1, x2.2.2.2.2.1, x2.2.2.2.2.2.1, x2.2.2.2.2.2.2.1, x2.2.2.2.2.2.2.2)
def L29_right_R1 (k2 : (tzA6 × Int × Int × tzA10 × Int × Int × Int × tzA10) → Option Bool) (x3 : tzA6 × Int × Int × tzA10 × Int × Int × Int × tzA10) : Option Bool :=
  k2 (x3.1, x3.2.1, x3.2.2.1, x3.2.2.2.1, x3.2.2.2.2.1, IntKind.i64.wrap (x3.2.2.2.2.2.1 + 1), x3.2.2.2.2.2.2.1, x3.2.2.2.2.2.2.2)
def L29_right_L1 (k1 : (tzA6 × Int × Int) → Option Bool) (k2 : (tzA6 × Int × Int × tzA10 × Int × Int × Int × tzA10) → Option Bool) (x2 : tzA6 × Int × Int × tzA10 × Int × Int × Int × tzA10) : Option Bool :=
  bif decide (x2.2.2.2.2.2.1 < x2.2.2.2.2.1) then
    cutv 1 (L29_right_C1 x2) (L29_right_R1 k2)
  else
    L29_right_J3 k1 x2.1 x2.2.1 x2.2.2.1
def L29_right_L2 (k1 : (tzA6 × Int × Int) → Option Bool) (x1 : tzA6 × Int × Int) : Option Bool :=
  bif decide (x1.2.2 < x1.2.1) then
    chk (0 ≤ x1.2.2 ∧ x1.2.2 < (x1.1.length : Int)) <|
    loop (L29_right_L1 k1) (x1.1, x1.2.1, x1.2.2, (x1.1.getD x1.2.2.toNat (0, [], ())).2.1, ((x1.1.getD x1.2.2.toNat (0, [], ())).2.1.length : Int), 0, (x1.1.getD x1.2.2.toNat (0, [], ())).1, (x1.1.getD x1.2.2.toNat (0, [], ())).2.1)
  else
    L29_right_J1
def L29_right (a0 : Int × (List tzA2) × (List tzA4) × tzA6 × tzA9 × (List Int) × Unit) : Option Bool :=
  loop L29_right_L2 (a0.2.2.2.1, (a0.2.2.2.1.length : Int), 0)
def L29_made_J1 (p15 : List tzA2) (p16 : List tzA4) (p17 : Int) (p18 : Int) (p19 : Int) (p20 : List (Int × Int × Int × Unit)) (p21 : List (Int × tzA10 × Unit)) : Option (tzA16 × Bool × Unit) :=
  Option.bind (L29_Small (p17, p15, p16, p21, p20, [], ())) fun r4 =>
  bif r4 then
    Option.bind (L29_right (p17, p15, p16, p21, p20, [], ())) fun r5 =>
    some ((p17, p15, p16, p21, p20, [], ()), r5, ())
  else
    some ((p17, p15, p16, p21, p20, [], ()), false, ())
def L29_made_C1 (x1 : (List tzA2) × (List tzA4) × List Int × Int × Int × Int × Int × Int × tzA9 × tzA6) (k2 : ((List tzA2) × (List tzA4) × List Int × Int × Int × Int × Int × Int × tzA9 × tzA6) → Option (tzA16 × Bool × Unit)) : Option (tzA16 × Bool × Unit) :=
  chk (0 ≤ x1.2.2.2.2.1 ∧ x1.2.2.2.2.1 < (x1.2.2.1.length : Int)) <|
  bif decide (x1.2.2.2.2.1 < (x1.1.length : Int)) then
    bif decide ((x1.2.2.1.getD x1.2.2.2.2.1.toNat 0) > 0) then
      Option.bind (R19_Poison x1.1 x1.2.2.2.2.1 (IntKind.i64.wrap (x1.2.2.1.getD x1.2.2.2.2.1.toNat 0))) fun r6 =>
      k2 (r6.1, x1.2.1, x1.2.2.1, x1.2.2.2.1, x1.2.2.2.2.1, x1.2.2.2.2.2.1, x1.2.2.2.2.2.2.1, x1.2.2.2.2.2.2.2.1, x1.2.2.2.2.2.2.2.2.1, x1.2.2.2.2.2.2.2.2.2)
    else
      k2 (x1.1, x1.2.1, x1.2.2.1, x1.2.2.2.1, x1.2.2.2.2.1, x1.2.2.2.2.2.1, x1.2.2.2.2.2.2.1, x1.2.2.2.2.2.2.2.1, x1.2.2.2.2.2.2.2.2.1, x1.2.2.2.2.2.2.2.2.2)
  else
    k2 (x1.1, x1.2.1, x1.2.2.1, x1.2.2.2.1, x1.2.2.2.2.1, x1.2.2.2.2.2.1, x1.2.2.2.2.2.2.1, x1.2.2.2.2.2.2.2.1, x1.2.2.2.2.2.2.2.2.1, x1.2.2.2.2.2.2.2.2.2)
def L29_made_R1 (k1 : ((List tzA2) × (List tzA4) × List Int × Int × Int × Int × Int × Int × tzA9 × tzA6) → Option (tzA16 × Bool × Unit)) (x2 : (List tzA2) × (List tzA4) × List Int × Int × Int × Int × Int × Int × tzA9 × tzA6) : Option (tzA16 × Bool × Unit) :=
  k1 (x2.1, x2.2.1, x2.2.2.1, x2.2.2.2.1, IntKind.i64.wrap (x2.2.2.2.2.1 + 1), x2.2.2.2.2.2.1, x2.2.2.2.2.2.2.1, x2.2.2.2.2.2.2.2.1, x2.2.2.2.2.2.2.2.2.1, x2.2.2.2.2.2.2.2.2.2)
def L29_made_L1 (k1 : ((List tzA2) × (List tzA4) × List Int × Int × Int × Int × Int × Int × tzA9 × tzA6) → Option (tzA16 × Bool × Unit)) (x1 : (List tzA2) × (List tzA4) × List Int × Int × Int × Int × Int × Int × tzA9 × tzA6) : Option (tzA16 × Bool × Unit) :=
  bif decide (x1.2.2.2.2.1 < x1.2.2.2.1) then
    cutv 1 (L29_made_C1 x1) (L29_made_R1 k1)
  else
    L29_made_J1 x1.1 x1.2.1 x1.2.2.2.2.2.1 x1.2.2.2.2.2.2.1 x1.2.2.2.2.2.2.2.1 x1.2.2.2.2.2.2.2.2.1 x1.2.2.2.2.2.2.2.2.2
def L29_made_J2 (p2 : List tzA2) (p3 : List tzA4) (p4 : List tzA8) (p5 : List (Bool × Int × Unit)) (p6 : List Int) (p7 : List (Int × tzA10 × Unit)) (p8 : List Int) (p9 : Int) (p10 : Int) (p11 : Int) (p12 : Int) (p13 : List (Int × Int × Int × Unit)) (p14 : List (Int × tzA10 × Unit)) : Option (tzA16 × Bool × Unit) :=
  loop L29_made_L1 (p2, p3, p8, (p8.length : Int), 0, p10, p11, p12, p13, p14)
def L29_made_J3 (k4 : tzA23 → Option (tzA16 × Bool × Unit)) (r7 : (List tzA2) × Int × Int × Unit) (r8 : (List tzA4) × Int × Int × Unit) (v1 : Int) (x3 : (List tzA2) × (List tzA4) × Int × tzA6 × Int × Int × (List tzA8) × (List (Bool × Int × Unit)) × List Int × tzA6 × List Int × Int × Int × Int × Int × tzA9 × tzA6) (p22 : Int) (p23 : Int) (p24 : List (Int × Int × Int × Unit)) (p25 : List (Int × tzA10 × Unit)) : Option (tzA16 × Bool × Unit) :=
  k4 (r7.1, r8.1, v1, x3.2.2.2.1, x3.2.2.2.2.1, x3.2.2.2.2.2.1, x3.2.2.2.2.2.2.1, x3.2.2.2.2.2.2.2.1, x3.2.2.2.2.2.2.2.2.1, x3.2.2.2.2.2.2.2.2.2.1, x3.2.2.2.2.2.2.2.2.2.2.1, x3.2.2.2.2.2.2.2.2.2.2.2.1, x3.2.2.2.2.2.2.2.2.2.2.2.2.1, p22, p23, p24, p25)
def L29_made_L2 (p27 : Int) (p26 : List tzA31) (v1 : Int) (k4 : tzA23 → Option (tzA16 × Bool × Unit)) (r7 : (List tzA2) × Int × Int × Unit) (r8 : (List tzA4) × Int × Int × Unit) (x3 : (List tzA2) × (List tzA4) × Int × tzA6 × Int × Int × (List tzA8) × (List (Bool × Int × Unit)) × List Int × tzA6 × List Int × Int × Int × Int × Int × tzA9 × tzA6) (p28 : List (Int × tzA10 × Unit)) (k5 : (Int × Int × Int × tzA9) → Option (tzA16 × Bool × Unit)) (x5 : Int × Int × Int × tzA9) : Option (tzA16 × Bool × Unit) :=
  bif decide (x5.1 < p27) then
    chk (0 ≤ x5.1 ∧ x5.1 < (p26.length : Int)) <|
    bif decide ((p26.getD x5.1.toNat (0, 0, 0, 0, 0, ())).1 = 4) then
      Option.bind (R06_Add (x5.2.1, x5.2.2.1, x5.2.2.2, ()) (p26.getD x5.1.toNat (0, 0, 0, 0, 0, ())).2.2.1 (IntKind.i64.wrap ((IntKind.i64.wrap (8 * v1)) + (p26.getD x5.1.toNat (0, 0, 0, 0, 0, ())).2.2.2.2.1))) fun r9 =>
      k5 (IntKind.i64.wrap (x5.1 + 1), r9.1.1, r9.1.2.1, r9.1.2.2.1)
    else
      k5 (IntKind.i64.wrap (x5.1 + 1), x5.2.1, x5.2.2.1, x5.2.2.2)
  else
    L29_made_J3 k4 r7 r8 v1 x3 x5.2.1 x5.2.2.1 x5.2.2.2 p28
def L29_made_C2 (x3 : (List tzA2) × (List tzA4) × Int × tzA6 × Int × Int × (List tzA8) × (List (Bool × Int × Unit)) × List Int × tzA6 × List Int × Int × Int × Int × Int × tzA9 × tzA6) (k4 : tzA23 → Option (tzA16 × Bool × Unit)) : Option (tzA16 × Bool × Unit) :=
  chk (0 ≤ x3.2.2.2.2.2.1 ∧ x3.2.2.2.2.2.1 < (x3.2.2.2.1.length : Int)) <|
  bif decide ((x3.2.2.2.1.getD x3.2.2.2.2.2.1.toNat (0, [], ())).1 ≤ x3.2.2.1) then
    some ((0, [], [], [], [], [], ()), false, ())
  else
    bif decide ((x3.2.2.2.1.getD x3.2.2.2.2.2.1.toNat (0, [], ())).1 > 15) then
      some ((0, [], [], [], [], [], ()), false, ())
    else
      bif decide (((x3.2.2.2.1.getD x3.2.2.2.2.2.1.toNat (0, [], ())).2.1.length : Int) > 6) then
        some ((0, [], [], [], [], [], ()), false, ())
      else
        letv ((x3.2.2.2.1.getD x3.2.2.2.2.2.1.toNat (0, [], ())).1) fun v1 =>
        Option.bind (R19_Offer x3.1 v1 (x3.2.2.2.1.getD x3.2.2.2.2.2.1.toNat (0, [], ())).2.1 (decide (((x3.2.2.2.1.getD x3.2.2.2.2.2.1.toNat (0, [], ())).2.1.length : Int) > 1))) fun r7 =>
        Option.bind (R23_Offer x3.2.1 v1 (x3.2.2.2.1.getD x3.2.2.2.2.2.1.toNat (0, [], ())).2.1 (decide (((x3.2.2.2.1.getD x3.2.2.2.2.2.1.toNat (0, [], ())).2.1.length : Int) > 1))) fun r8 =>
        bif !decide (r7.2.2.1 = 0) then
          k4 (x3.1, x3.2.1, v1, x3.2.2.2.1, x3.2.2.2.2.1, x3.2.2.2.2.2.1, x3.2.2.2.2.2.2.1, x3.2.2.2.2.2.2.2.1, x3.2.2.2.2.2.2.2.2.1, x3.2.2.2.2.2.2.2.2.2.1, x3.2.2.2.2.2.2.2.2.2.2.1, x3.2.2.2.2.2.2.2.2.2.2.2.1, x3.2.2.2.2.2.2.2.2.2.2.2.2.1, x3.2.2.2.2.2.2.2.2.2.2.2.2.2.1, x3.2.2.2.2.2.2.2.2.2.2.2.2.2.2.1, x3.2.2.2.2.2.2.2.2.2.2.2.2.2.2.2.1, x3.2.2.2.2.2.2.2.2.2.2.2.2.2.2.2.2)
        else
          bif !decide (r8.2.2.1 = 0) then
            k4 (x3.1, x3.2.1, v1, x3.2.2.2.1, x3.2.2.2.2.1, x3.2.2.2.2.2.1, x3.2.2.2.2.2.2.1, x3.2.2.2.2.2.2.2.1, x3.2.2.2.2.2.2.2.2.1, x3.2.2.2.2.2.2.2.2.2.1, x3.2.2.2.2.2.2.2.2.2.2.1, x3.2.2.2.2.2.2.2.2.2.2.2.1, x3.2.2.2.2.2.2.2.2.2.2.2.2.1, x3.2.2.2.2.2.2.2.2.2.2.2.2.2.1, x3.2.2.2.2.2.2.2.2.2.2.2.2.2.2.1, x3.2.2.2.2.2.2.2.2.2.2.2.2.2.2.2.1, x3.2.2.2.2.2.2.2.2.2.2.2.2.2.2.2.2)
          else
            letv ([(v1, (x3.2.2.2.1.getD x3.2.2.2.2.2.1.toNat (0, [], ())).2.1, ())]) fun l1 =>
            chk (x3.2.2.2.2.2.2.2.2.2.2.2.2.2.2.2.2.length + l1.length ≤ 4294967296) <|
            loop (L29_made_L2 ((x3.2.2.2.1.getD x3.2.2.2.2.2.1.toNat (0, [], ())).2.1.length : Int) (x3.2.2.2.1.getD x3.2.2.2.2.2.1.toNat (0, [], ())).2.1 v1 k4 r7 r8 x3 (x3.2.2.2.2.2.2.2.2.2.2.2.2.2.2.2.2 ++ l1)) (0, x3.2.2.2.2.2.2.2.2.2.2.2.2.2.1, x3.2.2.2.2.2.2.2.2.2.2.2.2.2.2.1, x3.2.2.2.2.2.2.2.2.2.2.2.2.2.2.2.1)
def L29_made_R2 (k3 : tzA23 → Option (tzA16 × Bool × Unit)) (x4 : (List tzA2) × (List tzA4) × Int × tzA6 × Int × Int × (List tzA8) × (List (Bool × Int × Unit)) × List Int × tzA6 × List Int × Int × Int × Int × Int × tzA9 × tzA6) : Option (tzA16 × Bool × Unit) :=
  k3 (x4.1, x4.2.1, x4.2.2.1, x4.2.2.2.1, x4.2.2.2.2.1, IntKind.i64.wrap (x4.2.2.2.2.2.1 + 1), x4.2.2.2.2.2.2.1, x4.2.2.2.2.2.2.2.1, x4.2.2.2.2.2.2.2.2.1, x4.2.2.2.2.2.2.2.2.2.1, x4.2.2.2.2.2.2.2.2.2.2.1, x4.2.2.2.2.2.2.2.2.2.2.2.1, x4.2.2.2.2.2.2.2.2.2.2.2.2.1, x4.2.2.2.2.2.2.2.2.2.2.2.2.2.1, x4.2.2.2.2.2.2.2.2.2.2.2.2.2.2.1, x4.2.2.2.2.2.2.2.2.2.2.2.2.2.2.2.1, x4.2.2.2.2.2.2.2.2.2.2.2.2.2.2.2.2)
def L29_made_L3 (k3 : tzA23 → Option (tzA16 × Bool × Unit)) (x3 : (List tzA2) × (List tzA4) × Int × tzA6 × Int × Int × (List tzA8) × (List (Bool × Int × Unit)) × List Int × tzA6 × List Int × Int × Int × Int × Int × tzA9 × tzA6) : Option (tzA16 × Bool × Unit) :=
  bif decide (x3.2.2.2.2.2.1 < x3.2.2.2.2.1) then
    cutv 2 (L29_made_C2 x3) (L29_made_R2 k3)
  else
    L29_made_J2 x3.1 x3.2.1 x3.2.2.2.2.2.2.1 x3.2.2.2.2.2.2.2.1 x3.2.2.2.2.2.2.2.2.1 x3.2.2.2.2.2.2.2.2.2.1 x3.2.2.2.2.2.2.2.2.2.2.1 x3.2.2.2.2.2.2.2.2.2.2.2.1 x3.2.2.2.2.2.2.2.2.2.2.2.2.1 x3.2.2.2.2.2.2.2.2.2.2.2.2.2.1 x3.2.2.2.2.2.2.2.2.2.2.2.2.2.2.1 x3.2.2.2.2.2.2.2.2.2.2.2.2.2.2.2.1 x3.2.2.2.2.2.2.2.2.2.2.2.2.2.2.2.2
def L29_made_J4 (r1 : (List tzA2) × Int × Int × Unit) (a0 : (List tzA8) × (List (Bool × Int × Unit)) × (List Int) × tzA6 × (List Int) × Int × Unit) (p1 : List tzA4) : Option (tzA16 × Bool × Unit) :=
  Option.bind (R06_New 100) fun r3 =>
  loop L29_made_L3 (r1.1, p1, (-1), a0.2.2.2.1, (a0.2.2.2.1.length : Int), 0, a0.1, a0.2.1, a0.2.2.1, a0.2.2.2.1, a0.2.2.2.2.1, a0.2.2.2.2.2.1, a0.2.2.2.2.2.1, r3.1.1, r3.1.2.1, r3.1.2.2.1, [])
def L29_made_J5 (k6 : ((List tzA4) × Int × Int) → Option (tzA16 × Bool × Unit)) (x6 : (List tzA4) × Int × Int) (p29 : List tzA4) : Option (tzA16 × Bool × Unit) :=
  k6 (p29, x6.2.1, IntKind.i64.wrap (x6.2.2 + 1))
def L29_made_J6 (k6 : ((List tzA4) × Int × Int) → Option (tzA16 × Bool × Unit)) (x6 : (List tzA4) × Int × Int) (p30 : List tzA4) : Option (tzA16 × Bool × Unit) :=
  L29_made_J5 k6 x6 p30
def L29_made_L4 (p32 : Int) (p31 : Int) (x6 : (List tzA4) × Int × Int) (k6 : ((List tzA4) × Int × Int) → Option (tzA16 × Bool × Unit)) (k7 : ((List tzA4) × Int) → Option (tzA16 × Bool × Unit)) (x7 : (List tzA4) × Int) : Option (tzA16 × Bool × Unit) :=
  bif decide (x7.2 < p32) then
    chk ((8 : Int) ≠ 0) <|
    chk (0 ≤ (Int.tmod x7.2 8)) <|
    bif decide ((bitsOp .and .u8 (Int.fdiv p31 (2 ^ min (Int.tmod x7.2 8).toNat 8)) 1) = 1) then
      Option.bind (R23_Enrol x7.1 x7.2 x6.2.2) fun r10 =>
      k7 (r10.1, IntKind.i64.wrap (x7.2 + 1))
    else
      k7 (x7.1, IntKind.i64.wrap (x7.2 + 1))
  else
    L29_made_J6 k6 x6 x7.1
def L29_made_L5 (a0 : (List tzA8) × (List (Bool × Int × Unit)) × (List Int) × tzA6 × (List Int) × Int × Unit) (r1 : (List tzA2) × Int × Int × Unit) (k6 : ((List tzA4) × Int × Int) → Option (tzA16 × Bool × Unit)) (x6 : (List tzA4) × Int × Int) : Option (tzA16 × Bool × Unit) :=
  bif decide (x6.2.2 < x6.2.1) then
    chk (0 ≤ x6.2.2 ∧ x6.2.2 < (a0.2.2.1.length : Int)) <|
    loop (L29_made_L4 (x6.1.length : Int) (a0.2.2.1.getD x6.2.2.toNat 0) x6 k6) (x6.1, 0)
  else
    L29_made_J4 r1 a0 x6.1
def L29_made (a0 : (List tzA8) × (List (Bool × Int × Unit)) × (List Int) × tzA6 × (List Int) × Int × Unit) : Option (tzA16 × Bool × Unit) :=
  Option.bind (R19_New a0.1) fun r1 =>
  Option.bind (R23_New a0.2.1) fun r2 =>
  bif !decide (r1.2.2.1 = 0) then
    some ((0, [], [], [], [], [], ()), false, ())
  else
    bif !decide (r2.2.2.1 = 0) then
      some ((0, [], [], [], [], [], ()), false, ())
    else
      bif decide ((a0.2.2.1.length : Int) > 16) then
        some ((0, [], [], [], [], [], ()), false, ())
      else
        bif decide ((a0.2.2.2.1.length : Int) > 12) then
          some ((0, [], [], [], [], [], ()), false, ())
        else
          loop (L29_made_L5 a0 r1) (r2.1, (a0.2.2.1.length : Int), 0)
end Go.Proofs.YtbkccpddkpclaaaGreatDoorV
namespace Go.Proofs.YtbkccpddkpclaaaGreatDoorV
set_option linter.unusedVariables false
end Go.Proofs.YtbkccpddkpclaaaGreatDoorV
namespace Go.Proofs.YtbkccpddkpclaaaGreatDoorV
set_option linter.unusedVariables false
def L29_ReadyBoth_J1 : Option Bool :=
  Option.bind (L29_alive) fun r5 =>
  some r5
def L29_ReadyBoth_J2 (k1 : (Int × Int) → Option Bool) (x1 : Int × Int) : Option Bool :=
  k1 (x1.1, IntKind.i64.wrap (x1.2 + 1))
def L29_ReadyBoth_J3 (k1 : (Int × Int) → Option Bool) (x1 : Int × Int) (p2 : Bool) : Option Bool :=
  bif !p2 then
    some false
  else
    L29_ReadyBoth_J2 k1 x1
def L29_ReadyBoth_L1 (p3 : Int) (p1 : List tzA8) (p4 : Int) (p5 : Int) (p6 : Int) (p7 : Int) (k1 : (Int × Int) → Option Bool) (x1 : Int × Int) (k2 : (Bool × Int) → Option Bool) (x2 : Bool × Int) : Option Bool :=
  bif decide (x2.2 < p3) then
    chk (0 ≤ x2.2 ∧ x2.2 < (p1.length : Int)) <|
    bif x2.1 then
      k2 (true, IntKind.i64.wrap (x2.2 + 1))
    else
      letv ((decide ((p1.getD x2.2.toNat (0, 0, 0, 0, ())).1 = p4)) && ((decide ((p1.getD x2.2.toNat (0, 0, 0, 0, ())).2.1 = p5)) && ((decide ((p1.getD x2.2.toNat (0, 0, 0, 0, ())).2.2.1 = p6)) && ((decide ((p1.getD x2.2.toNat (0, 0, 0, 0, ())).2.2.2.1 = p7)) && true)))) fun v1 =>
      k2 (v1, IntKind.i64.wrap (x2.2 + 1))
  else
    L29_ReadyBoth_J3 k1 x1 x2.1
def L29_ReadyBoth_L2 (r4 : List tzA8) (p1 : List tzA8) (k1 : (Int × Int) → Option Bool) (x1 : Int × Int) : Option Bool :=
  bif decide (x1.2 < x1.1) then
    chk (0 ≤ x1.2 ∧ x1.2 < (r4.length : Int)) <|
    loop (L29_ReadyBoth_L1 (p1.length : Int) p1 (r4.getD x1.2.toNat (0, 0, 0, 0, ())).1 (r4.getD x1.2.toNat (0, 0, 0, 0, ())).2.1 (r4.getD x1.2.toNat (0, 0, 0, 0, ())).2.2.1 (r4.getD x1.2.toNat (0, 0, 0, 0, ())).2.2.2.1 k1 x1) (false, 0)
  else
    L29_ReadyBoth_J1
def L29_ReadyBoth_J4 (r4 : List tzA8) (p1 : List tzA8) : Option Bool :=
  loop (L29_ReadyBoth_L2 r4 p1) ((r4.length : Int), 0)
def L29_ReadyBoth_J5 (k3 : (Int × Int × (List tzA8)) → Option Bool) (x3 : Int × Int × (List tzA8)) (p8 : List tzA8) : Option Bool :=
  k3 (x3.1, IntKind.i64.wrap (x3.2.1 + 1), p8)
def L29_ReadyBoth_J6 (k3 : (Int × Int × (List tzA8)) → Option Bool) (x3 : Int × Int × (List tzA8)) (p9 : List tzA8) : Option Bool :=
  L29_ReadyBoth_J5 k3 x3 p9
def L29_ReadyBoth_J7 (k4 : (tzA10 × Int × Int × Int × tzA10 × (List tzA8)) → Option Bool) (x4 : tzA10 × Int × Int × Int × tzA10 × (List tzA8)) (p10 : List tzA8) : Option Bool :=
  k4 (x4.1, x4.2.1, IntKind.i64.wrap (x4.2.2.1 + 1), x4.2.2.2.1, x4.2.2.2.2.1, p10)
def L29_ReadyBoth_J8 (k4 : (tzA10 × Int × Int × Int × tzA10 × (List tzA8)) → Option Bool) (x4 : tzA10 × Int × Int × Int × tzA10 × (List tzA8)) : Option Bool :=
  k4 (x4.1, x4.2.1, IntKind.i64.wrap (x4.2.2.1 + 1), x4.2.2.2.1, x4.2.2.2.2.1, x4.2.2.2.2.2)
def L29_ReadyBoth_J9 (r7 : tzA8 × Bool × Unit) (p11 : Bool) (x4 : tzA10 × Int × Int × Int × tzA10 × (List tzA8)) (k4 : (tzA10 × Int × Int × Int × tzA10 × (List tzA8)) → Option Bool) (p17 : Bool) : Option Bool :=
  bif !(r7.2.1 == p11) then
    some false
  else
    bif !(r7.2.1 == p17) then
      some false
    else
      bif !(r7.2.1 == (!((decide (r7.1.1 = 0)) && ((decide (r7.1.2.1 = 0)) && ((decide (r7.1.2.2.1 = 0)) && ((decide (r7.1.2.2.2.1 = 0)) && true)))))) then
        some false
      else
        bif r7.2.1 then
          chk (x4.2.2.2.2.2.length + ([r7.1] : List tzA8).length ≤ 4294967296) <|
          L29_ReadyBoth_J7 k4 x4 (x4.2.2.2.2.2 ++ [r7.1])
        else
          L29_ReadyBoth_J8 k4 x4
def L29_ReadyBoth_L3 (p18 : Int) (r6 : List Int) (p16 : Int) (r7 : tzA8 × Bool × Unit) (p11 : Bool) (x4 : tzA10 × Int × Int × Int × tzA10 × (List tzA8)) (k4 : (tzA10 × Int × Int × Int × tzA10 × (List tzA8)) → Option Bool) (k5 : (Bool × Int) → Option Bool) (x5 : Bool × Int) : Option Bool :=
  bif decide (x5.2 < p18) then
    chk (0 ≤ x5.2 ∧ x5.2 < (r6.length : Int)) <|
    bif x5.1 then
      k5 (true, IntKind.i64.wrap (x5.2 + 1))
    else
      k5 (decide ((r6.getD x5.2.toNat 0) = p16), IntKind.i64.wrap (x5.2 + 1))
  else
    L29_ReadyBoth_J9 r7 p11 x4 k4 x5.1
def L29_ReadyBoth_J10 (r6 : List Int) (r7 : tzA8 × Bool × Unit) (x4 : tzA10 × Int × Int × Int × tzA10 × (List tzA8)) (k4 : (tzA10 × Int × Int × Int × tzA10 × (List tzA8)) → Option Bool) (p11 : Bool) (p12 : Int) (p13 : Int) (p14 : Int) (p15 : Int) (p16 : Int) : Option Bool :=
  loop (L29_ReadyBoth_L3 (r6.length : Int) r6 p16 r7 p11 x4 k4) (false, 0)
def L29_ReadyBoth_L4 (p19 : Int) (r4 : List tzA8) (r7 : tzA8 × Bool × Unit) (r6 : List Int) (x4 : tzA10 × Int × Int × Int × tzA10 × (List tzA8)) (k4 : (tzA10 × Int × Int × Int × tzA10 × (List tzA8)) → Option Bool) (p20 : Int) (p21 : Int) (p22 : Int) (p23 : Int) (p24 : Int) (k6 : (Bool × Int) → Option Bool) (x6 : Bool × Int) : Option Bool :=
  bif decide (x6.2 < p19) then
    chk (0 ≤ x6.2 ∧ x6.2 < (r4.length : Int)) <|
    bif x6.1 then
      k6 (true, IntKind.i64.wrap (x6.2 + 1))
    else
      letv ((decide ((r4.getD x6.2.toNat (0, 0, 0, 0, ())).1 = r7.1.1)) && ((decide ((r4.getD x6.2.toNat (0, 0, 0, 0, ())).2.1 = r7.1.2.1)) && ((decide ((r4.getD x6.2.toNat (0, 0, 0, 0, ())).2.2.1 = r7.1.2.2.1)) && ((decide ((r4.getD x6.2.toNat (0, 0, 0, 0, ())).2.2.2.1 = r7.1.2.2.2.1)) && true)))) fun v2 =>
      k6 (v2, IntKind.i64.wrap (x6.2 + 1))
  else
    L29_ReadyBoth_J10 r6 r7 x4 k4 x6.1 p20 p21 p22 p23 p24
def L29_ReadyBoth_L5 (r3 : Int × (List tzA2) × (List tzA4) × tzA6 × tzA9 × (List Int) × Unit) (r4 : List tzA8) (r6 : List Int) (k3 : (Int × Int × (List tzA8)) → Option Bool) (x3 : Int × Int × (List tzA8)) (k4 : (tzA10 × Int × Int × Int × tzA10 × (List tzA8)) → Option Bool) (x4 : tzA10 × Int × Int × Int × tzA10 × (List tzA8)) : Option Bool :=
  bif decide (x4.2.2.1 < x4.2.1) then
    chk (0 ≤ x4.2.2.1 ∧ x4.2.2.1 < (x4.1.length : Int)) <|
    Option.bind (ready_Which r3 x4.2.2.2.1 (x4.1.getD x4.2.2.1.toNat (0, 0, 0, 0, 0, ())).2.2.2.2.1) fun r7 =>
    loop (L29_ReadyBoth_L4 (r4.length : Int) r4 r7 r6 x4 k4 (x4.1.getD x4.2.2.1.toNat (0, 0, 0, 0, 0, ())).1 (x4.1.getD x4.2.2.1.toNat (0, 0, 0, 0, 0, ())).2.1 (x4.1.getD x4.2.2.1.toNat (0, 0, 0, 0, 0, ())).2.2.1 (x4.1.getD x4.2.2.1.toNat (0, 0, 0, 0, 0, ())).2.2.2.1 (x4.1.getD x4.2.2.1.toNat (0, 0, 0, 0, 0, ())).2.2.2.2.1) (false, 0)
  else
    L29_ReadyBoth_J6 k3 x3 x4.2.2.2.2.2
def L29_ReadyBoth_L6 (r3 : Int × (List tzA2) × (List tzA4) × tzA6 × tzA9 × (List Int) × Unit) (r4 : List tzA8) (k3 : (Int × Int × (List tzA8)) → Option Bool) (x3 : Int × Int × (List tzA8)) : Option Bool :=
  bif decide (x3.2.1 < x3.1) then
    chk (0 ≤ x3.2.1 ∧ x3.2.1 < (r3.2.2.2.1.length : Int)) <|
    Option.bind (ready_Guards r3 (r3.2.2.2.1.getD x3.2.1.toNat (0, [], ())).1) fun r6 =>
    loop (L29_ReadyBoth_L5 r3 r4 r6 k3 x3) ((r3.2.2.2.1.getD x3.2.1.toNat (0, [], ())).2.1, ((r3.2.2.2.1.getD x3.2.1.toNat (0, [], ())).2.1.length : Int), 0, (r3.2.2.2.1.getD x3.2.1.toNat (0, [], ())).1, (r3.2.2.2.1.getD x3.2.1.toNat (0, [], ())).2.1, x3.2.2)
  else
    L29_ReadyBoth_J4 r4 x3.2.2
def L29_ReadyBoth (a0 : (List tzA8) × (List (Bool × Int × Unit)) × (List Int) × tzA6 × (List Int) × Int × Unit) : Option Bool :=
  Option.bind (L29_made a0) fun r1 =>
  bif !r1.2.1 then
    Option.bind (L29_alive) fun r2 =>
    some r2
  else
    Option.bind (L29_To r1.1) fun r3 =>
    Option.bind (ready_Events r3) fun r4 =>
    loop (L29_ReadyBoth_L6 r3 r4) ((r3.2.2.2.1.length : Int), 0, [])
end Go.Proofs.YtbkccpddkpclaaaGreatDoorV
