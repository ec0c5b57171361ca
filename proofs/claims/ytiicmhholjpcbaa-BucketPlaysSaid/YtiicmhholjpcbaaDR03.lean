import Derived.Test.YtiicmhholjpcbaaVcMt
namespace Go.Proofs.YtiicmhholjpcbaaV
set_option linter.unusedVariables false
def R03_New (a0 : Int) (a1 : Int) : Option ((Int × (List (List Int)) × Unit) × Int × Unit) :=
  bif decide (a0 < 1) then
    some ((0, [], ()), 1, ())
  else
    bif decide (a0 > 64) then
      some ((0, [], ()), 1, ())
    else
      bif decide (a1 < 0) then
        some ((0, [], ()), 1, ())
      else
        bif decide (a1 > 1024) then
          some ((0, [], ()), 1, ())
        else
          chk (a0 = a0 ∧ 0 ≤ a0 ∧ a0 ≤ 4294967296) <|
          some ((a1, List.replicate a0.toNat [], ()), 0, ())
def R03_is (a0 : Int × (List (List Int)) × Unit) (a1 : Int) : Option Bool :=
  bif decide (a1 ≥ 0) then
    some (decide (a1 < (a0.2.1.length : Int)))
  else
    some false
def R03_put (a0 : Int × (List (List Int)) × Unit) (a1 : Int) (a2 : List Int) : Option (Int × (List (List Int)) × Unit) :=
  chk (a0.2.1.length ≤ 4294967296) <|
  chk (0 ≤ a1 ∧ a1 < (a0.2.1.length : Int)) <|
  some (a0.1, a0.2.1.set a1.toNat a2, ())
def R03_Remove_J1 (a0 : Int × (List (List Int)) × Unit) : Option ((Int × (List (List Int)) × Unit) × Bool × Unit) :=
  some (a0, false, ())
def R03_Remove_C1 (x1 : Int) (p1 : List Int) (a0 : Int × (List (List Int)) × Unit) (a1 : Int) (k2 : (Int × List (List Int)) → Option ((Int × (List (List Int)) × Unit) × Bool × Unit)) : Option ((Int × (List (List Int)) × Unit) × Bool × Unit) :=
  chk (0 ≤ (0 : Int) ∧ (0 : Int) ≤ x1 ∧ x1 ≤ (p1.length : Int)) <|
  chk (((p1.take x1.toNat).drop (0 : Int).toNat).length ≤ 4294967296) <|
  chk (0 ≤ (IntKind.i64.wrap (x1 + 1)) ∧ (IntKind.i64.wrap (x1 + 1)) ≤ (p1.length : Int) ∧ (p1.length : Int) ≤ (p1.length : Int)) <|
  chk (((p1.take x1.toNat).drop (0 : Int).toNat).length + ((p1.take (p1.length : Int).toNat).drop (IntKind.i64.wrap (x1 + 1)).toNat).length ≤ 4294967296) <|
  letv (((p1.take x1.toNat).drop (0 : Int).toNat) ++ ((p1.take (p1.length : Int).toNat).drop (IntKind.i64.wrap (x1 + 1)).toNat)) fun l1 =>
  Option.bind (R03_put a0 a1 l1) fun r2 =>
  k2 (r2.1, r2.2.1)
def R03_Remove_R1 (x2 : Int × List (List Int)) : Option ((Int × (List (List Int)) × Unit) × Bool × Unit) :=
  some ((x2.1, x2.2, ()), true, ())
def R03_Remove_L1 (p1 : List Int) (a2 : Int) (a0 : Int × (List (List Int)) × Unit) (a1 : Int) (k1 : Int → Option ((Int × (List (List Int)) × Unit) × Bool × Unit)) (x1 : Int) : Option ((Int × (List (List Int)) × Unit) × Bool × Unit) :=
  bif decide (x1 < (p1.length : Int)) then
    chk (0 ≤ x1 ∧ x1 < (p1.length : Int)) <|
    bif decide ((p1.getD x1.toNat 0) = a2) then
      cutv 1 (R03_Remove_C1 x1 p1 a0 a1) R03_Remove_R1
    else
      k1 (IntKind.i64.wrap (x1 + 1))
  else
    R03_Remove_J1 a0
def R03_Remove (a0 : Int × (List (List Int)) × Unit) (a1 : Int) (a2 : Int) : Option ((Int × (List (List Int)) × Unit) × Bool × Unit) :=
  Option.bind (R03_is a0 a1) fun r1 =>
  bif !r1 then
    some (a0, false, ())
  else
    chk (0 ≤ a1 ∧ a1 < (a0.2.1.length : Int)) <|
    loop (R03_Remove_L1 (a0.2.1.getD a1.toNat []) a2 a0 a1) 0
def R03_First (a0 : Int × (List (List Int)) × Unit) (a1 : Int) : Option (Int × Int × Unit) :=
  Option.bind (R03_is a0 a1) fun r1 =>
  bif !r1 then
    some (0, 8, ())
  else
    chk (0 ≤ a1 ∧ a1 < (a0.2.1.length : Int)) <|
    bif decide (((a0.2.1.getD a1.toNat []).length : Int) = 0) then
      some (0, 11, ())
    else
      chk (0 ≤ a1 ∧ a1 < (a0.2.1.length : Int)) <|
      chk (0 ≤ (0 : Int) ∧ (0 : Int) < ((a0.2.1.getD a1.toNat []).length : Int)) <|
      letv ((a0.2.1.getD a1.toNat []).getD (0 : Int).toNat 0) fun v1 =>
      some (v1, 0, ())
def R03_Pop (a0 : Int × (List (List Int)) × Unit) (a1 : Int) : Option ((Int × (List (List Int)) × Unit) × Int × Int × Unit) :=
  Option.bind (R03_First a0 a1) fun r1 =>
  bif !decide (r1.2.1 = 0) then
    some (a0, 0, r1.2.1, ())
  else
    chk (0 ≤ a1 ∧ a1 < (a0.2.1.length : Int)) <|
    chk (0 ≤ (1 : Int) ∧ (1 : Int) ≤ ((a0.2.1.getD a1.toNat []).length : Int) ∧ ((a0.2.1.getD a1.toNat []).length : Int) ≤ ((a0.2.1.getD a1.toNat []).length : Int)) <|
    Option.bind (R03_put a0 a1 (((a0.2.1.getD a1.toNat []).take ((a0.2.1.getD a1.toNat []).length : Int).toNat).drop (1 : Int).toNat)) fun r2 =>
    some (r2, r1.1, 0, ())
def R03_Free_J1 (p1 : Int) : Option Int :=
  some p1
def R03_Free_L1 (a0 : Int × (List (List Int)) × Unit) (k1 : (Int × Int) → Option Int) (x1 : Int × Int) : Option Int :=
  bif decide (x1.2 < (a0.2.1.length : Int)) then
    chk (0 ≤ x1.2 ∧ x1.2 < (a0.2.1.length : Int)) <|
    letv (IntKind.i64.wrap (x1.1 - ((a0.2.1.getD x1.2.toNat []).length : Int))) fun v1 =>
    k1 (v1, IntKind.i64.wrap (x1.2 + 1))
  else
    R03_Free_J1 x1.1
def R03_Free (a0 : Int × (List (List Int)) × Unit) : Option Int :=
  loop (R03_Free_L1 a0) (a0.1, 0)
def R03_Push_C1 (a1 : Int) (a0 : Int × (List (List Int)) × Unit) (a2 : Int) (k1 : (Int × List (List Int)) → Option ((Int × (List (List Int)) × Unit) × Int × Unit)) : Option ((Int × (List (List Int)) × Unit) × Int × Unit) :=
  chk (0 ≤ a1 ∧ a1 < (a0.2.1.length : Int)) <|
  chk ((a0.2.1.getD a1.toNat []).length ≤ 4294967296) <|
  chk ((a0.2.1.getD a1.toNat []).length + ([a2] : List Int).length ≤ 4294967296) <|
  Option.bind (R03_put a0 a1 ((a0.2.1.getD a1.toNat []) ++ [a2])) fun r3 =>
  k1 (r3.1, r3.2.1)
def R03_Push_R1 (x1 : Int × List (List Int)) : Option ((Int × (List (List Int)) × Unit) × Int × Unit) :=
  some ((x1.1, x1.2, ()), 0, ())
def R03_Push (a0 : Int × (List (List Int)) × Unit) (a1 : Int) (a2 : Int) : Option ((Int × (List (List Int)) × Unit) × Int × Unit) :=
  Option.bind (R03_is a0 a1) fun r1 =>
  bif !r1 then
    some (a0, 8, ())
  else
    Option.bind (R03_Free a0) fun r2 =>
    bif decide (r2 = 0) then
      some (a0, 10, ())
    else
      cutv 1 (R03_Push_C1 a1 a0 a2) R03_Push_R1
def R03_List (a0 : Int × (List (List Int)) × Unit) (a1 : Int) : Option (List Int) :=
  Option.bind (R03_is a0 a1) fun r1 =>
  bif !r1 then
    some []
  else
    chk (0 ≤ a1 ∧ a1 < (a0.2.1.length : Int)) <|
    some (a0.2.1.getD a1.toNat [])
end Go.Proofs.YtiicmhholjpcbaaV
