import Derived.Test.YtiicmhholjpcbaaVcMt
namespace Go.Proofs.YtiicmhholjpcbaaV
set_option linter.unusedVariables false
def R24_New (a0 : Int) : Option ((List (List Int)) × Int × Unit) :=
  bif decide (a0 < 0) then
    some ([], 1, ())
  else
    bif decide (a0 > 4) then
      some ([], 1, ())
    else
      chk (a0 = a0 ∧ 0 ≤ a0 ∧ a0 ≤ 4294967296) <|
      some (List.replicate a0.toNat [], 0, ())
def R24_put (a0 : List (List Int)) (a1 : Int) (a2 : List Int) : Option (List (List Int)) :=
  chk (a0.length ≤ 4294967296) <|
  chk (0 ≤ a1 ∧ a1 < (a0.length : Int)) <|
  some (a0.set a1.toNat a2)
def R24_Flush (a0 : List (List Int)) (a1 : Int) : Option ((List (List Int)) × (List Int) × Int × Unit) :=
  bif decide (a1 < 0) then
    some (a0, [], 8, ())
  else
    bif decide (a1 ≥ (a0.length : Int)) then
      some (a0, [], 8, ())
    else
      chk (0 ≤ a1 ∧ a1 < (a0.length : Int)) <|
      Option.bind (R24_put a0 a1 []) fun r1 =>
      some (r1, a0.getD a1.toNat [], 0, ())
def R24_Where_J1 : Option (Int × Bool × Unit) :=
  some (0, false, ())
def R24_Where_J2 (k1 : Int → Option (Int × Bool × Unit)) (x1 : Int) : Option (Int × Bool × Unit) :=
  k1 (IntKind.i64.wrap (x1 + 1))
def R24_Where_J3 (k1 : Int → Option (Int × Bool × Unit)) (x1 : Int) : Option (Int × Bool × Unit) :=
  R24_Where_J2 k1 x1
def R24_Where_L1 (x1 : Int) (a0 : List (List Int)) (a1 : Int) (k1 : Int → Option (Int × Bool × Unit)) (k2 : Int → Option (Int × Bool × Unit)) (x2 : Int) : Option (Int × Bool × Unit) :=
  chk (0 ≤ x1 ∧ x1 < (a0.length : Int)) <|
  bif decide (x2 < ((a0.getD x1.toNat []).length : Int)) then
    chk (0 ≤ x1 ∧ x1 < (a0.length : Int)) <|
    chk (0 ≤ x2 ∧ x2 < ((a0.getD x1.toNat []).length : Int)) <|
    bif decide (((a0.getD x1.toNat []).getD x2.toNat 0) = a1) then
      some (x1, true, ())
    else
      k2 (IntKind.i64.wrap (x2 + 1))
  else
    R24_Where_J3 k1 x1
def R24_Where_L2 (a0 : List (List Int)) (a1 : Int) (k1 : Int → Option (Int × Bool × Unit)) (x1 : Int) : Option (Int × Bool × Unit) :=
  bif decide (x1 < (a0.length : Int)) then
    loop (R24_Where_L1 x1 a0 a1 k1) 0
  else
    R24_Where_J1
def R24_Where (a0 : List (List Int)) (a1 : Int) : Option (Int × Bool × Unit) :=
  loop (R24_Where_L2 a0 a1) 0
def R24_Fall (a0 : List (List Int)) (a1 : Int) (a2 : Int) : Option ((List (List Int)) × Int × Unit) :=
  bif decide (a1 < 0) then
    some (a0, 8, ())
  else
    bif decide (a1 ≥ (a0.length : Int)) then
      some (a0, 8, ())
    else
      bif decide (a2 < 0) then
        some (a0, 8, ())
      else
        bif decide (a2 > 15) then
          some (a0, 8, ())
        else
          Option.bind (R24_Where a0 a2) fun r1 =>
          bif r1.2.1 then
            some (a0, 7, ())
          else
            chk (0 ≤ a1 ∧ a1 < (a0.length : Int)) <|
            chk ((a0.getD a1.toNat []).length ≤ 4294967296) <|
            chk ((a0.getD a1.toNat []).length + ([a2] : List Int).length ≤ 4294967296) <|
            Option.bind (R24_put a0 a1 ((a0.getD a1.toNat []) ++ [a2])) fun r2 =>
            some (r2, 0, ())
def R24_List (a0 : List (List Int)) (a1 : Int) : Option (List Int) :=
  bif decide (a1 < 0) then
    some []
  else
    bif decide (a1 ≥ (a0.length : Int)) then
      some []
    else
      chk (0 ≤ a1 ∧ a1 < (a0.length : Int)) <|
      some (a0.getD a1.toNat [])
end Go.Proofs.YtiicmhholjpcbaaV
