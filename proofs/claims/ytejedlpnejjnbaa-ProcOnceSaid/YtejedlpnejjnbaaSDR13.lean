import Derived.Test.YtejedlpnejjnbaaSVcMt
import Derived.Test.YtejedlpnejjnbaaSDbase
namespace Go.Proofs.YtejedlpnejjnbaaSV
set_option linter.unusedVariables false
def R13_Place (a0 : Int) : Option Bool :=
  bif decide (a0 ≥ 0) then
    some (decide (a0 ≤ 64))
  else
    some false
def R13_Fine_J1 : Option Bool :=
  some true
def R13_Fine_L1 (p4 : List Int) (k1 : Int → Option Bool) (x1 : Int) : Option Bool :=
  bif decide (x1 < 16) then
    chk (0 ≤ x1 ∧ x1 < (16 : Int)) <|
    Option.bind (R08_Fine (p4.getD x1.toNat 0)) fun r2 =>
    bif !r2 then
      some false
    else
      k1 (IntKind.i64.wrap (x1 + 1))
  else
    R13_Fine_J1
def R13_Fine_J2 (p1 : Int) (p2 : Bool) (p3 : List Int) (p4 : List Int) (p5 : Int) (p6 : List Int) : Option Bool :=
  loop (R13_Fine_L1 p4) 0
def R13_Fine_C1 (x2 : Int × Int × Bool × List Int × List Int × Int × List Int) (k3 : (Int × Int × Bool × List Int × List Int × Int × List Int) → Option Bool) : Option Bool :=
  chk (0 ≤ x2.1 ∧ x2.1 < (8 : Int)) <|
  Option.bind (R08_Fine (x2.2.2.2.1.getD x2.1.toNat 0)) fun r3 =>
  bif !r3 then
    some false
  else
    bif decide (x2.1 < x2.2.2.2.2.2.1) then
      chk (0 ≤ x2.1 ∧ x2.1 < (8 : Int)) <|
      Option.bind (R13_Place (x2.2.2.2.2.2.2.getD x2.1.toNat 0)) fun r4 =>
      bif !r4 then
        some false
      else
        bif decide (x2.1 ≥ x2.2.2.2.2.2.1) then
          chk (0 ≤ x2.1 ∧ x2.1 < (8 : Int)) <|
          bif !decide ((x2.2.2.2.2.2.2.getD x2.1.toNat 0) = 0) then
            some false
          else
            k3 (x2.1, x2.2.1, x2.2.2.1, x2.2.2.2.1, x2.2.2.2.2.1, x2.2.2.2.2.2.1, x2.2.2.2.2.2.2)
        else
          k3 (x2.1, x2.2.1, x2.2.2.1, x2.2.2.2.1, x2.2.2.2.2.1, x2.2.2.2.2.2.1, x2.2.2.2.2.2.2)
    else
      bif decide (x2.1 ≥ x2.2.2.2.2.2.1) then
        chk (0 ≤ x2.1 ∧ x2.1 < (8 : Int)) <|
        bif !decide ((x2.2.2.2.2.2.2.getD x2.1.toNat 0) = 0) then
          some false
        else
          k3 (x2.1, x2.2.1, x2.2.2.1, x2.2.2.2.1, x2.2.2.2.2.1, x2.2.2.2.2.2.1, x2.2.2.2.2.2.2)
      else
        k3 (x2.1, x2.2.1, x2.2.2.1, x2.2.2.2.1, x2.2.2.2.2.1, x2.2.2.2.2.2.1, x2.2.2.2.2.2.2)
def R13_Fine_R1 (k2 : (Int × Int × Bool × List Int × List Int × Int × List Int) → Option Bool) (x3 : Int × Int × Bool × List Int × List Int × Int × List Int) : Option Bool :=
  k2 (IntKind.i64.wrap (x3.1 + 1), x3.2.1, x3.2.2.1, x3.2.2.2.1, x3.2.2.2.2.1, x3.2.2.2.2.2.1, x3.2.2.2.2.2.2)
def R13_Fine_L2 (k2 : (Int × Int × Bool × List Int × List Int × Int × List Int) → Option Bool) (x2 : Int × Int × Bool × List Int × List Int × Int × List Int) : Option Bool :=
  bif decide (x2.1 < 8) then
    cutv 1 (R13_Fine_C1 x2) (R13_Fine_R1 k2)
  else
    R13_Fine_J2 x2.2.1 x2.2.2.1 x2.2.2.2.1 x2.2.2.2.2.1 x2.2.2.2.2.2.1 x2.2.2.2.2.2.2
def R13_Fine (a0 : Int × Bool × (List Int) × (List Int) × Int × (List Int) × Unit) : Option Bool :=
  Option.bind (R13_Place a0.1) fun r1 =>
  bif !r1 then
    some false
  else
    bif decide (a0.2.2.2.2.1 < 0) then
      some false
    else
      bif decide (a0.2.2.2.2.1 > 8) then
        some false
      else
        loop R13_Fine_L2 (0, a0.1, a0.2.1, a0.2.2.1, a0.2.2.2.1, a0.2.2.2.2.1, a0.2.2.2.2.2.1)
def R13_New (a0 : Int) : Option ((Int × Bool × (List Int) × (List Int) × Int × (List Int) × Unit) × Int × Unit) :=
  Option.bind (R08_Fine a0) fun r1 =>
  bif !r1 then
    some ((0, false, (List.replicate 8 0), (List.replicate 16 0), 0, (List.replicate 8 0), ()), 8, ())
  else
    chk (0 ≤ (0 : Int) ∧ (0 : Int) < (8 : Int)) <|
    some ((0, false, (List.replicate 8 0).set (0 : Int).toNat a0, (List.replicate 16 0), 0, (List.replicate 8 0), ()), 0, ())
end Go.Proofs.YtejedlpnejjnbaaSV
