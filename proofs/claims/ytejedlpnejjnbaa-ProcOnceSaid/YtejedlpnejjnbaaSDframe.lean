import Derived.Test.YtejedlpnejjnbaaSVcMt
import Derived.Test.YtejedlpnejjnbaaSDbase
namespace Go.Proofs.YtejedlpnejjnbaaSV
set_option linter.unusedVariables false
def frame_place (a0 : Int) : Option Bool :=
  bif decide (a0 ≥ 0) then
    some (decide (a0 ≤ 64))
  else
    some false
def frame_Fine_1 (a0 : Int) : Option Bool :=
  some (decide (a0 = 0))
def frame_Fine_J1 (k1 : (Bool × Int × Bool × List Int × List Int × Int × List Int) → Option Bool) (a0 : Int × Bool × (List Int) × (List Int) × Int × (List Int) × Unit) : Option Bool :=
  k1 (true, a0.1, a0.2.1, a0.2.2.1, a0.2.2.2.1, a0.2.2.2.2.1, a0.2.2.2.2.2.1)
def frame_Fine_L1 (p2 : Int) (p1 : List Int) (k1 : (Bool × Int × Bool × List Int × List Int × Int × List Int) → Option Bool) (a0 : Int × Bool × (List Int) × (List Int) × Int × (List Int) × Unit) (k2 : Int → Option Bool) (x2 : Int) : Option Bool :=
  bif decide (x2 < p2) then
    chk (0 ≤ x2 ∧ x2 < (p1.length : Int)) <|
    Option.bind (word_Fine (p1.getD x2.toNat 0)) fun r2 =>
    bif !r2 then
      k1 (!(decide (x2 ≥ 0)), a0.1, a0.2.1, a0.2.2.1, a0.2.2.2.1, a0.2.2.2.2.1, a0.2.2.2.2.2.1)
    else
      k2 (IntKind.i64.wrap (x2 + 1))
  else
    frame_Fine_J1 k1 a0
def frame_Fine_C1 (a0 : Int × Bool × (List Int) × (List Int) × Int × (List Int) × Unit) (k1 : (Bool × Int × Bool × List Int × List Int × Int × List Int) → Option Bool) : Option Bool :=
  loop (frame_Fine_L1 (((a0.2.2.1.take (8 : Int).toNat).drop (0 : Int).toNat).length : Int) ((a0.2.2.1.take (8 : Int).toNat).drop (0 : Int).toNat) k1 a0) 0
def frame_Fine_J2 (k3 : (Bool × Int × Bool × List Int × List Int × Int × List Int) → Option Bool) (x1 : Bool × Int × Bool × List Int × List Int × Int × List Int) : Option Bool :=
  k3 (true, x1.2.1, x1.2.2.1, x1.2.2.2.1, x1.2.2.2.2.1, x1.2.2.2.2.2.1, x1.2.2.2.2.2.2)
def frame_Fine_L2 (p4 : Int) (p3 : List Int) (k3 : (Bool × Int × Bool × List Int × List Int × Int × List Int) → Option Bool) (x1 : Bool × Int × Bool × List Int × List Int × Int × List Int) (k4 : Int → Option Bool) (x4 : Int) : Option Bool :=
  bif decide (x4 < p4) then
    chk (0 ≤ x4 ∧ x4 < (p3.length : Int)) <|
    Option.bind (word_Fine (p3.getD x4.toNat 0)) fun r3 =>
    bif !r3 then
      k3 (!(decide (x4 ≥ 0)), x1.2.1, x1.2.2.1, x1.2.2.2.1, x1.2.2.2.2.1, x1.2.2.2.2.2.1, x1.2.2.2.2.2.2)
    else
      k4 (IntKind.i64.wrap (x4 + 1))
  else
    frame_Fine_J2 k3 x1
def frame_Fine_C2 (x1 : Bool × Int × Bool × List Int × List Int × Int × List Int) (k3 : (Bool × Int × Bool × List Int × List Int × Int × List Int) → Option Bool) : Option Bool :=
  loop (frame_Fine_L2 (((x1.2.2.2.2.1.take (16 : Int).toNat).drop (0 : Int).toNat).length : Int) ((x1.2.2.2.2.1.take (16 : Int).toNat).drop (0 : Int).toNat) k3 x1) 0
def frame_Fine_J3 (k5 : (Bool × Int × Bool × List Int × List Int × Int × List Int) → Option Bool) (x3 : Bool × Int × Bool × List Int × List Int × Int × List Int) : Option Bool :=
  k5 (true, x3.2.1, x3.2.2.1, x3.2.2.2.1, x3.2.2.2.2.1, x3.2.2.2.2.2.1, x3.2.2.2.2.2.2)
def frame_Fine_L3 (p6 : Int) (p5 : List Int) (k5 : (Bool × Int × Bool × List Int × List Int × Int × List Int) → Option Bool) (x3 : Bool × Int × Bool × List Int × List Int × Int × List Int) (k6 : Int → Option Bool) (x6 : Int) : Option Bool :=
  bif decide (x6 < p6) then
    chk (0 ≤ x6 ∧ x6 < (p5.length : Int)) <|
    Option.bind (frame_place (p5.getD x6.toNat 0)) fun r4 =>
    bif !r4 then
      k5 (!(decide (x6 ≥ 0)), x3.2.1, x3.2.2.1, x3.2.2.2.1, x3.2.2.2.2.1, x3.2.2.2.2.2.1, x3.2.2.2.2.2.2)
    else
      k6 (IntKind.i64.wrap (x6 + 1))
  else
    frame_Fine_J3 k5 x3
def frame_Fine_C3 (x3 : Bool × Int × Bool × List Int × List Int × Int × List Int) (k5 : (Bool × Int × Bool × List Int × List Int × Int × List Int) → Option Bool) : Option Bool :=
  loop (frame_Fine_L3 (((x3.2.2.2.2.2.2.take x3.2.2.2.2.2.1.toNat).drop (0 : Int).toNat).length : Int) ((x3.2.2.2.2.2.2.take x3.2.2.2.2.2.1.toNat).drop (0 : Int).toNat) k5 x3) 0
def frame_Fine_J4 (k7 : Bool → Option Bool) : Option Bool :=
  k7 true
def frame_Fine_L4 (p8 : Int) (p7 : List Int) (k7 : Bool → Option Bool) (k8 : Int → Option Bool) (x8 : Int) : Option Bool :=
  bif decide (x8 < p8) then
    chk (0 ≤ x8 ∧ x8 < (p7.length : Int)) <|
    Option.bind (frame_Fine_1 (p7.getD x8.toNat 0)) fun r5 =>
    bif !r5 then
      k7 (!(decide (x8 ≥ 0)))
    else
      k8 (IntKind.i64.wrap (x8 + 1))
  else
    frame_Fine_J4 k7
def frame_Fine_C4 (x5 : Bool × Int × Bool × List Int × List Int × Int × List Int) (k7 : Bool → Option Bool) : Option Bool :=
  loop (frame_Fine_L4 (((x5.2.2.2.2.2.2.take (8 : Int).toNat).drop x5.2.2.2.2.2.1.toNat).length : Int) ((x5.2.2.2.2.2.2.take (8 : Int).toNat).drop x5.2.2.2.2.2.1.toNat) k7) 0
def frame_Fine_R4 (x7 : Bool) : Option Bool :=
  some x7
def frame_Fine_R3 (x5 : Bool × Int × Bool × List Int × List Int × Int × List Int) : Option Bool :=
  bif x5.1 then
    chk (0 ≤ x5.2.2.2.2.2.1 ∧ x5.2.2.2.2.2.1 ≤ (8 : Int) ∧ (8 : Int) ≤ (8 : Int)) <|
    cutv 4 (frame_Fine_C4 x5) frame_Fine_R4
  else
    some false
def frame_Fine_R2 (x3 : Bool × Int × Bool × List Int × List Int × Int × List Int) : Option Bool :=
  bif !x3.1 then
    some false
  else
    chk (0 ≤ (0 : Int) ∧ (0 : Int) ≤ x3.2.2.2.2.2.1 ∧ x3.2.2.2.2.2.1 ≤ (8 : Int)) <|
    cutv 3 (frame_Fine_C3 x3) frame_Fine_R3
def frame_Fine_R1 (x1 : Bool × Int × Bool × List Int × List Int × Int × List Int) : Option Bool :=
  bif !x1.1 then
    some false
  else
    chk (0 ≤ (0 : Int) ∧ (0 : Int) ≤ (16 : Int) ∧ (16 : Int) ≤ (16 : Int)) <|
    cutv 2 (frame_Fine_C2 x1) frame_Fine_R2
def frame_Fine (a0 : Int × Bool × (List Int) × (List Int) × Int × (List Int) × Unit) : Option Bool :=
  Option.bind (frame_place a0.1) fun r1 =>
  bif !r1 then
    some false
  else
    bif decide (a0.2.2.2.2.1 < 0) then
      some false
    else
      bif decide (a0.2.2.2.2.1 > 8) then
        some false
      else
        chk (0 ≤ (0 : Int) ∧ (0 : Int) ≤ (8 : Int) ∧ (8 : Int) ≤ (8 : Int)) <|
        cutv 1 (frame_Fine_C1 a0) frame_Fine_R1
def frame_New (a0 : Int) : Option ((Int × Bool × (List Int) × (List Int) × Int × (List Int) × Unit) × Int × Unit) :=
  Option.bind (word_Fine a0) fun r1 =>
  bif !r1 then
    some ((0, false, (List.replicate 8 0), (List.replicate 16 0), 0, (List.replicate 8 0), ()), 8, ())
  else
    some ((0, false, ((List.replicate 8 0).set 0 a0), (List.replicate 16 0), 0, (List.replicate 8 0), ()), 0, ())
end Go.Proofs.YtejedlpnejjnbaaSV
