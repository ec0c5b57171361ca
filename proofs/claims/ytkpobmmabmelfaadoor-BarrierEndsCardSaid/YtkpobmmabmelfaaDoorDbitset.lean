import Derived.Test.YtkpobmmabmelfaaDoorVcG1
import Derived.Test.YtkpobmmabmelfaaDoorDbits
namespace Go.Proofs.YtkpobmmabmelfaaDoorV
set_option linter.unusedVariables false
def bitset_Less_1 (a0 : Int) (a1 : Int) : Option Int :=
  some (bitsOp .andNot .u64 a0 a1)
def bitset_Less_J1 (k1 : (List Int × List Int) → Option (List Int)) (p1 : List Int) (p2 : List Int) (p3 : List Int) (p4 : List Int) (p5 : List Int) : Option (List Int) :=
  k1 (p4, p3)
def bitset_Less_C1 (x2 : Int × List Int × List Int × List Int × List Int × List Int × List Int) (k3 : (Int × List Int × List Int × List Int × List Int × List Int × List Int) → Option (List Int)) : Option (List Int) :=
  chk (0 ≤ x2.1 ∧ x2.1 < (4 : Int)) <|
  chk (0 ≤ x2.1 ∧ x2.1 < (4 : Int)) <|
  Option.bind (bitset_Less_1 (x2.2.2.2.2.1.getD x2.1.toNat 0) (x2.2.2.2.2.2.1.getD x2.1.toNat 0)) fun r1 =>
  chk (0 ≤ x2.1 ∧ x2.1 < (4 : Int)) <|
  k3 (x2.1, x2.2.1, x2.2.2.1, x2.2.2.2.1, x2.2.2.2.2.1.set x2.1.toNat r1, x2.2.2.2.2.2.1, x2.2.2.2.2.2.2)
def bitset_Less_R1 (k2 : (Int × List Int × List Int × List Int × List Int × List Int × List Int) → Option (List Int)) (x3 : Int × List Int × List Int × List Int × List Int × List Int × List Int) : Option (List Int) :=
  k2 (IntKind.i64.wrap (x3.1 + 1), x3.2.1, x3.2.2.1, x3.2.2.2.1, x3.2.2.2.2.1, x3.2.2.2.2.2.1, x3.2.2.2.2.2.2)
def bitset_Less_L1 (k1 : (List Int × List Int) → Option (List Int)) (k2 : (Int × List Int × List Int × List Int × List Int × List Int × List Int) → Option (List Int)) (x2 : Int × List Int × List Int × List Int × List Int × List Int × List Int) : Option (List Int) :=
  bif decide (x2.1 < 4) then
    cutv 1 (bitset_Less_C1 x2) (bitset_Less_R1 k2)
  else
    bitset_Less_J1 k1 x2.2.1 x2.2.2.1 x2.2.2.2.1 x2.2.2.2.2.1 x2.2.2.2.2.2.2
def bitset_Less_C2 (a0 : List Int) (a1 : List Int) (k1 : (List Int × List Int) → Option (List Int)) : Option (List Int) :=
  loop (bitset_Less_L1 k1) (0, a0, a1, (List.replicate 4 0), a0, a1, (List.replicate 4 0))
def bitset_Less_R2 (x1 : List Int × List Int) : Option (List Int) :=
  some x1.1
def bitset_Less (a0 : List Int) (a1 : List Int) : Option (List Int) :=
  cutv 2 (bitset_Less_C2 a0 a1) bitset_Less_R2
def bitset_Sub (a0 : List Int) (a1 : List Int) : Option Bool :=
  Option.bind (bitset_Less a0 a1) fun r1 =>
  letv (decide ((r1 : List Int) = (List.replicate 4 0))) fun v1 =>
  some v1
def bitset_Next_J1 : Option (Int × Bool × Unit) :=
  some (0, false, ())
def bitset_Next_L1 (p1 : Int) (a0 : List Int) (k1 : Int → Option (Int × Bool × Unit)) (x1 : Int) : Option (Int × Bool × Unit) :=
  bif decide (x1 < 4) then
    chk (0 ≤ x1 ∧ x1 < (4 : Int)) <|
    chk ((64 : Int) ≠ 0) <|
    bif decide (x1 = (IntKind.i64.wrap (Int.tdiv p1 64))) then
      chk ((64 : Int) ≠ 0) <|
      chk (0 ≤ (Int.tmod p1 64)) <|
      chk ((64 : Int) ≠ 0) <|
      chk (0 ≤ (Int.tmod p1 64)) <|
      letv (IntKind.u64.wrap ((Int.fdiv (a0.getD x1.toNat 0) (2 ^ min (Int.tmod p1 64).toNat 64)) * 2 ^ min (Int.tmod p1 64).toNat 64)) fun v2 =>
      bif !decide (v2 = 0) then
        Option.bind (math_bits_TrailingZeros64 v2) fun r1 =>
        letv (IntKind.i64.wrap ((IntKind.i64.wrap (x1 * 64)) + r1)) fun v3 =>
        some (v3, true, ())
      else
        k1 (IntKind.i64.wrap (x1 + 1))
    else
      bif !decide ((a0.getD x1.toNat 0) = 0) then
        Option.bind (math_bits_TrailingZeros64 (a0.getD x1.toNat 0)) fun r2 =>
        letv (IntKind.i64.wrap ((IntKind.i64.wrap (x1 * 64)) + r2)) fun v4 =>
        some (v4, true, ())
      else
        k1 (IntKind.i64.wrap (x1 + 1))
  else
    bitset_Next_J1
def bitset_Next (a0 : List Int) (a1 : Int) : Option (Int × Bool × Unit) :=
  chk ((64 : Int) ≠ 0) <|
  letv (IntKind.i64.wrap (Int.tdiv (max a1 (0 : Int)) 64)) fun v1 =>
  loop (bitset_Next_L1 (max a1 (0 : Int)) a0) v1
def bitset_List_C1 (a0 : List Int) (k1 : List Int → Option (List Int)) : Option (List Int) :=
  k1 a0
def bitset_List_J1 (p1 : List Int) : Option (List Int) :=
  some p1
def bitset_List_J2 (p2 : List Int) : Option (List Int) :=
  bitset_List_J1 p2
def bitset_List_L1 (x1 : List Int) (k2 : (Int × Bool × List Int) → Option (List Int)) (x2 : Int × Bool × List Int) : Option (List Int) :=
  bif x2.2.1 then
    chk (x2.2.2.length + ([x2.1] : List Int).length ≤ 4294967296) <|
    Option.bind (bitset_Next x1 (IntKind.i64.wrap (x2.1 + 1))) fun r2 =>
    k2 (r2.1, r2.2.1, x2.2.2 ++ [x2.1])
  else
    bitset_List_J2 x2.2.2
def bitset_List_R1 (x1 : List Int) : Option (List Int) :=
  Option.bind (bitset_Next x1 0) fun r1 =>
  loop (bitset_List_L1 x1) (r1.1, r1.2.1, [])
def bitset_List (a0 : List Int) : Option (List Int) :=
  cutv 1 (bitset_List_C1 a0) bitset_List_R1
def bitset_fine (a0 : Int) : Option Bool :=
  bif decide (a0 ≥ 0) then
    some (decide (a0 ≤ 255))
  else
    some false
def bitset_Has (a0 : List Int) (a1 : Int) : Option Bool :=
  Option.bind (bitset_fine a1) fun r1 =>
  bif r1 then
    chk ((64 : Int) ≠ 0) <|
    chk (0 ≤ (IntKind.i64.wrap (Int.tdiv a1 64)) ∧ (IntKind.i64.wrap (Int.tdiv a1 64)) < (4 : Int)) <|
    chk ((64 : Int) ≠ 0) <|
    chk (0 ≤ (Int.tmod a1 64)) <|
    letv (decide ((bitsOp .and .u64 (Int.fdiv (a0.getD (IntKind.i64.wrap (Int.tdiv a1 64)).toNat 0) (2 ^ min (Int.tmod a1 64).toNat 64)) 1) = 1)) fun v1 =>
    some v1
  else
    some false
def bitset_Add (a0 : List Int) (a1 : Int) : Option (List Int) :=
  Option.bind (bitset_fine a1) fun r1 =>
  bif r1 then
    chk ((64 : Int) ≠ 0) <|
    chk (0 ≤ (IntKind.i64.wrap (Int.tdiv a1 64)) ∧ (IntKind.i64.wrap (Int.tdiv a1 64)) < (4 : Int)) <|
    chk ((64 : Int) ≠ 0) <|
    chk (0 ≤ (Int.tmod a1 64)) <|
    chk (0 ≤ (IntKind.i64.wrap (Int.tdiv a1 64)) ∧ (IntKind.i64.wrap (Int.tdiv a1 64)) < (4 : Int)) <|
    some (a0.set (IntKind.i64.wrap (Int.tdiv a1 64)).toNat (bitsOp .or .u64 (a0.getD (IntKind.i64.wrap (Int.tdiv a1 64)).toNat 0) (IntKind.u64.wrap (1 * 2 ^ min (Int.tmod a1 64).toNat 64))))
  else
    some a0
def bitset_Drop (a0 : List Int) (a1 : Int) : Option (List Int) :=
  Option.bind (bitset_fine a1) fun r1 =>
  bif r1 then
    chk ((64 : Int) ≠ 0) <|
    chk (0 ≤ (IntKind.i64.wrap (Int.tdiv a1 64)) ∧ (IntKind.i64.wrap (Int.tdiv a1 64)) < (4 : Int)) <|
    chk ((64 : Int) ≠ 0) <|
    chk (0 ≤ (Int.tmod a1 64)) <|
    chk (0 ≤ (IntKind.i64.wrap (Int.tdiv a1 64)) ∧ (IntKind.i64.wrap (Int.tdiv a1 64)) < (4 : Int)) <|
    some (a0.set (IntKind.i64.wrap (Int.tdiv a1 64)).toNat (bitsOp .andNot .u64 (a0.getD (IntKind.i64.wrap (Int.tdiv a1 64)).toNat 0) (IntKind.u64.wrap (1 * 2 ^ min (Int.tmod a1 64).toNat 64))))
  else
    some a0
def bitset_Len_J1 (p1 : Int) : Option Int :=
  some p1
def bitset_Len_L1 (a0 : List Int) (k1 : (Int × Int) → Option Int) (x1 : Int × Int) : Option Int :=
  bif decide (x1.2 < 4) then
    chk (0 ≤ x1.2 ∧ x1.2 < (4 : Int)) <|
    Option.bind (math_bits_OnesCount64 (a0.getD x1.2.toNat 0)) fun r1 =>
    k1 (IntKind.i64.wrap (x1.1 + r1), IntKind.i64.wrap (x1.2 + 1))
  else
    bitset_Len_J1 x1.1
def bitset_Len (a0 : List Int) : Option Int :=
  loop (bitset_Len_L1 a0) (0, 0)
end Go.Proofs.YtkpobmmabmelfaaDoorV
