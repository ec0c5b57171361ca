/- What the functions compute. -/
import Derived.Test.YtkpobmmabmelfaaDoorVcG1
namespace Go.Proofs.YtkpobmmabmelfaaDoorV
set_option linter.unusedVariables false
def R02_Same_J1 : Option Bool :=
  some true
def R02_Same_L1 (a0 : List Int) (a1 : List Int) (k1 : Int → Option Bool) (x1 : Int) : Option Bool :=
  bif decide (x1 < (a0.length : Int)) then
    chk (0 ≤ x1 ∧ x1 < (a0.length : Int)) <|
    chk (0 ≤ x1 ∧ x1 < (a1.length : Int)) <|
    bif !decide ((a0.getD x1.toNat 0) = (a1.getD x1.toNat 0)) then
      some false
    else
      k1 (IntKind.i64.wrap (x1 + 1))
  else
    R02_Same_J1
def R02_Same (a0 : List Int) (a1 : List Int) : Option Bool :=
  bif !decide ((a0.length : Int) = (a1.length : Int)) then
    some false
  else
    loop (R02_Same_L1 a0 a1) 0
end Go.Proofs.YtkpobmmabmelfaaDoorV
namespace Go.Proofs.YtkpobmmabmelfaaDoorV
set_option linter.unusedVariables false
def R04_Has_J1 : Option Bool :=
  some false
def R04_Has_L1 (a0 : List Int) (a1 : Int) (k1 : Int → Option Bool) (x1 : Int) : Option Bool :=
  bif decide (x1 < (a0.length : Int)) then
    chk (0 ≤ x1 ∧ x1 < (a0.length : Int)) <|
    bif decide ((a0.getD x1.toNat 0) = a1) then
      some true
    else
      k1 (IntKind.i64.wrap (x1 + 1))
  else
    R04_Has_J1
def R04_Has (a0 : List Int) (a1 : Int) : Option Bool :=
  loop (R04_Has_L1 a0 a1) 0
def R04_Of_J1 (p1 : List Int) : Option (List Int) :=
  some p1
def R04_Of_L1 (a0 : List Int) (k1 : (Int × List Int) → Option (List Int)) (x1 : Int × List Int) : Option (List Int) :=
  bif decide (x1.1 ≤ 255) then
    Option.bind (R04_Has a0 x1.1) fun r1 =>
    bif r1 then
      chk (x1.2.length + ([x1.1] : List Int).length ≤ 4294967296) <|
      k1 (IntKind.i64.wrap (x1.1 + 1), x1.2 ++ [x1.1])
    else
      k1 (IntKind.i64.wrap (x1.1 + 1), x1.2)
  else
    R04_Of_J1 x1.2
def R04_Of (a0 : List Int) : Option (List Int) :=
  loop (R04_Of_L1 a0) (0, [])
def R04_fine (a0 : Int) : Option Bool :=
  bif decide (a0 ≥ 0) then
    some (decide (a0 ≤ 255))
  else
    some false
def R04_Words_J1 (p1 : List Int) (p2 : List Int) : Option (List Int) :=
  some p2
def R04_Words_L1 (a0 : List Int) (p3 : List Int) (k1 : (Int × List Int) → Option (List Int)) (x1 : Int × List Int) : Option (List Int) :=
  bif decide (x1.1 < (a0.length : Int)) then
    chk (0 ≤ x1.1 ∧ x1.1 < (a0.length : Int)) <|
    Option.bind (R04_fine (a0.getD x1.1.toNat 0)) fun r1 =>
    bif r1 then
      chk (0 ≤ x1.1 ∧ x1.1 < (a0.length : Int)) <|
      chk ((64 : Int) ≠ 0) <|
      chk (0 ≤ (IntKind.i64.wrap (Int.tdiv (a0.getD x1.1.toNat 0) 64)) ∧ (IntKind.i64.wrap (Int.tdiv (a0.getD x1.1.toNat 0) 64)) < (4 : Int)) <|
      chk (0 ≤ x1.1 ∧ x1.1 < (a0.length : Int)) <|
      chk ((64 : Int) ≠ 0) <|
      chk (0 ≤ (IntKind.u64.wrap (Int.tmod (a0.getD x1.1.toNat 0) 64))) <|
      chk (0 ≤ (IntKind.i64.wrap (Int.tdiv (a0.getD x1.1.toNat 0) 64)) ∧ (IntKind.i64.wrap (Int.tdiv (a0.getD x1.1.toNat 0) 64)) < (4 : Int)) <|
      k1 (IntKind.i64.wrap (x1.1 + 1), x1.2.set (IntKind.i64.wrap (Int.tdiv (a0.getD x1.1.toNat 0) 64)).toNat (bitsOp .or .u64 (x1.2.getD (IntKind.i64.wrap (Int.tdiv (a0.getD x1.1.toNat 0) 64)).toNat 0) (IntKind.u64.wrap (1 * 2 ^ min (IntKind.u64.wrap (Int.tmod (a0.getD x1.1.toNat 0) 64)).toNat 64))))
    else
      k1 (IntKind.i64.wrap (x1.1 + 1), x1.2)
  else
    R04_Words_J1 p3 x1.2
def R04_Words (a0 : List Int) : Option (List Int) :=
  loop (R04_Words_L1 a0 (List.replicate 4 0)) (0, (List.replicate 4 0))
def R04_Less_J1 (p1 : List Int) : Option (List Int) :=
  some p1
def R04_Less_L1 (a0 : List Int) (a1 : List Int) (k1 : (Int × List Int) → Option (List Int)) (x1 : Int × List Int) : Option (List Int) :=
  bif decide (x1.1 < (a0.length : Int)) then
    chk (0 ≤ x1.1 ∧ x1.1 < (a0.length : Int)) <|
    Option.bind (R04_Has a1 (a0.getD x1.1.toNat 0)) fun r1 =>
    bif !r1 then
      chk (0 ≤ x1.1 ∧ x1.1 < (a0.length : Int)) <|
      chk (x1.2.length + ([a0.getD x1.1.toNat 0] : List Int).length ≤ 4294967296) <|
      k1 (IntKind.i64.wrap (x1.1 + 1), x1.2 ++ [a0.getD x1.1.toNat 0])
    else
      k1 (IntKind.i64.wrap (x1.1 + 1), x1.2)
  else
    R04_Less_J1 x1.2
def R04_Less (a0 : List Int) (a1 : List Int) : Option (List Int) :=
  loop (R04_Less_L1 a0 a1) (0, [])
def R04_Add (a0 : List Int) (a1 : Int) : Option (List Int) :=
  chk (a0.length ≤ 4294967296) <|
  chk (a0.length + ([a1] : List Int).length ≤ 4294967296) <|
  Option.bind (R04_Of (a0 ++ [a1])) fun r1 =>
  some r1
def R04_Drop_J1 (p1 : List Int) : Option (List Int) :=
  some p1
def R04_Drop_L1 (a0 : List Int) (a1 : Int) (k1 : (Int × List Int) → Option (List Int)) (x1 : Int × List Int) : Option (List Int) :=
  bif decide (x1.1 < (a0.length : Int)) then
    chk (0 ≤ x1.1 ∧ x1.1 < (a0.length : Int)) <|
    bif !decide ((a0.getD x1.1.toNat 0) = a1) then
      chk (0 ≤ x1.1 ∧ x1.1 < (a0.length : Int)) <|
      chk (x1.2.length + ([a0.getD x1.1.toNat 0] : List Int).length ≤ 4294967296) <|
      k1 (IntKind.i64.wrap (x1.1 + 1), x1.2 ++ [a0.getD x1.1.toNat 0])
    else
      k1 (IntKind.i64.wrap (x1.1 + 1), x1.2)
  else
    R04_Drop_J1 x1.2
def R04_Drop (a0 : List Int) (a1 : Int) : Option (List Int) :=
  loop (R04_Drop_L1 a0 a1) (0, [])
end Go.Proofs.YtkpobmmabmelfaaDoorV
namespace Go.Proofs.YtkpobmmabmelfaaDoorV
set_option linter.unusedVariables false
def math_bits_TrailingZeros64 (a0 : Int) : Option Int :=
  bif decide (a0 = 0) then
    some 64
  else
    chk (0 ≤ (58 : Int)) <|
    chk (0 ≤ (Int.fdiv (IntKind.u64.wrap ((bitsOp .and .u64 a0 (IntKind.u64.wrap (0 - a0))) * 285870213051353865)) (2 ^ min (58 : Int).toNat 64)) ∧ (Int.fdiv (IntKind.u64.wrap ((bitsOp .and .u64 a0 (IntKind.u64.wrap (0 - a0))) * 285870213051353865)) (2 ^ min (58 : Int).toNat 64)) < (64 : Int)) <|
    letv (IntKind.i64.wrap (gl_math_bits_deBruijn64tab.getD (Int.fdiv (IntKind.u64.wrap ((bitsOp .and .u64 a0 (IntKind.u64.wrap (0 - a0))) * 285870213051353865)) (2 ^ min (58 : Int).toNat 64)).toNat 0)) fun v1 =>
    some v1
def math_bits_OnesCount64 (a0 : Int) : Option Int :=
  chk (0 ≤ (1 : Int)) <|
  letv (IntKind.u64.wrap ((bitsOp .and .u64 (Int.fdiv a0 (2 ^ min (1 : Int).toNat 64)) 6148914691236517205) + (bitsOp .and .u64 a0 6148914691236517205))) fun v1 =>
  chk (0 ≤ (2 : Int)) <|
  letv (IntKind.u64.wrap ((bitsOp .and .u64 (Int.fdiv v1 (2 ^ min (2 : Int).toNat 64)) 3689348814741910323) + (bitsOp .and .u64 v1 3689348814741910323))) fun v2 =>
  chk (0 ≤ (4 : Int)) <|
  letv (bitsOp .and .u64 (IntKind.u64.wrap ((Int.fdiv v2 (2 ^ min (4 : Int).toNat 64)) + v2)) 1085102592571150095) fun v3 =>
  chk (0 ≤ (8 : Int)) <|
  letv (IntKind.u64.wrap (v3 + (Int.fdiv v3 (2 ^ min (8 : Int).toNat 64)))) fun v4 =>
  chk (0 ≤ (16 : Int)) <|
  letv (IntKind.u64.wrap (v4 + (Int.fdiv v4 (2 ^ min (16 : Int).toNat 64)))) fun v5 =>
  chk (0 ≤ (32 : Int)) <|
  letv (IntKind.u64.wrap (v5 + (Int.fdiv v5 (2 ^ min (32 : Int).toNat 64)))) fun v6 =>
  letv (bitsOp .and .i64 (IntKind.i64.wrap (v6)) 127) fun v7 =>
  some v7
end Go.Proofs.YtkpobmmabmelfaaDoorV
namespace Go.Proofs.YtkpobmmabmelfaaDoorV
set_option linter.unusedVariables false
def bitset_Less_1 (a0 : Int) (a1 : Int) : Option Int :=
  some (bitsOp .andNot .u64 a0 a1)
def bitset_Less_J1 (k1 : (List Int × List Int) → Option (List Int)) (p1 : List Int) (p2 : List Int) (p3 : List Int) (p4 : List Int) (p5 : List Int) : Option (List Int) :=
  k1 (p4, p3)
def bitset_Less_C1 (x2 : Int × List Int × List Int × List Int × List Int × List Int × List Int) (k3 : (Int × List Int × List Int × List Int × List Int × List Int × List Int) → Option (List Int)) : Option (List Int) :=
  chk (0 ≤ x2.1 ∧ x2.1 < (4 : Int)) <|
  chk (0 ≤ x2.1 ∧ x2.1 < (4 : Int)) <|
  Option.bind (bitset_Less_1 (x2.2.2.2.2.1.getD x2.1.toNat 0) (x2.2.2.2.2.2.1.getD x2.1.toNat 0)) fun r1 =>
  chk (0 ≤ x2.1 ∧ x2.1 < (4 : Int)) <|
  k3 (x2.1, x2.2.1, x2.2.2.1, x2.2.2.2.1, x2.2.2.2.2.1.set x2.1.toNat r1, x2.2.2.2.2.2.1, x2.2.2.2.2.2.2)
def bitset_Less_R1 (k2 : (Int × List Int × List Int × List Int × List Int × List Int × List Int) → Option (List Int)) (x3 : Int × List Int × List Int × List Int × List Int × List Int × List Int) : Option (List Int) :=
  k2 (IntKind.i64.wrap (x3.1 + 1), x3.2.1, x3.2.2.1, x3.2.2.2.1, x3.2.2.2.2.1, x3.2.2.2.2.2.1, x3.2.2.2.2.2.2)
def bitset_Less_L1 (k1 : (List Int × List Int) → Option (List Int)) (k2 : (Int × List Int × List Int × List Int × List Int × List Int × List Int) → Option (List Int)) (x2 : Int × List Int × List Int × List Int × List Int × List Int × List Int) : Option (List Int) :=
  bif decide (x2.1 < 4) then
    cutv 1 (bitset_Less_C1 x2) (bitset_Less_R1 k2)
  else
    bitset_Less_J1 k1 x2.2.1 x2.2.2.1 x2.2.2.2.1 x2.2.2.2.2.1 x2.2.2.2.2.2.2
def bitset_Less_C2 (a0 : List Int) (a1 : List Int) (k1 : (List Int × List Int) → Option (List Int)) : Option (List Int) :=
  loop (bitset_Less_L1 k1) (0, a0, a1, (List.replicate 4 0), a0, a1, (List.replicate 4 0))
def bitset_Less_R2 (x1 : List Int × List Int) : Option (List Int) :=
  some x1.1
def bitset_Less (a0 : List Int) (a1 : List Int) : Option (List Int) :=
  cutv 2 (bitset_Less_C2 a0 a1) bitset_Less_R2
def bitset_Sub (a0 : List Int) (a1 : List Int) : Option Bool :=
  Option.bind (bitset_Less a0 a1) fun r1 =>
  letv (decide ((r1 : List Int) = (List.replicate 4 0))) fun v1 =>
  some v1
def bitset_Next_J1 : Option (Int × Bool × Unit) :=
  some (0, false, ())
def bitset_Next_L1 (p1 : Int) (a0 : List Int) (k1 : Int → Option (Int × Bool × Unit)) (x1 : Int) : Option (Int × Bool × Unit) :=
  bif decide (x1 < 4) then
    chk (0 ≤ x1 ∧ x1 < (4 : Int)) <|
    chk ((64 : Int) ≠ 0) <|
    bif decide (x1 = (IntKind.i64.wrap (Int.tdiv p1 64))) then
      chk ((64 : Int) ≠ 0) <|
      chk (0 ≤ (Int.tmod p1 64)) <|
      chk ((64 : Int) ≠ 0) <|
      chk (0 ≤ (Int.tmod p1 64)) <|
      letv (IntKind.u64.wrap ((Int.fdiv (a0.getD x1.toNat 0) (2 ^ min (Int.tmod p1 64).toNat 64)) * 2 ^ min (Int.tmod p1 64).toNat 64)) fun v2 =>
      bif !decide (v2 = 0) then
        Option.bind (math_bits_TrailingZeros64 v2) fun r1 =>
        letv (IntKind.i64.wrap ((IntKind.i64.wrap (x1 * 64)) + r1)) fun v3 =>
        some (v3, true, ())
      else
        k1 (IntKind.i64.wrap (x1 + 1))
    else
      bif !decide ((a0.getD x1.toNat 0) = 0) then
        Option.bind (math_bits_TrailingZeros64 (a0.getD x1.toNat 0)) fun r2 =>
        letv (IntKind.i64.wrap ((IntKind.i64.wrap (x1 * 64)) + r2)) fun v4 =>
        some (v4, true, ())
      else
        k1 (IntKind.i64.wrap (x1 + 1))
  else
    bitset_Next_J1
def bitset_Next (a0 : List Int) (a1 : Int) : Option (Int × Bool × Unit) :=
  chk ((64 : Int) ≠ 0) <|
  letv (IntKind.i64.wrap (Int.tdiv (max a1 (0 : Int)) 64)) fun v1 =>
  loop (bitset_Next_L1 (max a1 (0 : Int)) a0) v1
def bitset_List_C1 (a0 : List Int) (k1 : List Int → Option (List Int)) : Option (List Int) :=
  k1 a0
def bitset_List_J1 (p1 : List Int) : Option (List Int) :=
  some p1
def bitset_List_J2 (p2 : List Int) : Option (List Int) :=
  bitset_List_J1 p2
def bitset_List_L1 (x1 : List Int) (k2 : (Int × Bool × List Int) → Option (List Int)) (x2 : Int × Bool × List Int) : Option (List Int) :=
  bif x2.2.1 then
    chk (x2.2.2.length + ([x2.1] : List Int).length ≤ 4294967296) <|
    Option.bind (bitset_Next x1 (IntKind.i64.wrap (x2.1 + 1))) fun r2 =>
    k2 (r2.1, r2.2.1, x2.2.2 ++ [x2.1])
  else
    bitset_List_J2 x2.2.2
def bitset_List_R1 (x1 : List Int) : Option (List Int) :=
  Option.bind (bitset_Next x1 0) fun r1 =>
  loop (bitset_List_L1 x1) (r1.1, r1.2.1, [])
def bitset_List (a0 : List Int) : Option (List Int) :=
  cutv 1 (bitset_List_C1 a0) bitset_List_R1
def bitset_fine (a0 : Int) : Option Bool :=
  bif decide (a0 ≥ 0) then
    some (decide (a0 ≤ 255))
  else
    some false
def bitset_Has (a0 : List Int) (a1 : Int) : Option Bool :=
  Option.bind (bitset_fine a1) fun r1 =>
  bif r1 then
    chk ((64 : Int) ≠ 0) <|
    chk (0 ≤ (IntKind.i64.wrap (Int.tdiv a1 64)) ∧ (IntKind.i64.wrap (Int.tdiv a1 64)) < (4 : Int)) <|
    chk ((64 : Int) ≠ 0) <|
    chk (0 ≤ (Int.tmod a1 64)) <|
    letv (decide ((bitsOp .and .u64 (Int.fdiv (a0.getD (IntKind.i64.wrap (Int.tdiv a1 64)).toNat 0) (2 ^ min (Int.tmod a1 64).toNat 64)) 1) = 1)) fun v1 =>
    some v1
  else
    some false
def bitset_Add (a0 : List Int) (a1 : Int) : Option (List Int) :=
  Option.bind (bitset_fine a1) fun r1 =>
  bif r1 then
    chk ((64 : Int) ≠ 0) <|
    chk (0 ≤ (IntKind.i64.wrap (Int.tdiv a1 64)) ∧ (IntKind.i64.wrap (Int.tdiv a1 64)) < (4 : Int)) <|
    chk ((64 : Int) ≠ 0) <|
    chk (0 ≤ (Int.tmod a1 64)) <|
    chk (0 ≤ (IntKind.i64.wrap (Int.tdiv a1 64)) ∧ (IntKind.i64.wrap (Int.tdiv a1 64)) < (4 : Int)) <|
    some (a0.set (IntKind.i64.wrap (Int.tdiv a1 64)).toNat (bitsOp .or .u64 (a0.getD (IntKind.i64.wrap (Int.tdiv a1 64)).toNat 0) (IntKind.u64.wrap (1 * 2 ^ min (Int.tmod a1 64).toNat 64))))
  else
    some a0
def bitset_Drop (a0 : List Int) (a1 : Int) : Option (List Int) :=
  Option.bind (bitset_fine a1) fun r1 =>
  bif r1 then
    chk ((64 : Int) ≠ 0) <|
    chk (0 ≤ (IntKind.i64.wrap (Int.tdiv a1 64)) ∧ (IntKind.i64.wrap (Int.tdiv a1 64)) < (4 : Int)) <|
    chk ((64 : Int) ≠ 0) <|
    chk (0 ≤ (Int.tmod a1 64)) <|
    chk (0 ≤ (IntKind.i64.wrap (Int.tdiv a1 64)) ∧ (IntKind.i64.wrap (Int.tdiv a1 64)) < (4 : Int)) <|
    some (a0.set (IntKind.i64.wrap (Int.tdiv a1 64)).toNat (bitsOp .andNot .u64 (a0.getD (IntKind.i64.wrap (Int.tdiv a1 64)).toNat 0) (IntKind.u64.wrap (1 * 2 ^ min (Int.tmod a1 64).toNat 64))))
  else
    some a0
def bitset_Len_J1 (p1 : Int) : Option Int :=
  some p1
def bitset_Len_L1 (a0 : List Int) (k1 : (Int × Int) → Option Int) (x1 : Int × Int) : Option Int :=
  bif decide (x1.2 < 4) then
    chk (0 ≤ x1.2 ∧ x1.2 < (4 : Int)) <|
    Option.bind (math_bits_OnesCount64 (a0.getD x1.2.toNat 0)) fun r1 =>
    k1 (IntKind.i64.wrap (x1.1 + r1), IntKind.i64.wrap (x1.2 + 1))
  else
    bitset_Len_J1 x1.1
def bitset_Len (a0 : List Int) : Option Int :=
  loop (bitset_Len_L1 a0) (0, 0)
end Go.Proofs.YtkpobmmabmelfaaDoorV
namespace Go.Proofs.YtkpobmmabmelfaaDoorV
set_option linter.unusedVariables false
def L21_Plain (a0 : (List Int) × (List Int) × Unit) : Option ((List Int) × (List Int) × Unit) :=
  Option.bind (R04_Of a0.1) fun r1 =>
  Option.bind (R04_Of a0.2.1) fun r2 =>
  some (r1, r2, ())
def L21_To (a0 : (List Int) × (List Int) × Unit) : Option ((List Int) × (List Int) × Unit) :=
  Option.bind (R04_Words a0.1) fun r1 =>
  Option.bind (R04_Words a0.2.1) fun r2 =>
  some (r1, r2, ())
def L21_Same (a0 : (List Int) × (List Int) × Unit) (a1 : (List Int) × (List Int) × Unit) : Option Bool :=
  Option.bind (R02_Same a0.1 a1.1) fun r1 =>
  bif r1 then
    Option.bind (R02_Same a0.2.1 a1.2.1) fun r2 =>
    some r2
  else
    some false
def L21_From (a0 : (List Int) × (List Int) × Unit) : Option ((List Int) × (List Int) × Unit) :=
  Option.bind (bitset_List a0.1) fun r1 =>
  Option.bind (bitset_List a0.2.1) fun r2 =>
  some (r1, r2, ())
end Go.Proofs.YtkpobmmabmelfaaDoorV
namespace Go.Proofs.YtkpobmmabmelfaaDoorV
set_option linter.unusedVariables false
def R20_Fine (a0 : Int) (a1 : Int) : Option Bool :=
  bif decide (a1 ≥ 1) then
    bif decide (a1 ≤ 65535) then
      bif decide (a0 ≥ 0) then
        some (decide (a0 ≤ a1))
      else
        some false
    else
      some false
  else
    some false
end Go.Proofs.YtkpobmmabmelfaaDoorV
namespace Go.Proofs.YtkpobmmabmelfaaDoorV
set_option linter.unusedVariables false
def R21_Fine_J1 (a0 : (List Int) × (List Int) × Unit) : Option Bool :=
  Option.bind (R04_Less a0.2.1 a0.1) fun r1 =>
  some (decide ((r1.length : Int) = 0))
def R21_Fine_L1 (a0 : (List Int) × (List Int) × Unit) (k1 : Int → Option Bool) (x1 : Int) : Option Bool :=
  bif decide (x1 < (a0.1.length : Int)) then
    chk (0 ≤ x1 ∧ x1 < (a0.1.length : Int)) <|
    bif decide ((a0.1.getD x1.toNat 0) < 0) then
      some false
    else
      chk (0 ≤ x1 ∧ x1 < (a0.1.length : Int)) <|
      bif decide ((a0.1.getD x1.toNat 0) > 15) then
        some false
      else
        k1 (IntKind.i64.wrap (x1 + 1))
  else
    R21_Fine_J1 a0
def R21_Fine (a0 : (List Int) × (List Int) × Unit) : Option Bool :=
  loop (R21_Fine_L1 a0) 0
def R21_Full (a0 : (List Int) × (List Int) × Unit) : Option Bool :=
  Option.bind (R21_Fine a0) fun r1 =>
  bif r1 then
    bif decide ((a0.1.length : Int) > 0) then
      letv (decide ((a0.2.1.length : Int) = (a0.1.length : Int))) fun v1 =>
      some v1
    else
      some false
  else
    some false
def R21_Fire (a0 : (List Int) × (List Int) × Unit) : Option (((List Int) × (List Int) × Unit) × (List Int) × Int × Unit) :=
  Option.bind (R21_Fine a0) fun r1 =>
  bif !r1 then
    some (a0, [], 1, ())
  else
    Option.bind (R21_Full a0) fun r2 =>
    bif !r2 then
      some (a0, [], 13, ())
    else
      some ((a0.1, [], ()), a0.2.1, 0, ())
def R21_asked (a0 : (List Int) × (List Int) × Unit) (a1 : Int) : Option Int :=
  Option.bind (R21_Fine a0) fun r1 =>
  bif !r1 then
    some 1
  else
    bif decide (a1 < 0) then
      some 8
    else
      bif decide (a1 > 15) then
        some 8
      else
        some 0
def R21_Enrol (a0 : (List Int) × (List Int) × Unit) (a1 : Int) : Option (((List Int) × (List Int) × Unit) × Int × Unit) :=
  Option.bind (R21_asked a0 a1) fun r1 =>
  bif !decide (r1 = 0) then
    some (a0, r1, ())
  else
    Option.bind (R04_Has a0.1 a1) fun r2 =>
    bif r2 then
      some (a0, 7, ())
    else
      Option.bind (R04_Add a0.1 a1) fun r3 =>
      some ((r3, a0.2.1, ()), 0, ())
def R21_Resign (a0 : (List Int) × (List Int) × Unit) (a1 : Int) : Option (((List Int) × (List Int) × Unit) × Int × Unit) :=
  Option.bind (R21_asked a0 a1) fun r1 =>
  bif !decide (r1 = 0) then
    some (a0, r1, ())
  else
    Option.bind (R04_Has a0.1 a1) fun r2 =>
    bif !r2 then
      some (a0, 6, ())
    else
      Option.bind (R04_Drop a0.1 a1) fun r3 =>
      Option.bind (R04_Drop a0.2.1 a1) fun r4 =>
      some ((r3, r4, ()), 0, ())
def R21_Offer (a0 : (List Int) × (List Int) × Unit) (a1 : Int) : Option (((List Int) × (List Int) × Unit) × Int × Unit) :=
  Option.bind (R21_asked a0 a1) fun r1 =>
  bif !decide (r1 = 0) then
    some (a0, r1, ())
  else
    Option.bind (R04_Has a0.1 a1) fun r2 =>
    bif !r2 then
      some (a0, 6, ())
    else
      Option.bind (R04_Has a0.2.1 a1) fun r3 =>
      bif r3 then
        some (a0, 7, ())
      else
        Option.bind (R04_Add a0.2.1 a1) fun r4 =>
        some ((a0.1, r4, ()), 0, ())
def R21_Withdraw (a0 : (List Int) × (List Int) × Unit) (a1 : Int) : Option (((List Int) × (List Int) × Unit) × Bool × Unit) :=
  Option.bind (R21_Fine a0) fun r1 =>
  bif !r1 then
    some (a0, false, ())
  else
    Option.bind (R04_Has a0.2.1 a1) fun r2 =>
    bif !r2 then
      some (a0, false, ())
    else
      Option.bind (R04_Drop a0.2.1 a1) fun r3 =>
      some ((a0.1, r3, ()), true, ())
end Go.Proofs.YtkpobmmabmelfaaDoorV
namespace Go.Proofs.YtkpobmmabmelfaaDoorV
set_option linter.unusedVariables false
def R22_Fine (a0 : (Bool × Int × Unit) × ((List Int) × (List Int) × Unit) × Int × Unit) : Option Bool :=
  Option.bind (R20_Fine a0.2.2.1 a0.1.2.1) fun r1 =>
  bif r1 then
    Option.bind (R21_Fine a0.2.1) fun r2 =>
    some r2
  else
    some false
def R22_Ready (a0 : (Bool × Int × Unit) × ((List Int) × (List Int) × Unit) × Int × Unit) : Option Bool :=
  Option.bind (R22_Fine a0) fun r1 =>
  bif r1 then
    Option.bind (R21_Full a0.2.1) fun r2 =>
    bif r2 then
      some (decide (a0.2.2.1 < a0.1.2.1))
    else
      some false
  else
    some false
def R22_Fire (a0 : (Bool × Int × Unit) × ((List Int) × (List Int) × Unit) × Int × Unit) : Option (((Bool × Int × Unit) × ((List Int) × (List Int) × Unit) × Int × Unit) × (List Int) × Int × Unit) :=
  Option.bind (R22_Fine a0) fun r1 =>
  bif !r1 then
    some (a0, [], 1, ())
  else
    Option.bind (R22_Ready a0) fun r2 =>
    bif !r2 then
      some (a0, [], 13, ())
    else
      Option.bind (R21_Fire a0.2.1) fun r3 =>
      some ((a0.1, r3.1, IntKind.i64.wrap (a0.2.2.1 + 1), ()), r3.2.1, 0, ())
def R22_Check (a0 : Bool × Int × Unit) : Option Int :=
  bif decide (a0.2.1 < 1) then
    some 8
  else
    bif decide (a0.2.1 > 65535) then
      some 8
    else
      some 0
def R22_New (a0 : Bool × Int × Unit) : Option (((Bool × Int × Unit) × ((List Int) × (List Int) × Unit) × Int × Unit) × Int × Unit) :=
  Option.bind (R22_Check a0) fun r1 =>
  bif !decide (r1 = 0) then
    some (((false, 0, ()), ([], [], ()), 0, ()), r1, ())
  else
    some ((a0, ([], [], ()), 0, ()), 0, ())
def R22_Enrol (a0 : (Bool × Int × Unit) × ((List Int) × (List Int) × Unit) × Int × Unit) (a1 : Int) : Option (((Bool × Int × Unit) × ((List Int) × (List Int) × Unit) × Int × Unit) × Int × Unit) :=
  Option.bind (R22_Fine a0) fun r1 =>
  bif !r1 then
    some (a0, 1, ())
  else
    Option.bind (R21_Enrol a0.2.1 a1) fun r2 =>
    some ((a0.1, r2.1, a0.2.2.1, ()), r2.2.1, ())
def R22_Resign (a0 : (Bool × Int × Unit) × ((List Int) × (List Int) × Unit) × Int × Unit) (a1 : Int) : Option (((Bool × Int × Unit) × ((List Int) × (List Int) × Unit) × Int × Unit) × Int × Unit) :=
  Option.bind (R22_Fine a0) fun r1 =>
  bif !r1 then
    some (a0, 1, ())
  else
    Option.bind (R21_Resign a0.2.1 a1) fun r2 =>
    some ((a0.1, r2.1, a0.2.2.1, ()), r2.2.1, ())
def R22_Offer (a0 : (Bool × Int × Unit) × ((List Int) × (List Int) × Unit) × Int × Unit) (a1 : Int) (a2 : Bool) : Option (((Bool × Int × Unit) × ((List Int) × (List Int) × Unit) × Int × Unit) × Int × Unit) :=
  Option.bind (R22_Fine a0) fun r1 =>
  bif !r1 then
    some (a0, 1, ())
  else
    bif a2 then
      bif !a0.1.1 then
        some (a0, 12, ())
      else
        bif decide (a0.2.2.1 = a0.1.2.1) then
          some (a0, 14, ())
        else
          Option.bind (R21_Offer a0.2.1 a1) fun r2 =>
          some ((a0.1, r2.1, a0.2.2.1, ()), r2.2.1, ())
    else
      bif decide (a0.2.2.1 = a0.1.2.1) then
        some (a0, 14, ())
      else
        Option.bind (R21_Offer a0.2.1 a1) fun r3 =>
        some ((a0.1, r3.1, a0.2.2.1, ()), r3.2.1, ())
def R22_Withdraw (a0 : (Bool × Int × Unit) × ((List Int) × (List Int) × Unit) × Int × Unit) (a1 : Int) : Option ((Bool × Int × Unit) × ((List Int) × (List Int) × Unit) × Int × Unit) :=
  Option.bind (R22_Fine a0) fun r1 =>
  bif !r1 then
    some a0
  else
    Option.bind (R21_Withdraw a0.2.1 a1) fun r2 =>
    some (a0.1, r2.1, a0.2.2.1, ())
end Go.Proofs.YtkpobmmabmelfaaDoorV
namespace Go.Proofs.YtkpobmmabmelfaaDoorV
set_option linter.unusedVariables false
def phase_Fine (a0 : Int) (a1 : Int) : Option Bool :=
  bif decide (a1 ≥ 1) then
    bif decide (a1 ≤ 65535) then
      bif decide (a0 ≥ 0) then
        some (decide (a0 ≤ a1))
      else
        some false
    else
      some false
  else
    some false
def phase_Left (a0 : Int) (a1 : Int) : Option Int :=
  Option.bind (phase_Fine a0 a1) fun r1 =>
  bif !r1 then
    some 0
  else
    some (IntKind.i64.wrap (a1 - a0))
def phase_Next (a0 : Int) (a1 : Int) : Option (Int × Int × Unit) :=
  Option.bind (phase_Fine a0 a1) fun r1 =>
  bif !r1 then
    some (0, 8, ())
  else
    bif decide (a0 = a1) then
      some (0, 14, ())
    else
      some (IntKind.i64.wrap (a0 + 1), 0, ())
end Go.Proofs.YtkpobmmabmelfaaDoorV
namespace Go.Proofs.YtkpobmmabmelfaaDoorV
set_option linter.unusedVariables false
def roll_Fine (a0 : (List Int) × (List Int) × Unit) : Option Bool :=
  Option.bind (bitset_Sub a0.1 gl_becket_roll_everybody) fun r1 =>
  bif r1 then
    Option.bind (bitset_Sub a0.2.1 a0.1) fun r2 =>
    some r2
  else
    some false
def roll_Full (a0 : (List Int) × (List Int) × Unit) : Option Bool :=
  Option.bind (roll_Fine a0) fun r1 =>
  bif r1 then
    bif decide ((a0.2.1 : List Int) = a0.1) then
      letv (!(decide ((a0.2.1 : List Int) = (List.replicate 4 0)))) fun v1 =>
      some v1
    else
      some false
  else
    some false
def roll_Fire (a0 : (List Int) × (List Int) × Unit) : Option (((List Int) × (List Int) × Unit) × (List Int) × Int × Unit) :=
  Option.bind (roll_Fine a0) fun r1 =>
  bif !r1 then
    some (a0, [], 1, ())
  else
    Option.bind (roll_Full a0) fun r2 =>
    bif !r2 then
      some (a0, [], 13, ())
    else
      Option.bind (bitset_List a0.2.1) fun r3 =>
      some ((a0.1, (List.replicate 4 0), ()), r3, 0, ())
def roll_asked (a0 : (List Int) × (List Int) × Unit) (a1 : Int) : Option Int :=
  Option.bind (roll_Fine a0) fun r1 =>
  bif !r1 then
    some 1
  else
    Option.bind (bitset_Has gl_becket_roll_everybody a1) fun r2 =>
    bif !r2 then
      some 8
    else
      some 0
def roll_Enrol (a0 : (List Int) × (List Int) × Unit) (a1 : Int) : Option (((List Int) × (List Int) × Unit) × Int × Unit) :=
  Option.bind (roll_asked a0 a1) fun r1 =>
  bif !decide (r1 = 0) then
    some (a0, r1, ())
  else
    Option.bind (bitset_Has a0.1 a1) fun r2 =>
    bif r2 then
      some (a0, 7, ())
    else
      Option.bind (bitset_Add a0.1 a1) fun r3 =>
      some ((r3, a0.2.1, ()), 0, ())
def roll_Offer (a0 : (List Int) × (List Int) × Unit) (a1 : Int) : Option (((List Int) × (List Int) × Unit) × Int × Unit) :=
  Option.bind (roll_asked a0 a1) fun r1 =>
  bif !decide (r1 = 0) then
    some (a0, r1, ())
  else
    Option.bind (bitset_Has a0.1 a1) fun r2 =>
    bif !r2 then
      some (a0, 6, ())
    else
      Option.bind (bitset_Has a0.2.1 a1) fun r3 =>
      bif r3 then
        some (a0, 7, ())
      else
        Option.bind (bitset_Add a0.2.1 a1) fun r4 =>
        some ((a0.1, r4, ()), 0, ())
def roll_Withdraw (a0 : (List Int) × (List Int) × Unit) (a1 : Int) : Option (((List Int) × (List Int) × Unit) × Bool × Unit) :=
  Option.bind (roll_Fine a0) fun r1 =>
  bif !r1 then
    some (a0, false, ())
  else
    Option.bind (bitset_Has a0.2.1 a1) fun r2 =>
    bif !r2 then
      some (a0, false, ())
    else
      Option.bind (bitset_Drop a0.2.1 a1) fun r3 =>
      some ((a0.1, r3, ()), true, ())
def roll_Resign (a0 : (List Int) × (List Int) × Unit) (a1 : Int) : Option (((List Int) × (List Int) × Unit) × Int × Unit) :=
  Option.bind (roll_asked a0 a1) fun r1 =>
  bif !decide (r1 = 0) then
    some (a0, r1, ())
  else
    Option.bind (bitset_Has a0.1 a1) fun r2 =>
    bif !r2 then
      some (a0, 6, ())
    else
      Option.bind (bitset_Drop a0.1 a1) fun r3 =>
      Option.bind (bitset_Drop a0.2.1 a1) fun r4 =>
      some ((r3, r4, ()), 0, ())
end Go.Proofs.YtkpobmmabmelfaaDoorV
namespace Go.Proofs.YtkpobmmabmelfaaDoorV
set_option linter.unusedVariables false
def barrier_Fine (a0 : (Bool × Int × Unit) × ((List Int) × (List Int) × Unit) × Int × Unit) : Option Bool :=
  Option.bind (phase_Fine a0.2.2.1 a0.1.2.1) fun r1 =>
  bif r1 then
    Option.bind (roll_Fine a0.2.1) fun r2 =>
    some r2
  else
    some false
def barrier_Ready (a0 : (Bool × Int × Unit) × ((List Int) × (List Int) × Unit) × Int × Unit) : Option Bool :=
  Option.bind (barrier_Fine a0) fun r1 =>
  bif r1 then
    Option.bind (roll_Full a0.2.1) fun r2 =>
    bif r2 then
      Option.bind (phase_Left a0.2.2.1 a0.1.2.1) fun r3 =>
      some (decide (r3 > 0))
    else
      some false
  else
    some false
def barrier_Fire (a0 : (Bool × Int × Unit) × ((List Int) × (List Int) × Unit) × Int × Unit) : Option (((Bool × Int × Unit) × ((List Int) × (List Int) × Unit) × Int × Unit) × (List Int) × Int × Unit) :=
  Option.bind (barrier_Fine a0) fun r1 =>
  bif !r1 then
    some (a0, [], 1, ())
  else
    Option.bind (barrier_Ready a0) fun r2 =>
    bif !r2 then
      some (a0, [], 13, ())
    else
      Option.bind (roll_Fire a0.2.1) fun r3 =>
      bif !decide (r3.2.2.1 = 0) then
        some (a0, [], r3.2.2.1, ())
      else
        Option.bind (phase_Next a0.2.2.1 a0.1.2.1) fun r4 =>
        some ((a0.1, r3.1, r4.1, ()), r3.2.1, r4.2.1, ())
def barrier_Check (a0 : Bool × Int × Unit) : Option Int :=
  Option.bind (phase_Fine 0 a0.2.1) fun r1 =>
  bif !r1 then
    some 8
  else
    some 0
def barrier_New (a0 : Bool × Int × Unit) : Option (((Bool × Int × Unit) × ((List Int) × (List Int) × Unit) × Int × Unit) × Int × Unit) :=
  Option.bind (barrier_Check a0) fun r1 =>
  bif !decide (r1 = 0) then
    some (((false, 0, ()), ((List.replicate 4 0), (List.replicate 4 0), ()), 0, ()), r1, ())
  else
    some ((a0, ((List.replicate 4 0), (List.replicate 4 0), ()), 0, ()), 0, ())
def barrier_Bar_with (a0 : (Bool × Int × Unit) × ((List Int) × (List Int) × Unit) × Int × Unit) (a1 : (List Int) × (List Int) × Unit) (a2 : Int) : Option (((Bool × Int × Unit) × ((List Int) × (List Int) × Unit) × Int × Unit) × Int × Unit) :=
  bif !decide (a2 = 0) then
    some (a0, a2, ())
  else
    bif ((a0.1.1 == a0.1.1) && ((decide (a0.1.2.1 = a0.1.2.1)) && true)) && (((decide ((a1.1 : List Int) = a0.2.1.1)) && ((decide ((a1.2.1 : List Int) = a0.2.1.2.1)) && true)) && ((decide (a0.2.2.1 = a0.2.2.1)) && true)) then
      some (a0, a2, ())
    else
      some ((a0.1, a1, a0.2.2.1, ()), 0, ())
def barrier_Enrol (a0 : (Bool × Int × Unit) × ((List Int) × (List Int) × Unit) × Int × Unit) (a1 : Int) : Option (((Bool × Int × Unit) × ((List Int) × (List Int) × Unit) × Int × Unit) × Int × Unit) :=
  Option.bind (barrier_Fine a0) fun r1 =>
  bif !r1 then
    some (a0, 1, ())
  else
    Option.bind (roll_Enrol a0.2.1 a1) fun r2 =>
    Option.bind (barrier_Bar_with a0 r2.1 r2.2.1) fun r3 =>
    some (r3.1, r3.2.1, ())
def barrier_Offer (a0 : (Bool × Int × Unit) × ((List Int) × (List Int) × Unit) × Int × Unit) (a1 : Int) (a2 : Bool) : Option (((Bool × Int × Unit) × ((List Int) × (List Int) × Unit) × Int × Unit) × Int × Unit) :=
  Option.bind (barrier_Fine a0) fun r1 =>
  bif !r1 then
    some (a0, 1, ())
  else
    bif a2 then
      bif !a0.1.1 then
        some (a0, 12, ())
      else
        Option.bind (phase_Left a0.2.2.1 a0.1.2.1) fun r2 =>
        bif decide (r2 = 0) then
          some (a0, 14, ())
        else
          Option.bind (roll_Offer a0.2.1 a1) fun r3 =>
          Option.bind (barrier_Bar_with a0 r3.1 r3.2.1) fun r4 =>
          some (r4.1, r4.2.1, ())
    else
      Option.bind (phase_Left a0.2.2.1 a0.1.2.1) fun r5 =>
      bif decide (r5 = 0) then
        some (a0, 14, ())
      else
        Option.bind (roll_Offer a0.2.1 a1) fun r6 =>
        Option.bind (barrier_Bar_with a0 r6.1 r6.2.1) fun r7 =>
        some (r7.1, r7.2.1, ())
def barrier_Withdraw (a0 : (Bool × Int × Unit) × ((List Int) × (List Int) × Unit) × Int × Unit) (a1 : Int) : Option ((Bool × Int × Unit) × ((List Int) × (List Int) × Unit) × Int × Unit) :=
  Option.bind (barrier_Fine a0) fun r1 =>
  bif r1 then
    Option.bind (roll_Withdraw a0.2.1 a1) fun r2 =>
    some (a0.1, r2.1, a0.2.2.1, ())
  else
    some a0
def barrier_Resign (a0 : (Bool × Int × Unit) × ((List Int) × (List Int) × Unit) × Int × Unit) (a1 : Int) : Option (((Bool × Int × Unit) × ((List Int) × (List Int) × Unit) × Int × Unit) × Int × Unit) :=
  Option.bind (barrier_Fine a0) fun r1 =>
  bif !r1 then
    some (a0, 1, ())
  else
    Option.bind (roll_Resign a0.2.1 a1) fun r2 =>
    Option.bind (barrier_Bar_with a0 r2.1 r2.2.1) fun r3 =>
    some (r3.1, r3.2.1, ())
end Go.Proofs.YtkpobmmabmelfaaDoorV
namespace Go.Proofs.YtkpobmmabmelfaaDoorV
set_option linter.unusedVariables false
def L22_Small (a0 : (Bool × Int × Unit) × ((List Int) × (List Int) × Unit) × Int × Unit) : Option Bool :=
  bif decide ((a0.2.1.1.length : Int) ≤ 40) then
    some (decide ((a0.2.1.2.1.length : Int) ≤ 40))
  else
    some false
def L22_alive : Option Bool :=
  Option.bind (barrier_New (false, 1, ())) fun r1 =>
  Option.bind (barrier_Enrol r1.1 2) fun r2 =>
  Option.bind (barrier_Offer r2.1 2 true) fun r3 =>
  Option.bind (barrier_Offer r2.1 2 false) fun r4 =>
  Option.bind (barrier_Fire r4.1) fun r5 =>
  Option.bind (barrier_Offer r5.1 2 false) fun r6 =>
  bif decide (r1.2.1 = 0) then
    bif decide (r2.2.1 = 0) then
      bif decide (r3.2.1 = 12) then
        bif decide (r4.2.1 = 0) then
          Option.bind (barrier_Ready r4.1) fun r7 =>
          bif r7 then
            Option.bind (barrier_Withdraw r4.1 2) fun r8 =>
            Option.bind (barrier_Ready r8) fun r9 =>
            bif !r9 then
              bif decide (r5.2.2.1 = 0) then
                bif decide (r5.1.2.2.1 = 1) then
                  Option.bind (R02_Same r5.2.1 [2]) fun r10 =>
                  bif r10 then
                    bif decide (r6.2.1 = 14) then
                      Option.bind (barrier_Fine r5.1) fun r11 =>
                      bif r11 then
                        Option.bind (barrier_Check (false, 0, ())) fun r12 =>
                        some (decide (r12 = 8))
                      else
                        some false
                    else
                      some false
                  else
                    some false
                else
                  some false
              else
                some false
            else
              some false
          else
            some false
        else
          some false
      else
        some false
    else
      some false
  else
    some false
def L22_Plain (a0 : (Bool × Int × Unit) × ((List Int) × (List Int) × Unit) × Int × Unit) : Option ((Bool × Int × Unit) × ((List Int) × (List Int) × Unit) × Int × Unit) :=
  Option.bind (L21_Plain a0.2.1) fun r1 =>
  some (a0.1, r1, a0.2.2.1, ())
def L22_To (a0 : (Bool × Int × Unit) × ((List Int) × (List Int) × Unit) × Int × Unit) : Option ((Bool × Int × Unit) × ((List Int) × (List Int) × Unit) × Int × Unit) :=
  Option.bind (L21_Plain a0.2.1) fun r1 =>
  Option.bind (L21_To r1) fun r2 =>
  some (a0.1, r2, a0.2.2.1, ())
def L22_Same (a0 : (Bool × Int × Unit) × ((List Int) × (List Int) × Unit) × Int × Unit) (a1 : (Bool × Int × Unit) × ((List Int) × (List Int) × Unit) × Int × Unit) : Option Bool :=
  bif (a0.1.1 == a1.1.1) && ((decide (a0.1.2.1 = a1.1.2.1)) && true) then
    Option.bind (L21_Same a0.2.1 a1.2.1) fun r1 =>
    bif r1 then
      some (decide (a0.2.2.1 = a1.2.2.1))
    else
      some false
  else
    some false
def L22_From (a0 : (Bool × Int × Unit) × ((List Int) × (List Int) × Unit) × Int × Unit) : Option ((Bool × Int × Unit) × ((List Int) × (List Int) × Unit) × Int × Unit) :=
  Option.bind (L21_From a0.2.1) fun r1 =>
  some (a0.1, r1, a0.2.2.1, ())
end Go.Proofs.YtkpobmmabmelfaaDoorV
namespace Go.Proofs.YtkpobmmabmelfaaDoorV
set_option linter.unusedVariables false
def R23_is (a0 : List ((Bool × Int × Unit) × ((List Int) × (List Int) × Unit) × Int × Unit)) (a1 : Int) : Option Bool :=
  bif decide (a1 ≥ 0) then
    some (decide (a1 < (a0.length : Int)))
  else
    some false
def R23_put (a0 : List ((Bool × Int × Unit) × ((List Int) × (List Int) × Unit) × Int × Unit)) (a1 : Int) (a2 : (Bool × Int × Unit) × ((List Int) × (List Int) × Unit) × Int × Unit) (a3 : Int) : Option ((List ((Bool × Int × Unit) × ((List Int) × (List Int) × Unit) × Int × Unit)) × Int × Unit) :=
  bif !decide (a3 = 0) then
    some (a0, a3, ())
  else
    chk (a0.length ≤ 4294967296) <|
    chk (0 ≤ a1 ∧ a1 < (a0.length : Int)) <|
    some (a0.set a1.toNat a2, 0, ())
def R23_Offer_J1 (p1 : List ((Bool × Int × Unit) × ((List Int) × (List Int) × Unit) × Int × Unit)) : Option ((List ((Bool × Int × Unit) × ((List Int) × (List Int) × Unit) × Int × Unit)) × Int × Int × Unit) :=
  some (p1, 0, 0, ())
def R23_Offer_L1 (a2 : List (Int × Int × Int × Int × Int × Unit)) (a0 : List ((Bool × Int × Unit) × ((List Int) × (List Int) × Unit) × Int × Unit)) (a1 : Int) (a3 : Bool) (k1 : ((List ((Bool × Int × Unit) × ((List Int) × (List Int) × Unit) × Int × Unit)) × Int) → Option ((List ((Bool × Int × Unit) × ((List Int) × (List Int) × Unit) × Int × Unit)) × Int × Int × Unit)) (x1 : (List ((Bool × Int × Unit) × ((List Int) × (List Int) × Unit) × Int × Unit)) × Int) : Option ((List ((Bool × Int × Unit) × ((List Int) × (List Int) × Unit) × Int × Unit)) × Int × Int × Unit) :=
  bif decide (x1.2 < (a2.length : Int)) then
    chk (0 ≤ x1.2 ∧ x1.2 < (a2.length : Int)) <|
    bif !decide ((a2.getD x1.2.toNat (0, 0, 0, 0, 0, ())).1 = 3) then
      k1 (x1.1, IntKind.i64.wrap (x1.2 + 1))
    else
      chk (0 ≤ x1.2 ∧ x1.2 < (a2.length : Int)) <|
      Option.bind (R23_is a0 (a2.getD x1.2.toNat (0, 0, 0, 0, 0, ())).2.1) fun r1 =>
      bif !r1 then
        some (a0, x1.2, 8, ())
      else
        chk (0 ≤ x1.2 ∧ x1.2 < (a2.length : Int)) <|
        chk (0 ≤ (a2.getD x1.2.toNat (0, 0, 0, 0, 0, ())).2.1 ∧ (a2.getD x1.2.toNat (0, 0, 0, 0, 0, ())).2.1 < (x1.1.length : Int)) <|
        Option.bind (R22_Offer (x1.1.getD (a2.getD x1.2.toNat (0, 0, 0, 0, 0, ())).2.1.toNat ((false, 0, ()), ([], [], ()), 0, ())) a1 a3) fun r2 =>
        bif !decide (r2.2.1 = 0) then
          some (a0, x1.2, r2.2.1, ())
        else
          chk (0 ≤ x1.2 ∧ x1.2 < (a2.length : Int)) <|
          Option.bind (R23_put x1.1 (a2.getD x1.2.toNat (0, 0, 0, 0, 0, ())).2.1 r2.1 0) fun r3 =>
          k1 (r3.1, IntKind.i64.wrap (x1.2 + 1))
  else
    R23_Offer_J1 x1.1
def R23_Offer (a0 : List ((Bool × Int × Unit) × ((List Int) × (List Int) × Unit) × Int × Unit)) (a1 : Int) (a2 : List (Int × Int × Int × Int × Int × Unit)) (a3 : Bool) : Option ((List ((Bool × Int × Unit) × ((List Int) × (List Int) × Unit) × Int × Unit)) × Int × Int × Unit) :=
  loop (R23_Offer_L1 a2 a0 a1 a3) (a0, 0)
def R23_Leave_J1 (p1 : List ((Bool × Int × Unit) × ((List Int) × (List Int) × Unit) × Int × Unit)) : Option (List ((Bool × Int × Unit) × ((List Int) × (List Int) × Unit) × Int × Unit)) :=
  some p1
def R23_Leave_L1 (a1 : Int) (k1 : ((List ((Bool × Int × Unit) × ((List Int) × (List Int) × Unit) × Int × Unit)) × Int) → Option (List ((Bool × Int × Unit) × ((List Int) × (List Int) × Unit) × Int × Unit))) (x1 : (List ((Bool × Int × Unit) × ((List Int) × (List Int) × Unit) × Int × Unit)) × Int) : Option (List ((Bool × Int × Unit) × ((List Int) × (List Int) × Unit) × Int × Unit)) :=
  bif decide (x1.2 < (x1.1.length : Int)) then
    chk (0 ≤ x1.2 ∧ x1.2 < (x1.1.length : Int)) <|
    Option.bind (R22_Withdraw (x1.1.getD x1.2.toNat ((false, 0, ()), ([], [], ()), 0, ())) a1) fun r1 =>
    Option.bind (R23_put x1.1 x1.2 r1 0) fun r2 =>
    k1 (r2.1, IntKind.i64.wrap (x1.2 + 1))
  else
    R23_Leave_J1 x1.1
def R23_Leave (a0 : List ((Bool × Int × Unit) × ((List Int) × (List Int) × Unit) × Int × Unit)) (a1 : Int) : Option (List ((Bool × Int × Unit) × ((List Int) × (List Int) × Unit) × Int × Unit)) :=
  loop (R23_Leave_L1 a1) (a0, 0)
def R23_Quit_J1 (p1 : List ((Bool × Int × Unit) × ((List Int) × (List Int) × Unit) × Int × Unit)) : Option (List ((Bool × Int × Unit) × ((List Int) × (List Int) × Unit) × Int × Unit)) :=
  some p1
def R23_Quit_L1 (a1 : Int) (k1 : ((List ((Bool × Int × Unit) × ((List Int) × (List Int) × Unit) × Int × Unit)) × Int) → Option (List ((Bool × Int × Unit) × ((List Int) × (List Int) × Unit) × Int × Unit))) (x1 : (List ((Bool × Int × Unit) × ((List Int) × (List Int) × Unit) × Int × Unit)) × Int) : Option (List ((Bool × Int × Unit) × ((List Int) × (List Int) × Unit) × Int × Unit)) :=
  bif decide (x1.2 < (x1.1.length : Int)) then
    chk (0 ≤ x1.2 ∧ x1.2 < (x1.1.length : Int)) <|
    Option.bind (R22_Resign (x1.1.getD x1.2.toNat ((false, 0, ()), ([], [], ()), 0, ())) a1) fun r1 =>
    Option.bind (R23_put x1.1 x1.2 r1.1 r1.2.1) fun r2 =>
    k1 (r2.1, IntKind.i64.wrap (x1.2 + 1))
  else
    R23_Quit_J1 x1.1
def R23_Quit (a0 : List ((Bool × Int × Unit) × ((List Int) × (List Int) × Unit) × Int × Unit)) (a1 : Int) : Option (List ((Bool × Int × Unit) × ((List Int) × (List Int) × Unit) × Int × Unit)) :=
  loop (R23_Quit_L1 a1) (a0, 0)
def R23_Enrol (a0 : List ((Bool × Int × Unit) × ((List Int) × (List Int) × Unit) × Int × Unit)) (a1 : Int) (a2 : Int) : Option ((List ((Bool × Int × Unit) × ((List Int) × (List Int) × Unit) × Int × Unit)) × Int × Unit) :=
  Option.bind (R23_is a0 a1) fun r1 =>
  bif !r1 then
    some (a0, 8, ())
  else
    chk (0 ≤ a1 ∧ a1 < (a0.length : Int)) <|
    Option.bind (R22_Enrol (a0.getD a1.toNat ((false, 0, ()), ([], [], ()), 0, ())) a2) fun r2 =>
    Option.bind (R23_put a0 a1 r2.1 r2.2.1) fun r3 =>
    some (r3.1, r3.2.1, ())
def R23_Resign (a0 : List ((Bool × Int × Unit) × ((List Int) × (List Int) × Unit) × Int × Unit)) (a1 : Int) (a2 : Int) : Option ((List ((Bool × Int × Unit) × ((List Int) × (List Int) × Unit) × Int × Unit)) × Int × Unit) :=
  Option.bind (R23_is a0 a1) fun r1 =>
  bif !r1 then
    some (a0, 8, ())
  else
    chk (0 ≤ a1 ∧ a1 < (a0.length : Int)) <|
    Option.bind (R22_Resign (a0.getD a1.toNat ((false, 0, ()), ([], [], ()), 0, ())) a2) fun r2 =>
    Option.bind (R23_put a0 a1 r2.1 r2.2.1) fun r3 =>
    some (r3.1, r3.2.1, ())
def R23_Fire (a0 : List ((Bool × Int × Unit) × ((List Int) × (List Int) × Unit) × Int × Unit)) (a1 : Int) : Option ((List ((Bool × Int × Unit) × ((List Int) × (List Int) × Unit) × Int × Unit)) × (List Int) × Int × Unit) :=
  Option.bind (R23_is a0 a1) fun r1 =>
  bif !r1 then
    some (a0, [], 8, ())
  else
    chk (0 ≤ a1 ∧ a1 < (a0.length : Int)) <|
    Option.bind (R22_Fire (a0.getD a1.toNat ((false, 0, ()), ([], [], ()), 0, ()))) fun r2 =>
    bif !decide (r2.2.2.1 = 0) then
      some (a0, [], r2.2.2.1, ())
    else
      Option.bind (R23_put a0 a1 r2.1 0) fun r3 =>
      some (r3.1, r2.2.1, 0, ())
def R23_Ready_J1 (p1 : List Int) : Option (List Int) :=
  some p1
def R23_Ready_L1 (a0 : List ((Bool × Int × Unit) × ((List Int) × (List Int) × Unit) × Int × Unit)) (k1 : (Int × List Int) → Option (List Int)) (x1 : Int × List Int) : Option (List Int) :=
  bif decide (x1.1 < (a0.length : Int)) then
    chk (0 ≤ x1.1 ∧ x1.1 < (a0.length : Int)) <|
    Option.bind (R22_Ready (a0.getD x1.1.toNat ((false, 0, ()), ([], [], ()), 0, ()))) fun r1 =>
    bif r1 then
      chk (x1.2.length + ([x1.1] : List Int).length ≤ 4294967296) <|
      k1 (IntKind.i64.wrap (x1.1 + 1), x1.2 ++ [x1.1])
    else
      k1 (IntKind.i64.wrap (x1.1 + 1), x1.2)
  else
    R23_Ready_J1 x1.2
def R23_Ready (a0 : List ((Bool × Int × Unit) × ((List Int) × (List Int) × Unit) × Int × Unit)) : Option (List Int) :=
  loop (R23_Ready_L1 a0) (0, [])
def R23_New_J1 (p1 : List ((Bool × Int × Unit) × ((List Int) × (List Int) × Unit) × Int × Unit)) : Option ((List ((Bool × Int × Unit) × ((List Int) × (List Int) × Unit) × Int × Unit)) × Int × Int × Unit) :=
  some (p1, 0, 0, ())
def R23_New_L1 (a0 : List (Bool × Int × Unit)) (k1 : (Int × (List ((Bool × Int × Unit) × ((List Int) × (List Int) × Unit) × Int × Unit))) → Option ((List ((Bool × Int × Unit) × ((List Int) × (List Int) × Unit) × Int × Unit)) × Int × Int × Unit)) (x1 : Int × (List ((Bool × Int × Unit) × ((List Int) × (List Int) × Unit) × Int × Unit))) : Option ((List ((Bool × Int × Unit) × ((List Int) × (List Int) × Unit) × Int × Unit)) × Int × Int × Unit) :=
  bif decide (x1.1 < (a0.length : Int)) then
    chk (0 ≤ x1.1 ∧ x1.1 < (a0.length : Int)) <|
    Option.bind (R22_New (a0.getD x1.1.toNat (false, 0, ()))) fun r1 =>
    bif !decide (r1.2.1 = 0) then
      some ([], x1.1, r1.2.1, ())
    else
      chk (x1.2.length + ([r1.1] : List ((Bool × Int × Unit) × ((List Int) × (List Int) × Unit) × Int × Unit)).length ≤ 4294967296) <|
      k1 (IntKind.i64.wrap (x1.1 + 1), x1.2 ++ [r1.1])
  else
    R23_New_J1 x1.2
def R23_New (a0 : List (Bool × Int × Unit)) : Option ((List ((Bool × Int × Unit) × ((List Int) × (List Int) × Unit) × Int × Unit)) × Int × Int × Unit) :=
  bif decide ((a0.length : Int) > 8) then
    some ([], 8, 5, ())
  else
    loop (R23_New_L1 a0) (0, [])
end Go.Proofs.YtkpobmmabmelfaaDoorV
namespace Go.Proofs.YtkpobmmabmelfaaDoorV
set_option linter.unusedVariables false
def bartab_Offer_C1 (p1 : List ((Bool × Int × Unit) × ((List Int) × (List Int) × Unit) × Int × Unit)) (k1 : ((List ((Bool × Int × Unit) × ((List Int) × (List Int) × Unit) × Int × Unit))) → Option ((List ((Bool × Int × Unit) × ((List Int) × (List Int) × Unit) × Int × Unit)) × Int × Int × Unit)) : Option ((List ((Bool × Int × Unit) × ((List Int) × (List Int) × Unit) × Int × Unit)) × Int × Int × Unit) :=
  chk ((p1.length : Int) = (p1.length : Int) ∧ 0 ≤ (p1.length : Int) ∧ (p1.length : Int) ≤ 4294967296) <|
  letv (List.replicate (p1.length : Int).toNat ((false, 0, ()), ((List.replicate 4 0), (List.replicate 4 0), ()), 0, ())) fun l1 =>
  k1 (p1.take l1.length ++ l1.drop p1.length)
def bartab_Offer_R1 (x1 : (List ((Bool × Int × Unit) × ((List Int) × (List Int) × Unit) × Int × Unit))) : Option ((List ((Bool × Int × Unit) × ((List Int) × (List Int) × Unit) × Int × Unit)) × Int × Int × Unit) :=
  some (x1, 0, 0, ())
def bartab_Offer_J1 (p1 : List ((Bool × Int × Unit) × ((List Int) × (List Int) × Unit) × Int × Unit)) : Option ((List ((Bool × Int × Unit) × ((List Int) × (List Int) × Unit) × Int × Unit)) × Int × Int × Unit) :=
  cutv 1 (bartab_Offer_C1 p1) bartab_Offer_R1
def bartab_Offer_L1 (p2 : Int) (a2 : List (Int × Int × Int × Int × Int × Unit)) (a0 : List ((Bool × Int × Unit) × ((List Int) × (List Int) × Unit) × Int × Unit)) (a1 : Int) (a3 : Bool) (k2 : ((List ((Bool × Int × Unit) × ((List Int) × (List Int) × Unit) × Int × Unit)) × Int) → Option ((List ((Bool × Int × Unit) × ((List Int) × (List Int) × Unit) × Int × Unit)) × Int × Int × Unit)) (x2 : (List ((Bool × Int × Unit) × ((List Int) × (List Int) × Unit) × Int × Unit)) × Int) : Option ((List ((Bool × Int × Unit) × ((List Int) × (List Int) × Unit) × Int × Unit)) × Int × Int × Unit) :=
  bif decide (x2.2 < p2) then
    chk (0 ≤ x2.2 ∧ x2.2 < (a2.length : Int)) <|
    bif !decide ((a2.getD x2.2.toNat (0, 0, 0, 0, 0, ())).1 = 3) then
      k2 (x2.1, IntKind.i64.wrap (x2.2 + 1))
    else
      bif decide ((a2.getD x2.2.toNat (0, 0, 0, 0, 0, ())).2.1 < 0) then
        some (a0, x2.2, 8, ())
      else
        bif decide ((a2.getD x2.2.toNat (0, 0, 0, 0, 0, ())).2.1 ≥ (x2.1.length : Int)) then
          some (a0, x2.2, 8, ())
        else
          chk (0 ≤ (a2.getD x2.2.toNat (0, 0, 0, 0, 0, ())).2.1 ∧ (a2.getD x2.2.toNat (0, 0, 0, 0, 0, ())).2.1 < (x2.1.length : Int)) <|
          Option.bind (barrier_Offer (x2.1.getD (a2.getD x2.2.toNat (0, 0, 0, 0, 0, ())).2.1.toNat ((false, 0, ()), ((List.replicate 4 0), (List.replicate 4 0), ()), 0, ())) a1 a3) fun r1 =>
          bif !decide (r1.2.1 = 0) then
            bif !decide (r1.2.1 = 0) then
              some (a0, x2.2, r1.2.1, ())
            else
              k2 (x2.1, IntKind.i64.wrap (x2.2 + 1))
          else
            chk ((x2.1.length : Int) = (x2.1.length : Int) ∧ 0 ≤ (x2.1.length : Int) ∧ (x2.1.length : Int) ≤ 4294967296) <|
            letv (List.replicate (x2.1.length : Int).toNat ((false, 0, ()), ((List.replicate 4 0), (List.replicate 4 0), ()), 0, ())) fun l2 =>
            letv (x2.1.take l2.length ++ l2.drop x2.1.length) fun l3 =>
            chk (0 ≤ (a2.getD x2.2.toNat (0, 0, 0, 0, 0, ())).2.1 ∧ (a2.getD x2.2.toNat (0, 0, 0, 0, 0, ())).2.1 < (l3.length : Int)) <|
            letv (l3.set (a2.getD x2.2.toNat (0, 0, 0, 0, 0, ())).2.1.toNat r1.1) fun l4 =>
            k2 (l4, IntKind.i64.wrap (x2.2 + 1))
  else
    bartab_Offer_J1 x2.1
def bartab_Offer (a0 : List ((Bool × Int × Unit) × ((List Int) × (List Int) × Unit) × Int × Unit)) (a1 : Int) (a2 : List (Int × Int × Int × Int × Int × Unit)) (a3 : Bool) : Option ((List ((Bool × Int × Unit) × ((List Int) × (List Int) × Unit) × Int × Unit)) × Int × Int × Unit) :=
  loop (bartab_Offer_L1 (a2.length : Int) a2 a0 a1 a3) (a0, 0)
def bartab_Leave_C1 (a0 : List ((Bool × Int × Unit) × ((List Int) × (List Int) × Unit) × Int × Unit)) (a1 : Int) (k1 : (Int × (List ((Bool × Int × Unit) × ((List Int) × (List Int) × Unit) × Int × Unit))) → Option (List ((Bool × Int × Unit) × ((List Int) × (List Int) × Unit) × Int × Unit))) : Option (List ((Bool × Int × Unit) × ((List Int) × (List Int) × Unit) × Int × Unit)) :=
  chk ((a0.length : Int) = (a0.length : Int) ∧ 0 ≤ (a0.length : Int) ∧ (a0.length : Int) ≤ 4294967296) <|
  letv (List.replicate (a0.length : Int).toNat ((false, 0, ()), ((List.replicate 4 0), (List.replicate 4 0), ()), 0, ())) fun l1 =>
  k1 (a1, a0.take l1.length ++ l1.drop a0.length)
def bartab_Leave_J1 (p1 : List ((Bool × Int × Unit) × ((List Int) × (List Int) × Unit) × Int × Unit)) : Option (List ((Bool × Int × Unit) × ((List Int) × (List Int) × Unit) × Int × Unit)) :=
  some p1
def bartab_Leave_L1 (p2 : Int) (x1 : Int × (List ((Bool × Int × Unit) × ((List Int) × (List Int) × Unit) × Int × Unit))) (k2 : (Int × (List ((Bool × Int × Unit) × ((List Int) × (List Int) × Unit) × Int × Unit))) → Option (List ((Bool × Int × Unit) × ((List Int) × (List Int) × Unit) × Int × Unit))) (x2 : Int × (List ((Bool × Int × Unit) × ((List Int) × (List Int) × Unit) × Int × Unit))) : Option (List ((Bool × Int × Unit) × ((List Int) × (List Int) × Unit) × Int × Unit)) :=
  bif decide (x2.1 < p2) then
    chk (0 ≤ x2.1 ∧ x2.1 < (x2.2.length : Int)) <|
    Option.bind (barrier_Withdraw (x2.2.getD x2.1.toNat ((false, 0, ()), ((List.replicate 4 0), (List.replicate 4 0), ()), 0, ())) x1.1) fun r1 =>
    chk (0 ≤ x2.1 ∧ x2.1 < (x2.2.length : Int)) <|
    k2 (IntKind.i64.wrap (x2.1 + 1), x2.2.set x2.1.toNat r1)
  else
    bartab_Leave_J1 x2.2
def bartab_Leave_R1 (x1 : Int × (List ((Bool × Int × Unit) × ((List Int) × (List Int) × Unit) × Int × Unit))) : Option (List ((Bool × Int × Unit) × ((List Int) × (List Int) × Unit) × Int × Unit)) :=
  loop (bartab_Leave_L1 (x1.2.length : Int) x1) (0, x1.2)
def bartab_Leave (a0 : List ((Bool × Int × Unit) × ((List Int) × (List Int) × Unit) × Int × Unit)) (a1 : Int) : Option (List ((Bool × Int × Unit) × ((List Int) × (List Int) × Unit) × Int × Unit)) :=
  cutv 1 (bartab_Leave_C1 a0 a1) bartab_Leave_R1
def bartab_Quit_C1 (a0 : List ((Bool × Int × Unit) × ((List Int) × (List Int) × Unit) × Int × Unit)) (a1 : Int) (k1 : (Int × (List ((Bool × Int × Unit) × ((List Int) × (List Int) × Unit) × Int × Unit))) → Option (List ((Bool × Int × Unit) × ((List Int) × (List Int) × Unit) × Int × Unit))) : Option (List ((Bool × Int × Unit) × ((List Int) × (List Int) × Unit) × Int × Unit)) :=
  chk ((a0.length : Int) = (a0.length : Int) ∧ 0 ≤ (a0.length : Int) ∧ (a0.length : Int) ≤ 4294967296) <|
  letv (List.replicate (a0.length : Int).toNat ((false, 0, ()), ((List.replicate 4 0), (List.replicate 4 0), ()), 0, ())) fun l1 =>
  k1 (a1, a0.take l1.length ++ l1.drop a0.length)
def bartab_Quit_J1 (p1 : List ((Bool × Int × Unit) × ((List Int) × (List Int) × Unit) × Int × Unit)) : Option (List ((Bool × Int × Unit) × ((List Int) × (List Int) × Unit) × Int × Unit)) :=
  some p1
def bartab_Quit_L1 (p2 : Int) (x1 : Int × (List ((Bool × Int × Unit) × ((List Int) × (List Int) × Unit) × Int × Unit))) (k2 : (Int × (List ((Bool × Int × Unit) × ((List Int) × (List Int) × Unit) × Int × Unit))) → Option (List ((Bool × Int × Unit) × ((List Int) × (List Int) × Unit) × Int × Unit))) (x2 : Int × (List ((Bool × Int × Unit) × ((List Int) × (List Int) × Unit) × Int × Unit))) : Option (List ((Bool × Int × Unit) × ((List Int) × (List Int) × Unit) × Int × Unit)) :=
  bif decide (x2.1 < p2) then
    chk (0 ≤ x2.1 ∧ x2.1 < (x2.2.length : Int)) <|
    Option.bind (barrier_Resign (x2.2.getD x2.1.toNat ((false, 0, ()), ((List.replicate 4 0), (List.replicate 4 0), ()), 0, ())) x1.1) fun r1 =>
    bif decide (r1.2.1 = 0) then
      chk (0 ≤ x2.1 ∧ x2.1 < (x2.2.length : Int)) <|
      k2 (IntKind.i64.wrap (x2.1 + 1), x2.2.set x2.1.toNat r1.1)
    else
      k2 (IntKind.i64.wrap (x2.1 + 1), x2.2)
  else
    bartab_Quit_J1 x2.2
def bartab_Quit_R1 (x1 : Int × (List ((Bool × Int × Unit) × ((List Int) × (List Int) × Unit) × Int × Unit))) : Option (List ((Bool × Int × Unit) × ((List Int) × (List Int) × Unit) × Int × Unit)) :=
  loop (bartab_Quit_L1 (x1.2.length : Int) x1) (0, x1.2)
def bartab_Quit (a0 : List ((Bool × Int × Unit) × ((List Int) × (List Int) × Unit) × Int × Unit)) (a1 : Int) : Option (List ((Bool × Int × Unit) × ((List Int) × (List Int) × Unit) × Int × Unit)) :=
  cutv 1 (bartab_Quit_C1 a0 a1) bartab_Quit_R1
def bartab_Enrol (a0 : List ((Bool × Int × Unit) × ((List Int) × (List Int) × Unit) × Int × Unit)) (a1 : Int) (a2 : Int) : Option ((List ((Bool × Int × Unit) × ((List Int) × (List Int) × Unit) × Int × Unit)) × Int × Unit) :=
  bif decide (a1 < 0) then
    some (a0, 8, ())
  else
    bif decide (a1 ≥ (a0.length : Int)) then
      some (a0, 8, ())
    else
      chk (0 ≤ a1 ∧ a1 < (a0.length : Int)) <|
      Option.bind (barrier_Enrol (a0.getD a1.toNat ((false, 0, ()), ((List.replicate 4 0), (List.replicate 4 0), ()), 0, ())) a2) fun r1 =>
      bif !decide (r1.2.1 = 0) then
        some (a0, r1.2.1, ())
      else
        chk ((a0.length : Int) = (a0.length : Int) ∧ 0 ≤ (a0.length : Int) ∧ (a0.length : Int) ≤ 4294967296) <|
        letv (List.replicate (a0.length : Int).toNat ((false, 0, ()), ((List.replicate 4 0), (List.replicate 4 0), ()), 0, ())) fun l1 =>
        chk (0 ≤ a1 ∧ a1 < ((a0.take l1.length ++ l1.drop a0.length).length : Int)) <|
        letv ((a0.take l1.length ++ l1.drop a0.length).set a1.toNat r1.1) fun l2 =>
        some (l2, 0, ())
def bartab_Resign (a0 : List ((Bool × Int × Unit) × ((List Int) × (List Int) × Unit) × Int × Unit)) (a1 : Int) (a2 : Int) : Option ((List ((Bool × Int × Unit) × ((List Int) × (List Int) × Unit) × Int × Unit)) × Int × Unit) :=
  bif decide (a1 < 0) then
    some (a0, 8, ())
  else
    bif decide (a1 ≥ (a0.length : Int)) then
      some (a0, 8, ())
    else
      chk (0 ≤ a1 ∧ a1 < (a0.length : Int)) <|
      Option.bind (barrier_Resign (a0.getD a1.toNat ((false, 0, ()), ((List.replicate 4 0), (List.replicate 4 0), ()), 0, ())) a2) fun r1 =>
      bif !decide (r1.2.1 = 0) then
        some (a0, r1.2.1, ())
      else
        chk ((a0.length : Int) = (a0.length : Int) ∧ 0 ≤ (a0.length : Int) ∧ (a0.length : Int) ≤ 4294967296) <|
        letv (List.replicate (a0.length : Int).toNat ((false, 0, ()), ((List.replicate 4 0), (List.replicate 4 0), ()), 0, ())) fun l1 =>
        chk (0 ≤ a1 ∧ a1 < ((a0.take l1.length ++ l1.drop a0.length).length : Int)) <|
        letv ((a0.take l1.length ++ l1.drop a0.length).set a1.toNat r1.1) fun l2 =>
        some (l2, 0, ())
def bartab_Fire (a0 : List ((Bool × Int × Unit) × ((List Int) × (List Int) × Unit) × Int × Unit)) (a1 : Int) : Option ((List ((Bool × Int × Unit) × ((List Int) × (List Int) × Unit) × Int × Unit)) × (List Int) × Int × Unit) :=
  bif decide (a1 < 0) then
    some (a0, [], 8, ())
  else
    bif decide (a1 ≥ (a0.length : Int)) then
      some (a0, [], 8, ())
    else
      chk (0 ≤ a1 ∧ a1 < (a0.length : Int)) <|
      Option.bind (barrier_Fire (a0.getD a1.toNat ((false, 0, ()), ((List.replicate 4 0), (List.replicate 4 0), ()), 0, ()))) fun r1 =>
      bif !decide (r1.2.2.1 = 0) then
        some (a0, r1.2.1, r1.2.2.1, ())
      else
        chk ((a0.length : Int) = (a0.length : Int) ∧ 0 ≤ (a0.length : Int) ∧ (a0.length : Int) ≤ 4294967296) <|
        letv (List.replicate (a0.length : Int).toNat ((false, 0, ()), ((List.replicate 4 0), (List.replicate 4 0), ()), 0, ())) fun l1 =>
        chk (0 ≤ a1 ∧ a1 < ((a0.take l1.length ++ l1.drop a0.length).length : Int)) <|
        letv ((a0.take l1.length ++ l1.drop a0.length).set a1.toNat r1.1) fun l2 =>
        some (l2, r1.2.1, 0, ())
def bartab_Ready_J1 (p1 : List Int) : Option (List Int) :=
  some p1
def bartab_Ready_L1 (p2 : Int) (a0 : List ((Bool × Int × Unit) × ((List Int) × (List Int) × Unit) × Int × Unit)) (k1 : (Int × List Int) → Option (List Int)) (x1 : Int × List Int) : Option (List Int) :=
  bif decide (x1.1 < p2) then
    chk (0 ≤ x1.1 ∧ x1.1 < (a0.length : Int)) <|
    Option.bind (barrier_Ready (a0.getD x1.1.toNat ((false, 0, ()), ((List.replicate 4 0), (List.replicate 4 0), ()), 0, ()))) fun r1 =>
    bif r1 then
      chk (x1.2.length + ([x1.1] : List Int).length ≤ 4294967296) <|
      k1 (IntKind.i64.wrap (x1.1 + 1), x1.2 ++ [x1.1])
    else
      k1 (IntKind.i64.wrap (x1.1 + 1), x1.2)
  else
    bartab_Ready_J1 x1.2
def bartab_Ready (a0 : List ((Bool × Int × Unit) × ((List Int) × (List Int) × Unit) × Int × Unit)) : Option (List Int) :=
  loop (bartab_Ready_L1 (a0.length : Int) a0) (0, [])
def bartab_New_J1 (p1 : List ((Bool × Int × Unit) × ((List Int) × (List Int) × Unit) × Int × Unit)) : Option ((List ((Bool × Int × Unit) × ((List Int) × (List Int) × Unit) × Int × Unit)) × Int × Int × Unit) :=
  some (p1, 0, 0, ())
def bartab_New_L1 (p2 : Int) (a0 : List (Bool × Int × Unit)) (k1 : (Int × (List ((Bool × Int × Unit) × ((List Int) × (List Int) × Unit) × Int × Unit))) → Option ((List ((Bool × Int × Unit) × ((List Int) × (List Int) × Unit) × Int × Unit)) × Int × Int × Unit)) (x1 : Int × (List ((Bool × Int × Unit) × ((List Int) × (List Int) × Unit) × Int × Unit))) : Option ((List ((Bool × Int × Unit) × ((List Int) × (List Int) × Unit) × Int × Unit)) × Int × Int × Unit) :=
  bif decide (x1.1 < p2) then
    chk (0 ≤ x1.1 ∧ x1.1 < (a0.length : Int)) <|
    Option.bind (barrier_New (a0.getD x1.1.toNat (false, 0, ()))) fun r1 =>
    bif !decide (r1.2.1 = 0) then
      some ([], x1.1, r1.2.1, ())
    else
      chk (x1.2.length + ([r1.1] : List ((Bool × Int × Unit) × ((List Int) × (List Int) × Unit) × Int × Unit)).length ≤ 4294967296) <|
      k1 (IntKind.i64.wrap (x1.1 + 1), x1.2 ++ [r1.1])
  else
    bartab_New_J1 x1.2
def bartab_New (a0 : List (Bool × Int × Unit)) : Option ((List ((Bool × Int × Unit) × ((List Int) × (List Int) × Unit) × Int × Unit)) × Int × Int × Unit) :=
  bif decide ((a0.length : Int) > 8) then
    some ([], 8, 5, ())
  else
    loop (bartab_New_L1 (a0.length : Int) a0) (0, [])
end Go.Proofs.YtkpobmmabmelfaaDoorV
namespace Go.Proofs.YtkpobmmabmelfaaDoorV
set_option linter.unusedVariables false
def L23_Small_J1 (a0 : List ((Bool × Int × Unit) × ((List Int) × (List Int) × Unit) × Int × Unit)) : Option Bool :=
  some (decide ((a0.length : Int) ≤ 10))
def L23_Small_L1 (p1 : Int) (a0 : List ((Bool × Int × Unit) × ((List Int) × (List Int) × Unit) × Int × Unit)) (k1 : Int → Option Bool) (x1 : Int) : Option Bool :=
  bif decide (x1 < p1) then
    chk (0 ≤ x1 ∧ x1 < (a0.length : Int)) <|
    Option.bind (L22_Small (a0.getD x1.toNat ((false, 0, ()), ([], [], ()), 0, ()))) fun r1 =>
    bif !r1 then
      some false
    else
      k1 (IntKind.i64.wrap (x1 + 1))
  else
    L23_Small_J1 a0
def L23_Small (a0 : List ((Bool × Int × Unit) × ((List Int) × (List Int) × Unit) × Int × Unit)) : Option Bool :=
  loop (L23_Small_L1 (a0.length : Int) a0) 0
def L23_alive : Option Bool :=
  Option.bind (bartab_New [(true, 5, ()), (false, 5, ())]) fun r1 =>
  Option.bind (bartab_Enrol r1.1 0 3) fun r2 =>
  Option.bind (bartab_Enrol r2.1 1 3) fun r3 =>
  letv ([(3, 0, 0, 0, 0, ()), (3, 1, 0, 0, 0, ())]) fun l1 =>
  Option.bind (bartab_Offer r3.1 3 l1 true) fun r4 =>
  Option.bind (bartab_Offer r3.1 3 [(3, 0, 0, 0, 0, ())] true) fun r5 =>
  Option.bind (bartab_Fire r5.1 0) fun r6 =>
  Option.bind (bartab_Resign r6.1 2 3) fun r7 =>
  bif decide (r1.2.1 = 0) then
    bif decide (r1.2.2.1 = 0) then
      bif decide (r2.2.1 = 0) then
        bif decide (r3.2.1 = 0) then
          bif decide (r4.2.1 = 1) then
            bif decide (r4.2.2.1 = 12) then
              bif decide (r5.2.2.1 = 0) then
                Option.bind (bartab_Ready r5.1) fun r8 =>
                Option.bind (R02_Same r8 [0]) fun r9 =>
                bif r9 then
                  Option.bind (bartab_Leave r5.1 3) fun r10 =>
                  Option.bind (bartab_Ready r10) fun r11 =>
                  bif decide ((r11.length : Int) = 0) then
                    bif decide (r6.2.2.1 = 0) then
                      Option.bind (R02_Same r6.2.1 [3]) fun r12 =>
                      bif r12 then
                        bif decide (r7.2.1 = 8) then
                          Option.bind (bartab_Quit r6.1 3) fun r13 =>
                          chk (0 ≤ (1 : Int) ∧ (1 : Int) < (r13.length : Int)) <|
                          letv (decide (((r13.getD (1 : Int).toNat ((false, 0, ()), ((List.replicate 4 0), (List.replicate 4 0), ()), 0, ())).2.1.1 : List Int) = (List.replicate 4 0))) fun v1 =>
                          some v1
                        else
                          some false
                      else
                        some false
                    else
                      some false
                  else
                    some false
                else
                  some false
              else
                some false
            else
              some false
          else
            some false
        else
          some false
      else
        some false
    else
      some false
  else
    some false
def L23_Plain_J1 (p1 : List ((Bool × Int × Unit) × ((List Int) × (List Int) × Unit) × Int × Unit)) : Option (List ((Bool × Int × Unit) × ((List Int) × (List Int) × Unit) × Int × Unit)) :=
  some p1
def L23_Plain_L1 (p2 : Int) (a0 : List ((Bool × Int × Unit) × ((List Int) × (List Int) × Unit) × Int × Unit)) (k1 : (Int × (List ((Bool × Int × Unit) × ((List Int) × (List Int) × Unit) × Int × Unit))) → Option (List ((Bool × Int × Unit) × ((List Int) × (List Int) × Unit) × Int × Unit))) (x1 : Int × (List ((Bool × Int × Unit) × ((List Int) × (List Int) × Unit) × Int × Unit))) : Option (List ((Bool × Int × Unit) × ((List Int) × (List Int) × Unit) × Int × Unit)) :=
  bif decide (x1.1 < p2) then
    chk (0 ≤ x1.1 ∧ x1.1 < (a0.length : Int)) <|
    Option.bind (L22_Plain (a0.getD x1.1.toNat ((false, 0, ()), ([], [], ()), 0, ()))) fun r1 =>
    chk (x1.2.length + ([r1] : List ((Bool × Int × Unit) × ((List Int) × (List Int) × Unit) × Int × Unit)).length ≤ 4294967296) <|
    k1 (IntKind.i64.wrap (x1.1 + 1), x1.2 ++ [r1])
  else
    L23_Plain_J1 x1.2
def L23_Plain (a0 : List ((Bool × Int × Unit) × ((List Int) × (List Int) × Unit) × Int × Unit)) : Option (List ((Bool × Int × Unit) × ((List Int) × (List Int) × Unit) × Int × Unit)) :=
  loop (L23_Plain_L1 (a0.length : Int) a0) (0, [])
def L23_To_J1 (p1 : List ((Bool × Int × Unit) × ((List Int) × (List Int) × Unit) × Int × Unit)) : Option (List ((Bool × Int × Unit) × ((List Int) × (List Int) × Unit) × Int × Unit)) :=
  some p1
def L23_To_L1 (p2 : Int) (a0 : List ((Bool × Int × Unit) × ((List Int) × (List Int) × Unit) × Int × Unit)) (k1 : (Int × (List ((Bool × Int × Unit) × ((List Int) × (List Int) × Unit) × Int × Unit))) → Option (List ((Bool × Int × Unit) × ((List Int) × (List Int) × Unit) × Int × Unit))) (x1 : Int × (List ((Bool × Int × Unit) × ((List Int) × (List Int) × Unit) × Int × Unit))) : Option (List ((Bool × Int × Unit) × ((List Int) × (List Int) × Unit) × Int × Unit)) :=
  bif decide (x1.1 < p2) then
    chk (0 ≤ x1.1 ∧ x1.1 < (a0.length : Int)) <|
    Option.bind (L22_To (a0.getD x1.1.toNat ((false, 0, ()), ([], [], ()), 0, ()))) fun r1 =>
    chk (x1.2.length + ([r1] : List ((Bool × Int × Unit) × ((List Int) × (List Int) × Unit) × Int × Unit)).length ≤ 4294967296) <|
    k1 (IntKind.i64.wrap (x1.1 + 1), x1.2 ++ [r1])
  else
    L23_To_J1 x1.2
def L23_To (a0 : List ((Bool × Int × Unit) × ((List Int) × (List Int) × Unit) × Int × Unit)) : Option (List ((Bool × Int × Unit) × ((List Int) × (List Int) × Unit) × Int × Unit)) :=
  loop (L23_To_L1 (a0.length : Int) a0) (0, [])
def L23_Same_J1 : Option Bool :=
  some true
def L23_Same_L1 (p1 : Int) (a0 : List ((Bool × Int × Unit) × ((List Int) × (List Int) × Unit) × Int × Unit)) (a1 : List ((Bool × Int × Unit) × ((List Int) × (List Int) × Unit) × Int × Unit)) (k1 : Int → Option Bool) (x1 : Int) : Option Bool :=
  bif decide (x1 < p1) then
    chk (0 ≤ x1 ∧ x1 < (a0.length : Int)) <|
    chk (0 ≤ x1 ∧ x1 < (a1.length : Int)) <|
    Option.bind (L22_Same (a0.getD x1.toNat ((false, 0, ()), ([], [], ()), 0, ())) (a1.getD x1.toNat ((false, 0, ()), ([], [], ()), 0, ()))) fun r1 =>
    bif !r1 then
      some false
    else
      k1 (IntKind.i64.wrap (x1 + 1))
  else
    L23_Same_J1
def L23_Same (a0 : List ((Bool × Int × Unit) × ((List Int) × (List Int) × Unit) × Int × Unit)) (a1 : List ((Bool × Int × Unit) × ((List Int) × (List Int) × Unit) × Int × Unit)) : Option Bool :=
  bif !decide ((a0.length : Int) = (a1.length : Int)) then
    some false
  else
    loop (L23_Same_L1 (a0.length : Int) a0 a1) 0
def L23_From_J1 (p1 : List ((Bool × Int × Unit) × ((List Int) × (List Int) × Unit) × Int × Unit)) : Option (List ((Bool × Int × Unit) × ((List Int) × (List Int) × Unit) × Int × Unit)) :=
  some p1
def L23_From_L1 (p2 : Int) (a0 : List ((Bool × Int × Unit) × ((List Int) × (List Int) × Unit) × Int × Unit)) (k1 : (Int × (List ((Bool × Int × Unit) × ((List Int) × (List Int) × Unit) × Int × Unit))) → Option (List ((Bool × Int × Unit) × ((List Int) × (List Int) × Unit) × Int × Unit))) (x1 : Int × (List ((Bool × Int × Unit) × ((List Int) × (List Int) × Unit) × Int × Unit))) : Option (List ((Bool × Int × Unit) × ((List Int) × (List Int) × Unit) × Int × Unit)) :=
  bif decide (x1.1 < p2) then
    chk (0 ≤ x1.1 ∧ x1.1 < (a0.length : Int)) <|
    Option.bind (L22_From (a0.getD x1.1.toNat ((false, 0, ()), ((List.replicate 4 0), (List.replicate 4 0), ()), 0, ()))) fun r1 =>
    chk (x1.2.length + ([r1] : List ((Bool × Int × Unit) × ((List Int) × (List Int) × Unit) × Int × Unit)).length ≤ 4294967296) <|
    k1 (IntKind.i64.wrap (x1.1 + 1), x1.2 ++ [r1])
  else
    L23_From_J1 x1.2
def L23_From (a0 : List ((Bool × Int × Unit) × ((List Int) × (List Int) × Unit) × Int × Unit)) : Option (List ((Bool × Int × Unit) × ((List Int) × (List Int) × Unit) × Int × Unit)) :=
  loop (L23_From_L1 (a0.length : Int) a0) (0, [])
end Go.Proofs.YtkpobmmabmelfaaDoorV
namespace Go.Proofs.YtkpobmmabmelfaaDoorV
set_option linter.unusedVariables false
def L23_BartabOffers (a0 : List ((Bool × Int × Unit) × ((List Int) × (List Int) × Unit) × Int × Unit)) (a1 : Int × (List (Int × Int × Int × Int × Int × Unit)) × Bool × Unit) : Option Bool :=
  Option.bind (L23_Small a0) fun r1 =>
  bif !r1 then
    Option.bind (L23_alive) fun r2 =>
    some r2
  else
    bif decide ((a1.2.1.length : Int) > 8) then
      Option.bind (L23_alive) fun r3 =>
      some r3
    else
      Option.bind (L23_Plain a0) fun r4 =>
      Option.bind (L23_To r4) fun r5 =>
      Option.bind (bartab_Offer r5 a1.1 a1.2.1 a1.2.2.1) fun r6 =>
      Option.bind (R23_Offer r4 a1.1 a1.2.1 a1.2.2.1) fun r7 =>
      Option.bind (L23_From r6.1) fun r8 =>
      Option.bind (L23_Same r8 r7.1) fun r9 =>
      bif r9 then
        bif decide (r6.2.1 = r7.2.1) then
          bif decide (r6.2.2.1 = r7.2.2.1) then
            Option.bind (bartab_Leave r5 a1.1) fun r10 =>
            Option.bind (L23_From r10) fun r11 =>
            Option.bind (R23_Leave r4 a1.1) fun r12 =>
            Option.bind (L23_Same r11 r12) fun r13 =>
            bif r13 then
              Option.bind (bartab_Quit r5 a1.1) fun r14 =>
              Option.bind (L23_From r14) fun r15 =>
              Option.bind (R23_Quit r4 a1.1) fun r16 =>
              Option.bind (L23_Same r15 r16) fun r17 =>
              bif r17 then
                Option.bind (L23_alive) fun r18 =>
                some r18
              else
                some false
            else
              some false
          else
            some false
        else
          some false
      else
        some false
end Go.Proofs.YtkpobmmabmelfaaDoorV
namespace Go.Proofs.YtkpobmmabmelfaaDoorV
set_option linter.unusedVariables false
def L23_BartabActs (a0 : List ((Bool × Int × Unit) × ((List Int) × (List Int) × Unit) × Int × Unit)) (a1 : Int) (a2 : Int) : Option Bool :=
  Option.bind (L23_Small a0) fun r1 =>
  bif !r1 then
    Option.bind (L23_alive) fun r2 =>
    some r2
  else
    Option.bind (L23_Plain a0) fun r3 =>
    Option.bind (L23_To r3) fun r4 =>
    Option.bind (bartab_Enrol r4 a1 a2) fun r5 =>
    Option.bind (R23_Enrol r3 a1 a2) fun r6 =>
    Option.bind (bartab_Resign r4 a1 a2) fun r7 =>
    Option.bind (R23_Resign r3 a1 a2) fun r8 =>
    Option.bind (bartab_Fire r4 a1) fun r9 =>
    Option.bind (R23_Fire r3 a1) fun r10 =>
    Option.bind (L23_From r5.1) fun r11 =>
    Option.bind (L23_Same r11 r6.1) fun r12 =>
    bif r12 then
      bif decide (r5.2.1 = r6.2.1) then
        Option.bind (L23_From r7.1) fun r13 =>
        Option.bind (L23_Same r13 r8.1) fun r14 =>
        bif r14 then
          bif decide (r7.2.1 = r8.2.1) then
            Option.bind (L23_From r9.1) fun r15 =>
            Option.bind (L23_Same r15 r10.1) fun r16 =>
            bif r16 then
              Option.bind (R02_Same r9.2.1 r10.2.1) fun r17 =>
              bif r17 then
                bif decide (r9.2.2.1 = r10.2.2.1) then
                  Option.bind (bartab_Ready r4) fun r18 =>
                  Option.bind (R23_Ready r3) fun r19 =>
                  Option.bind (R02_Same r18 r19) fun r20 =>
                  bif r20 then
                    Option.bind (L23_alive) fun r21 =>
                    some r21
                  else
                    some false
                else
                  some false
              else
                some false
            else
              some false
          else
            some false
        else
          some false
      else
        some false
    else
      some false
end Go.Proofs.YtkpobmmabmelfaaDoorV
namespace Go.Proofs.YtkpobmmabmelfaaDoorV
set_option linter.unusedVariables false
def L23_BartabNew (a0 : List (Bool × Int × Unit)) : Option Bool :=
  bif decide ((a0.length : Int) > 20) then
    Option.bind (L23_alive) fun r1 =>
    some r1
  else
    Option.bind (bartab_New a0) fun r2 =>
    Option.bind (R23_New a0) fun r3 =>
    Option.bind (L23_From r2.1) fun r4 =>
    Option.bind (L23_Same r4 r3.1) fun r5 =>
    bif r5 then
      bif decide (r2.2.1 = r3.2.1) then
        bif decide (r2.2.2.1 = r3.2.2.1) then
          Option.bind (L23_alive) fun r6 =>
          some r6
        else
          some false
      else
        some false
    else
      some false
end Go.Proofs.YtkpobmmabmelfaaDoorV
