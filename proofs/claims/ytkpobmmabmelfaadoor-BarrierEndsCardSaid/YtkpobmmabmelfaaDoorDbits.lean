import Derived.Test.YtkpobmmabmelfaaDoorVcG1
namespace Go.Proofs.YtkpobmmabmelfaaDoorV
set_option linter.unusedVariables false
def math_bits_TrailingZeros64 (a0 : Int) : Option Int :=
  bif decide (a0 = 0) then
    some 64
  else
    chk (0 ≤ (58 : Int)) <|
    chk (0 ≤ (Int.fdiv (IntKind.u64.wrap ((bitsOp .and .u64 a0 (IntKind.u64.wrap (0 - a0))) * 285870213051353865)) (2 ^ min (58 : Int).toNat 64)) ∧ (Int.fdiv (IntKind.u64.wrap ((bitsOp .and .u64 a0 (IntKind.u64.wrap (0 - a0))) * 285870213051353865)) (2 ^ min (58 : Int).toNat 64)) < (64 : Int)) <|
    letv (IntKind.i64.wrap (gl_math_bits_deBruijn64tab.getD (Int.fdiv (IntKind.u64.wrap ((bitsOp .and .u64 a0 (IntKind.u64.wrap (0 - a0))) * 285870213051353865)) (2 ^ min (58 : Int).toNat 64)).toNat 0)) fun v1 =>
    some v1
def math_bits_OnesCount64 (a0 : Int) : Option Int :=
  chk (0 ≤ (1 : Int)) <|
  letv (IntKind.u64.wrap ((bitsOp .and .u64 (Int.fdiv a0 (2 ^ min (1 : Int).toNat 64)) 6148914691236517205) + (bitsOp .and .u64 a0 6148914691236517205))) fun v1 =>
  chk (0 ≤ (2 : Int)) <|
  letv (IntKind.u64.wrap ((bitsOp .and .u64 (Int.fdiv v1 (2 ^ min (2 : Int).toNat 64)) 3689348814741910323) + (bitsOp .and .u64 v1 3689348814741910323))) fun v2 =>
  chk (0 ≤ (4 : Int)) <|
  letv (bitsOp .and .u64 (IntKind.u64.wrap ((Int.fdiv v2 (2 ^ min (4 : Int).toNat 64)) + v2)) 1085102592571150095) fun v3 =>
  chk (0 ≤ (8 : Int)) <|
  letv (IntKind.u64.wrap (v3 + (Int.fdiv v3 (2 ^ min (8 : Int).toNat 64)))) fun v4 =>
  chk (0 ≤ (16 : Int)) <|
  letv (IntKind.u64.wrap (v4 + (Int.fdiv v4 (2 ^ min (16 : Int).toNat 64)))) fun v5 =>
  chk (0 ≤ (32 : Int)) <|
  letv (IntKind.u64.wrap (v5 + (Int.fdiv v5 (2 ^ min (32 : Int).toNat 64)))) fun v6 =>
  letv (bitsOp .and .i64 (IntKind.i64.wrap (v6)) 127) fun v7 =>
  some v7
end Go.Proofs.YtkpobmmabmelfaaDoorV
