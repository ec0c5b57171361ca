import Derived.Test.YtoihmfgkmndjfaaVcG1
namespace Go.Proofs.YtoihmfgkmndjfaaV
set_option linter.unusedVariables false
def L07_alive_C1 (k1 : List Int → Option Bool) : Option Bool :=
  chk ((1 : Int) = (1 : Int) ∧ 0 ≤ (1 : Int) ∧ (1 : Int) ≤ 4294967296) <|
  k1 (List.replicate (1 : Int).toNat 0)
def L07_alive_C2 (x1 : List Int) (k3 : List Int → Option Bool) : Option Bool :=
  chk ((x1.length : Int) ≠ 0) <|
  chk (0 ≤ (Int.tmod 0 (x1.length : Int)) ∧ (Int.tmod 0 (x1.length : Int)) < (x1.length : Int)) <|
  letv (x1.set (Int.tmod 0 (x1.length : Int)).toNat 5) fun l1 =>
  k3 l1
def L07_alive_R2 (k2 : (Int × List Int × Int) → Option Bool) (x3 : List Int) : Option Bool :=
  k2 (0, x3, 1)
def L07_alive_C3 (x1 : List Int) (k2 : (Int × List Int × Int) → Option Bool) : Option Bool :=
  bif decide (0 = (x1.length : Int)) then
    k2 (10, x1, 0)
  else
    cutv 2 (L07_alive_C2 x1) (L07_alive_R2 k2)
def L07_alive_C4 (x2 : Int × List Int × Int) (k5 : (List Int × Int) → Option Bool) : Option Bool :=
  chk ((x2.2.1.length : Int) ≠ 0) <|
  letv (Int.tmod (IntKind.i64.wrap (0 + x2.2.2)) (x2.2.1.length : Int)) fun v1 =>
  chk (0 ≤ v1 ∧ v1 < (x2.2.1.length : Int)) <|
  k5 (x2.2.1.set v1.toNat 6, x2.2.2)
def L07_alive_R4 (k4 : (Int × Int × List Int × Int) → Option Bool) (x2 : Int × List Int × Int) (x5 : List Int × Int) : Option Bool :=
  k4 (x2.1, 0, x5.1, IntKind.i64.wrap (x5.2 + 1))
def L07_alive_C5 (x2 : Int × List Int × Int) (k4 : (Int × Int × List Int × Int) → Option Bool) : Option Bool :=
  bif decide (x2.2.2 = (x2.2.1.length : Int)) then
    k4 (x2.1, 10, x2.2.1, x2.2.2)
  else
    cutv 4 (L07_alive_C4 x2) (L07_alive_R4 k4 x2)
def L07_alive_C6 (x4 : Int × Int × List Int × Int) (k7 : (Int × List Int × Int) → Option Bool) : Option Bool :=
  chk ((x4.2.2.1.length : Int) ≠ 0) <|
  chk (0 ≤ (Int.tmod 0 (x4.2.2.1.length : Int)) ∧ (Int.tmod 0 (x4.2.2.1.length : Int)) < (x4.2.2.1.length : Int)) <|
  letv (x4.2.2.1.getD (Int.tmod 0 (x4.2.2.1.length : Int)).toNat 0) fun v2 =>
  k7 (v2, x4.2.2.1, x4.2.2.2)
def L07_alive_R6 (k6 : (Int × Int × Int × Int × List Int × Int) → Option Bool) (x4 : Int × Int × List Int × Int) (x7 : Int × List Int × Int) : Option Bool :=
  k6 (x4.1, x4.2.1, x7.1, 0, x7.2.1, x7.2.2)
def L07_alive_C7 (x4 : Int × Int × List Int × Int) (k6 : (Int × Int × Int × Int × List Int × Int) → Option Bool) : Option Bool :=
  bif decide (0 ≥ x4.2.2.2) then
    k6 (x4.1, x4.2.1, 0, 8, x4.2.2.1, x4.2.2.2)
  else
    cutv 6 (L07_alive_C6 x4) (L07_alive_R6 k6 x4)
def L07_alive_C8 (x6 : Int × Int × Int × Int × List Int × Int) (k8 : (Int × Int × Int × Int × Int × Int × List Int × Int × Int) → Option Bool) : Option Bool :=
  bif decide (x6.2.2.2.2.2 = 0) then
    k8 (x6.1, x6.2.1, x6.2.2.1, x6.2.2.2.1, 0, 11, x6.2.2.2.2.1, 0, x6.2.2.2.2.2)
  else
    chk (0 ≤ (0 : Int) ∧ (0 : Int) < (x6.2.2.2.2.1.length : Int)) <|
    chk (0 ≤ (0 : Int) ∧ (0 : Int) < (x6.2.2.2.2.1.length : Int)) <|
    chk (((x6.2.2.2.2.1.set (0 : Int).toNat 0).length : Int) ≠ 0) <|
    letv (Int.tmod 1 ((x6.2.2.2.2.1.set (0 : Int).toNat 0).length : Int)) fun v3 =>
    k8 (x6.1, x6.2.1, x6.2.2.1, x6.2.2.2.1, x6.2.2.2.2.1.getD (0 : Int).toNat 0, 0, x6.2.2.2.2.1.set (0 : Int).toNat 0, v3, IntKind.i64.wrap (x6.2.2.2.2.2 - 1))
def L07_alive_C9 (x8 : Int × Int × Int × Int × Int × Int × List Int × Int × Int) (k9 : (Int × Int × Int × Int × Int × Int × Int × Int × List Int × Int × Int) → Option Bool) : Option Bool :=
  bif decide (x8.2.2.2.2.2.2.2.2 = 0) then
    k9 (x8.1, x8.2.1, x8.2.2.1, x8.2.2.2.1, x8.2.2.2.2.1, x8.2.2.2.2.2.1, 0, 11, x8.2.2.2.2.2.2.1, x8.2.2.2.2.2.2.2.1, x8.2.2.2.2.2.2.2.2)
  else
    chk (0 ≤ x8.2.2.2.2.2.2.2.1 ∧ x8.2.2.2.2.2.2.2.1 < (x8.2.2.2.2.2.2.1.length : Int)) <|
    letv (x8.2.2.2.2.2.2.1.getD x8.2.2.2.2.2.2.2.1.toNat 0) fun v4 =>
    chk (0 ≤ x8.2.2.2.2.2.2.2.1 ∧ x8.2.2.2.2.2.2.2.1 < (x8.2.2.2.2.2.2.1.length : Int)) <|
    letv (x8.2.2.2.2.2.2.1.set x8.2.2.2.2.2.2.2.1.toNat 0) fun l2 =>
    chk ((l2.length : Int) ≠ 0) <|
    letv (Int.tmod (IntKind.i64.wrap (x8.2.2.2.2.2.2.2.1 + 1)) (l2.length : Int)) fun v5 =>
    k9 (x8.1, x8.2.1, x8.2.2.1, x8.2.2.2.1, x8.2.2.2.2.1, x8.2.2.2.2.2.1, v4, 0, l2, v5, IntKind.i64.wrap (x8.2.2.2.2.2.2.2.2 - 1))
def L07_alive_C10 (x9 : Int × Int × Int × Int × Int × Int × Int × Int × List Int × Int × Int) (k11 : (Int × List Int × Int × Int) → Option Bool) : Option Bool :=
  k11 (x9.2.2.2.2.2.2.2.2.2.2, x9.2.2.2.2.2.2.2.2.1, x9.2.2.2.2.2.2.2.2.2.1, x9.2.2.2.2.2.2.2.2.2.2)
def L07_alive_C11 (x11 : Int × List Int × Int × Int) (k12 : (Int × List Int × Int × Int) → Option Bool) : Option Bool :=
  k12 ((x11.2.1.length : Int), x11.2.1, x11.2.2.1, x11.2.2.2)
def L07_alive_C12 (x12 : Int × List Int × Int × Int) (v6 : Int) (k13 : (List Int × List Int × Int × Int) → Option Bool) : Option Bool :=
  chk (0 ≤ x12.2.2.1 ∧ x12.2.2.1 ≤ v6 ∧ v6 ≤ v6 ∧ v6 ≤ (x12.2.1.length : Int)) <|
  letv ((x12.2.1.take v6.toNat).drop x12.2.2.1.toNat) fun v7 =>
  k13 (v7, x12.2.1, x12.2.2.1, x12.2.2.2)
def L07_alive_C13 (x13 : List Int × List Int × Int × Int) (k14 : (List Int × Int × Int × List Int) → Option Bool) : Option Bool :=
  chk (0 ≤ (0 : Int) ∧ (0 : Int) ≤ (IntKind.i64.wrap (x13.2.2.2 - (x13.1.length : Int))) ∧ (IntKind.i64.wrap (x13.2.2.2 - (x13.1.length : Int))) ≤ (x13.2.1.length : Int)) <|
  chk (x13.1.length + ((x13.2.1.take (IntKind.i64.wrap (x13.2.2.2 - (x13.1.length : Int))).toNat).drop (0 : Int).toNat).length ≤ 4294967296) <|
  letv (x13.1 ++ ((x13.2.1.take (IntKind.i64.wrap (x13.2.2.2 - (x13.1.length : Int))).toNat).drop (0 : Int).toNat)) fun l3 =>
  k14 (x13.2.1, x13.2.2.1, x13.2.2.2, l3)
def L07_alive_R13 (k10 : Bool → Option Bool) (x14 : List Int × Int × Int × List Int) : Option Bool :=
  k10 (decide ((x14.2.2.2.length : Int) = 0))
def L07_alive_R12 (k10 : Bool → Option Bool) (x13 : List Int × List Int × Int × Int) : Option Bool :=
  chk (x13.1.length ≤ 4294967296) <|
  cutv 13 (L07_alive_C13 x13) (L07_alive_R13 k10)
def L07_alive_R11 (k10 : Bool → Option Bool) (x12 : Int × List Int × Int × Int) : Option Bool :=
  bif decide (x12.1 = 1) then
    bif decide (x12.2.2.2 = 0) then
      k10 true
    else
      letv (min (IntKind.i64.wrap (x12.2.2.1 + x12.2.2.2)) (x12.2.1.length : Int)) fun v6 =>
      cutv 12 (L07_alive_C12 x12 v6) (L07_alive_R12 k10)
  else
    k10 false
def L07_alive_R10 (k10 : Bool → Option Bool) (x11 : Int × List Int × Int × Int) : Option Bool :=
  bif decide (x11.1 = 0) then
    cutv 11 (L07_alive_C11 x11) (L07_alive_R11 k10)
  else
    k10 false
def L07_alive_C14 (x9 : Int × Int × Int × Int × Int × Int × Int × Int × List Int × Int × Int) (k10 : Bool → Option Bool) : Option Bool :=
  bif decide (x9.1 = 0) then
    bif decide (x9.2.1 = 10) then
      bif decide (x9.2.2.1 = 5) then
        bif decide (x9.2.2.2.1 = 0) then
          bif decide (x9.2.2.2.2.1 = 5) then
            bif decide (x9.2.2.2.2.2.1 = 0) then
              bif decide (x9.2.2.2.2.2.2.2.1 = 11) then
                cutv 10 (L07_alive_C10 x9) (L07_alive_R10 k10)
              else
                k10 false
            else
              k10 false
          else
            k10 false
        else
          k10 false
      else
        k10 false
    else
      k10 false
  else
    k10 false
def L07_alive_R14 (x10 : Bool) : Option Bool :=
  some x10
def L07_alive_R9 (x9 : Int × Int × Int × Int × Int × Int × Int × Int × List Int × Int × Int) : Option Bool :=
  cutv 14 (L07_alive_C14 x9) L07_alive_R14
def L07_alive_R8 (x8 : Int × Int × Int × Int × Int × Int × List Int × Int × Int) : Option Bool :=
  cutv 9 (L07_alive_C9 x8) L07_alive_R9
def L07_alive_R7 (x6 : Int × Int × Int × Int × List Int × Int) : Option Bool :=
  cutv 8 (L07_alive_C8 x6) L07_alive_R8
def L07_alive_R5 (x4 : Int × Int × List Int × Int) : Option Bool :=
  cutv 7 (L07_alive_C7 x4) L07_alive_R7
def L07_alive_R3 (x2 : Int × List Int × Int) : Option Bool :=
  cutv 5 (L07_alive_C5 x2) L07_alive_R5
def L07_alive_R1 (x1 : List Int) : Option Bool :=
  cutv 3 (L07_alive_C3 x1) L07_alive_R3
def L07_alive : Option Bool :=
  cutv 1 L07_alive_C1 L07_alive_R1
end Go.Proofs.YtoihmfgkmndjfaaV
