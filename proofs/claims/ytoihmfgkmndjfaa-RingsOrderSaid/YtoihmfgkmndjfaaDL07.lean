import Derived.Test.YtoihmfgkmndjfaaVcG1
namespace Go.Proofs.YtoihmfgkmndjfaaV
set_option linter.unusedVariables false
def L07_alive_C1 (k2 : List Int → Option Bool) : Option Bool :=
  chk (((List.replicate (1 : Int).toNat 0).length : Int) ≠ 0) <|
  letv (Int.tmod 0 ((List.replicate (1 : Int).toNat 0).length : Int)) fun v3 =>
  chk (0 ≤ v3 ∧ v3 < ((List.replicate (1 : Int).toNat 0).length : Int)) <|
  letv ((List.replicate (1 : Int).toNat 0).set v3.toNat 6) fun l1 =>
  k2 l1
def L07_alive_R1 (k1 : (Int × Int × List Int × Int) → Option Bool) (x2 : List Int) : Option Bool :=
  k1 (10, 0, x2, 1)
def L07_alive_C2 (k3 : List Int → Option Bool) : Option Bool :=
  chk (((List.replicate (1 : Int).toNat 0).length : Int) ≠ 0) <|
  letv (Int.tmod 0 ((List.replicate (1 : Int).toNat 0).length : Int)) fun v4 =>
  chk (0 ≤ v4 ∧ v4 < ((List.replicate (1 : Int).toNat 0).length : Int)) <|
  letv ((List.replicate (1 : Int).toNat 0).set v4.toNat 5) fun l2 =>
  k3 l2
def L07_alive_C3 (x3 : List Int) (k4 : List Int → Option Bool) : Option Bool :=
  chk ((x3.length : Int) ≠ 0) <|
  chk (0 ≤ (Int.tmod 1 (x3.length : Int)) ∧ (Int.tmod 1 (x3.length : Int)) < (x3.length : Int)) <|
  letv (x3.set (Int.tmod 1 (x3.length : Int)).toNat 6) fun l3 =>
  k4 l3
def L07_alive_R3 (k1 : (Int × Int × List Int × Int) → Option Bool) (x4 : List Int) : Option Bool :=
  k1 (0, 0, x4, 2)
def L07_alive_R2 (k1 : (Int × Int × List Int × Int) → Option Bool) (x3 : List Int) : Option Bool :=
  bif decide (1 = (x3.length : Int)) then
    k1 (0, 10, x3, 1)
  else
    cutv 3 (L07_alive_C3 x3) (L07_alive_R3 k1)
def L07_alive_C4 (k1 : (Int × Int × List Int × Int) → Option Bool) : Option Bool :=
  letv (decide (0 = ((List.replicate (1 : Int).toNat 0).length : Int))) fun v1 =>
  bif v1 then
    letv (decide (0 = ((List.replicate (1 : Int).toNat 0).length : Int))) fun v2 =>
    bif v2 then
      k1 (10, 10, List.replicate (1 : Int).toNat 0, 0)
    else
      cutv 1 L07_alive_C1 (L07_alive_R1 k1)
  else
    cutv 2 L07_alive_C2 (L07_alive_R2 k1)
def L07_alive_C5 (x1 : Int × Int × List Int × Int) (k5 : Unit → Option Bool) : Option Bool :=
  bif decide (x1.1 = 0) then
    bif decide (x1.2.1 = 10) then
      k5 ()
    else
      k5 ()
  else
    k5 ()
def L07_alive_R5 (x5 : Unit) : Option Bool :=
  some false
def L07_alive_C6 (x1 : Int × Int × List Int × Int) (k6 : Unit → Option Bool) : Option Bool :=
  bif decide (x1.1 = 0) then
    bif decide (x1.2.1 = 10) then
      k6 ()
    else
      k6 ()
  else
    k6 ()
def L07_alive_R6 (x6 : Unit) : Option Bool :=
  some false
def L07_alive_C7 (x1 : Int × Int × List Int × Int) (k7 : Unit → Option Bool) : Option Bool :=
  bif decide (x1.1 = 0) then
    bif decide (x1.2.1 = 10) then
      k7 ()
    else
      k7 ()
  else
    k7 ()
def L07_alive_R7 (x7 : Unit) : Option Bool :=
  some false
def L07_alive_C8 (x1 : Int × Int × List Int × Int) (k8 : Unit → Option Bool) : Option Bool :=
  bif decide (x1.1 = 0) then
    bif decide (x1.2.1 = 10) then
      k8 ()
    else
      k8 ()
  else
    k8 ()
def L07_alive_R8 (x8 : Unit) : Option Bool :=
  some false
def L07_alive_C9 (x1 : Int × Int × List Int × Int) (k9 : (Int × List Int × Int) → Option Bool) : Option Bool :=
  chk ((x1.2.2.1.length : Int) ≠ 0) <|
  chk (0 ≤ (Int.tmod 0 (x1.2.2.1.length : Int)) ∧ (Int.tmod 0 (x1.2.2.1.length : Int)) < (x1.2.2.1.length : Int)) <|
  letv (x1.2.2.1.getD (Int.tmod 0 (x1.2.2.1.length : Int)).toNat 0) fun v10 =>
  k9 (v10, x1.2.2.1, x1.2.2.2)
def L07_alive_C10 (x1 : Int × Int × List Int × Int) (x9 : Int × List Int × Int) (k10 : Unit → Option Bool) : Option Bool :=
  bif decide (x1.1 = 0) then
    bif decide (x1.2.1 = 10) then
      bif decide (x9.1 = 5) then
        k10 ()
      else
        k10 ()
    else
      k10 ()
  else
    k10 ()
def L07_alive_R10 (x10 : Unit) : Option Bool :=
  some false
def L07_alive_C11 (x1 : Int × Int × List Int × Int) (x9 : Int × List Int × Int) (k11 : Unit → Option Bool) : Option Bool :=
  bif decide (x1.1 = 0) then
    bif decide (x1.2.1 = 10) then
      bif decide (x9.1 = 5) then
        k11 ()
      else
        k11 ()
    else
      k11 ()
  else
    k11 ()
def L07_alive_R11 (x11 : Unit) : Option Bool :=
  some false
def L07_alive_C12 (v12 : Int) (v15 : Int) (x9 : Int × List Int × Int) (k13 : (List Int × List Int × Int × Int) → Option Bool) : Option Bool :=
  chk (0 ≤ v12 ∧ v12 ≤ v15 ∧ v15 ≤ v15 ∧ v15 ≤ ((x9.2.1.set (0 : Int).toNat 0).length : Int)) <|
  letv (((x9.2.1.set (0 : Int).toNat 0).take v15.toNat).drop v12.toNat) fun v16 =>
  k13 (v16, x9.2.1.set (0 : Int).toNat 0, v12, IntKind.i64.wrap (x9.2.2 - 1))
def L07_alive_C13 (x13 : List Int × List Int × Int × Int) (k14 : (List Int × Int × Int × List Int) → Option Bool) : Option Bool :=
  chk (0 ≤ (0 : Int) ∧ (0 : Int) ≤ (IntKind.i64.wrap (x13.2.2.2 - (x13.1.length : Int))) ∧ (IntKind.i64.wrap (x13.2.2.2 - (x13.1.length : Int))) ≤ (x13.2.1.length : Int)) <|
  chk (x13.1.length + ((x13.2.1.take (IntKind.i64.wrap (x13.2.2.2 - (x13.1.length : Int))).toNat).drop (0 : Int).toNat).length ≤ 4294967296) <|
  letv (x13.1 ++ ((x13.2.1.take (IntKind.i64.wrap (x13.2.2.2 - (x13.1.length : Int))).toNat).drop (0 : Int).toNat)) fun l5 =>
  k14 (x13.2.1, x13.2.2.1, x13.2.2.2, l5)
def L07_alive_R13 (k12 : Bool → Option Bool) (x14 : List Int × Int × Int × List Int) : Option Bool :=
  k12 (decide ((x14.2.2.2.length : Int) = 0))
def L07_alive_R12 (k12 : Bool → Option Bool) (x13 : List Int × List Int × Int × Int) : Option Bool :=
  chk (x13.1.length ≤ 4294967296) <|
  cutv 13 (L07_alive_C13 x13) (L07_alive_R13 k12)
def L07_alive_C14 (x1 : Int × Int × List Int × Int) (x9 : Int × List Int × Int) (v12 : Int) (k12 : Bool → Option Bool) : Option Bool :=
  bif decide (x1.1 = 0) then
    bif decide (x1.2.1 = 10) then
      bif decide (x9.1 = 5) then
        bif decide ((x9.2.1.getD (0 : Int).toNat 0) = 5) then
          bif decide ((IntKind.i64.wrap (x9.2.2 - 1)) = 0) then
            letv (((x9.2.1.set (0 : Int).toNat 0).length : Int)) fun v14 =>
            bif decide (v14 = 1) then
              bif decide ((IntKind.i64.wrap (x9.2.2 - 1)) = 0) then
                k12 true
              else
                letv (min (IntKind.i64.wrap (v12 + (IntKind.i64.wrap (x9.2.2 - 1)))) ((x9.2.1.set (0 : Int).toNat 0).length : Int)) fun v15 =>
                cutv 12 (L07_alive_C12 v12 v15 x9) (L07_alive_R12 k12)
            else
              k12 false
          else
            k12 false
        else
          k12 false
      else
        k12 false
    else
      k12 false
  else
    k12 false
def L07_alive_R14 (x12 : Bool) : Option Bool :=
  some x12
def L07_alive_C15 (x1 : Int × Int × List Int × Int) (x9 : Int × List Int × Int) (k15 : Unit → Option Bool) : Option Bool :=
  bif decide (x1.1 = 0) then
    bif decide (x1.2.1 = 10) then
      bif decide (x9.1 = 5) then
        bif decide ((x9.2.1.getD (0 : Int).toNat 0) = 5) then
          k15 ()
        else
          k15 ()
      else
        k15 ()
    else
      k15 ()
  else
    k15 ()
def L07_alive_R15 (x15 : Unit) : Option Bool :=
  some false
def L07_alive_R9 (x1 : Int × Int × List Int × Int) (x9 : Int × List Int × Int) : Option Bool :=
  bif decide (x9.2.2 = 0) then
    bif decide (x9.2.2 = 0) then
      cutv 10 (L07_alive_C10 x1 x9) L07_alive_R10
    else
      chk (0 ≤ (0 : Int) ∧ (0 : Int) < (x9.2.1.length : Int)) <|
      chk (0 ≤ (0 : Int) ∧ (0 : Int) < (x9.2.1.length : Int)) <|
      chk (((x9.2.1.set (0 : Int).toNat 0).length : Int) ≠ 0) <|
      letv (Int.tmod 1 ((x9.2.1.set (0 : Int).toNat 0).length : Int)) fun v11 =>
      cutv 11 (L07_alive_C11 x1 x9) L07_alive_R11
  else
    chk (0 ≤ (0 : Int) ∧ (0 : Int) < (x9.2.1.length : Int)) <|
    chk (0 ≤ (0 : Int) ∧ (0 : Int) < (x9.2.1.length : Int)) <|
    chk (((x9.2.1.set (0 : Int).toNat 0).length : Int) ≠ 0) <|
    letv (Int.tmod 1 ((x9.2.1.set (0 : Int).toNat 0).length : Int)) fun v12 =>
    letv (decide ((IntKind.i64.wrap (x9.2.2 - 1)) = 0)) fun v13 =>
    bif v13 then
      cutv 14 (L07_alive_C14 x1 x9 v12) L07_alive_R14
    else
      chk (0 ≤ v12 ∧ v12 < ((x9.2.1.set (0 : Int).toNat 0).length : Int)) <|
      letv ((x9.2.1.set (0 : Int).toNat 0).getD v12.toNat 0) fun v17 =>
      chk (0 ≤ v12 ∧ v12 < ((x9.2.1.set (0 : Int).toNat 0).length : Int)) <|
      letv ((x9.2.1.set (0 : Int).toNat 0).set v12.toNat 0) fun l6 =>
      chk ((l6.length : Int) ≠ 0) <|
      letv (Int.tmod (IntKind.i64.wrap (v12 + 1)) (l6.length : Int)) fun v18 =>
      cutv 15 (L07_alive_C15 x1 x9) L07_alive_R15
def L07_alive_R4 (x1 : Int × Int × List Int × Int) : Option Bool :=
  bif decide (0 ≥ x1.2.2.2) then
    bif decide (x1.2.2.2 = 0) then
      bif decide (x1.2.2.2 = 0) then
        cutv 5 (L07_alive_C5 x1) L07_alive_R5
      else
        chk (0 ≤ (0 : Int) ∧ (0 : Int) < (x1.2.2.1.length : Int)) <|
        chk (0 ≤ (0 : Int) ∧ (0 : Int) < (x1.2.2.1.length : Int)) <|
        chk (((x1.2.2.1.set (0 : Int).toNat 0).length : Int) ≠ 0) <|
        letv (Int.tmod 1 ((x1.2.2.1.set (0 : Int).toNat 0).length : Int)) fun v5 =>
        cutv 6 (L07_alive_C6 x1) L07_alive_R6
    else
      chk (0 ≤ (0 : Int) ∧ (0 : Int) < (x1.2.2.1.length : Int)) <|
      chk (0 ≤ (0 : Int) ∧ (0 : Int) < (x1.2.2.1.length : Int)) <|
      chk (((x1.2.2.1.set (0 : Int).toNat 0).length : Int) ≠ 0) <|
      letv (Int.tmod 1 ((x1.2.2.1.set (0 : Int).toNat 0).length : Int)) fun v6 =>
      letv (decide ((IntKind.i64.wrap (x1.2.2.2 - 1)) = 0)) fun v7 =>
      bif v7 then
        cutv 7 (L07_alive_C7 x1) L07_alive_R7
      else
        chk (0 ≤ v6 ∧ v6 < ((x1.2.2.1.set (0 : Int).toNat 0).length : Int)) <|
        letv ((x1.2.2.1.set (0 : Int).toNat 0).getD v6.toNat 0) fun v8 =>
        chk (0 ≤ v6 ∧ v6 < ((x1.2.2.1.set (0 : Int).toNat 0).length : Int)) <|
        letv ((x1.2.2.1.set (0 : Int).toNat 0).set v6.toNat 0) fun l4 =>
        chk ((l4.length : Int) ≠ 0) <|
        letv (Int.tmod (IntKind.i64.wrap (v6 + 1)) (l4.length : Int)) fun v9 =>
        cutv 8 (L07_alive_C8 x1) L07_alive_R8
  else
    cutv 9 (L07_alive_C9 x1) (L07_alive_R9 x1)
def L07_alive : Option Bool :=
  chk ((1 : Int) = (1 : Int) ∧ 0 ≤ (1 : Int) ∧ (1 : Int) ≤ 4294967296) <|
  cutv 4 L07_alive_C4 L07_alive_R4
def L07_RingsOrder_J1 : Option Bool :=
  Option.bind (L07_alive) fun r3 =>
  some r3
def L07_RingsOrder_C1 (x1 : List Bool × Int × List Int × Int × Int × List Int × List Int × Int × Int) (k3 : (List Int × List Int × Int × Int) → Option Bool) : Option Bool :=
  chk ((x1.2.2.2.2.2.2.1.length : Int) ≠ 0) <|
  letv (Int.tmod (IntKind.i64.wrap (x1.2.2.2.2.2.2.2.1 + x1.2.2.2.2.2.2.2.2)) (x1.2.2.2.2.2.2.1.length : Int)) fun v5 =>
  chk (0 ≤ v5 ∧ v5 < (x1.2.2.2.2.2.2.1.length : Int)) <|
  letv (x1.2.2.2.2.2.2.1.set v5.toNat (IntKind.i64.wrap (x1.2.2.1.getD x1.2.2.2.2.1.toNat 0))) fun l3 =>
  k3 (x1.2.2.2.2.2.1, l3, x1.2.2.2.2.2.2.2.1, x1.2.2.2.2.2.2.2.2)
def L07_RingsOrder_R1 (x1 : List Bool × Int × List Int × Int × Int × List Int × List Int × Int × Int) (k2 : (List Bool × Int × List Int × Int × Int × List Int × List Int × Int × Int) → Option Bool) (x3 : List Int × List Int × Int × Int) : Option Bool :=
  letv ([IntKind.i64.wrap (x1.2.2.1.getD x1.2.2.2.2.1.toNat 0)]) fun l4 =>
  chk (x3.1.length + l4.length ≤ 4294967296) <|
  bif decide (x1.2.2.2.2.1 < (x1.1.length : Int)) then
    chk (0 ≤ x1.2.2.2.2.1 ∧ x1.2.2.2.2.1 < (x1.1.length : Int)) <|
    bif x1.1.getD x1.2.2.2.2.1.toNat false then
      letv (decide ((IntKind.i64.wrap (x3.2.2.2 + 1)) = 0)) fun v6 =>
      bif v6 then
        some false
      else
        chk (0 ≤ x3.2.2.1 ∧ x3.2.2.1 < (x3.2.1.length : Int)) <|
        chk (0 ≤ x3.2.2.1 ∧ x3.2.2.1 < (x3.2.1.length : Int)) <|
        chk (((x3.2.1.set x3.2.2.1.toNat 0).length : Int) ≠ 0) <|
        letv (Int.tmod (IntKind.i64.wrap (x3.2.2.1 + 1)) ((x3.2.1.set x3.2.2.1.toNat 0).length : Int)) fun v7 =>
        bif decide (x1.2.1 ≥ ((x3.1 ++ l4).length : Int)) then
          some false
        else
          chk (0 ≤ x1.2.1 ∧ x1.2.1 < ((x3.1 ++ l4).length : Int)) <|
          bif !decide ((x3.2.1.getD x3.2.2.1.toNat 0) = ((x3.1 ++ l4).getD x1.2.1.toNat 0)) then
            some false
          else
            letv (IntKind.i64.wrap ((IntKind.i64.wrap (x3.2.2.2 + 1)) - 1)) fun v8 =>
            bif !decide (v8 = (IntKind.i64.wrap (((x3.1 ++ l4).length : Int) - (IntKind.i64.wrap (x1.2.1 + 1))))) then
              some false
            else
              letv (((x3.2.1.set x3.2.2.1.toNat 0).length : Int)) fun v9 =>
              bif decide (v8 > v9) then
                some false
              else
                k2 (x1.1, IntKind.i64.wrap (x1.2.1 + 1), x1.2.2.1, x1.2.2.2.1, x1.2.2.2.2.1, x3.1 ++ l4, x3.2.1.set x3.2.2.1.toNat 0, v7, v8)
    else
      bif !decide ((IntKind.i64.wrap (x3.2.2.2 + 1)) = (IntKind.i64.wrap (((x3.1 ++ l4).length : Int) - x1.2.1))) then
        some false
      else
        bif decide ((IntKind.i64.wrap (x3.2.2.2 + 1)) > (x3.2.1.length : Int)) then
          some false
        else
          k2 (x1.1, x1.2.1, x1.2.2.1, x1.2.2.2.1, x1.2.2.2.2.1, x3.1 ++ l4, x3.2.1, x3.2.2.1, IntKind.i64.wrap (x3.2.2.2 + 1))
  else
    bif !decide ((IntKind.i64.wrap (x3.2.2.2 + 1)) = (IntKind.i64.wrap (((x3.1 ++ l4).length : Int) - x1.2.1))) then
      some false
    else
      bif decide ((IntKind.i64.wrap (x3.2.2.2 + 1)) > (x3.2.1.length : Int)) then
        some false
      else
        k2 (x1.1, x1.2.1, x1.2.2.1, x1.2.2.2.1, x1.2.2.2.2.1, x3.1 ++ l4, x3.2.1, x3.2.2.1, IntKind.i64.wrap (x3.2.2.2 + 1))
def L07_RingsOrder_C2 (x1 : List Bool × Int × List Int × Int × Int × List Int × List Int × Int × Int) (k2 : (List Bool × Int × List Int × Int × Int × List Int × List Int × Int × Int) → Option Bool) : Option Bool :=
  chk (0 ≤ x1.2.2.2.2.1 ∧ x1.2.2.2.2.1 < (x1.2.2.1.length : Int)) <|
  letv (decide (x1.2.2.2.2.2.2.2.2 = (x1.2.2.2.2.2.2.1.length : Int))) fun v1 =>
  bif v1 then
    bif decide (x1.2.2.2.2.1 < (x1.1.length : Int)) then
      chk (0 ≤ x1.2.2.2.2.1 ∧ x1.2.2.2.2.1 < (x1.1.length : Int)) <|
      bif x1.1.getD x1.2.2.2.2.1.toNat false then
        bif decide (x1.2.2.2.2.2.2.2.2 = 0) then
          some false
        else
          chk (0 ≤ x1.2.2.2.2.2.2.2.1 ∧ x1.2.2.2.2.2.2.2.1 < (x1.2.2.2.2.2.2.1.length : Int)) <|
          letv (x1.2.2.2.2.2.2.1.getD x1.2.2.2.2.2.2.2.1.toNat 0) fun v2 =>
          chk (0 ≤ x1.2.2.2.2.2.2.2.1 ∧ x1.2.2.2.2.2.2.2.1 < (x1.2.2.2.2.2.2.1.length : Int)) <|
          letv (x1.2.2.2.2.2.2.1.set x1.2.2.2.2.2.2.2.1.toNat 0) fun l2 =>
          chk ((l2.length : Int) ≠ 0) <|
          letv (Int.tmod (IntKind.i64.wrap (x1.2.2.2.2.2.2.2.1 + 1)) (l2.length : Int)) fun v3 =>
          bif decide (x1.2.1 ≥ (x1.2.2.2.2.2.1.length : Int)) then
            some false
          else
            chk (0 ≤ x1.2.1 ∧ x1.2.1 < (x1.2.2.2.2.2.1.length : Int)) <|
            bif !decide (v2 = (x1.2.2.2.2.2.1.getD x1.2.1.toNat 0)) then
              some false
            else
              letv (IntKind.i64.wrap (x1.2.2.2.2.2.2.2.2 - 1)) fun v4 =>
              bif !decide (v4 = (IntKind.i64.wrap ((x1.2.2.2.2.2.1.length : Int) - (IntKind.i64.wrap (x1.2.1 + 1))))) then
                some false
              else
                bif decide (v4 > (l2.length : Int)) then
                  some false
                else
                  k2 (x1.1, IntKind.i64.wrap (x1.2.1 + 1), x1.2.2.1, x1.2.2.2.1, x1.2.2.2.2.1, x1.2.2.2.2.2.1, l2, v3, v4)
      else
        bif !decide (x1.2.2.2.2.2.2.2.2 = (IntKind.i64.wrap ((x1.2.2.2.2.2.1.length : Int) - x1.2.1))) then
          some false
        else
          bif decide (x1.2.2.2.2.2.2.2.2 > (x1.2.2.2.2.2.2.1.length : Int)) then
            some false
          else
            k2 (x1.1, x1.2.1, x1.2.2.1, x1.2.2.2.1, x1.2.2.2.2.1, x1.2.2.2.2.2.1, x1.2.2.2.2.2.2.1, x1.2.2.2.2.2.2.2.1, x1.2.2.2.2.2.2.2.2)
    else
      bif !decide (x1.2.2.2.2.2.2.2.2 = (IntKind.i64.wrap ((x1.2.2.2.2.2.1.length : Int) - x1.2.1))) then
        some false
      else
        bif decide (x1.2.2.2.2.2.2.2.2 > (x1.2.2.2.2.2.2.1.length : Int)) then
          some false
        else
          k2 (x1.1, x1.2.1, x1.2.2.1, x1.2.2.2.1, x1.2.2.2.2.1, x1.2.2.2.2.2.1, x1.2.2.2.2.2.2.1, x1.2.2.2.2.2.2.2.1, x1.2.2.2.2.2.2.2.2)
  else
    cutv 1 (L07_RingsOrder_C1 x1) (L07_RingsOrder_R1 x1 k2)
def L07_RingsOrder_R2 (k1 : (List Bool × Int × List Int × Int × Int × List Int × List Int × Int × Int) → Option Bool) (x2 : List Bool × Int × List Int × Int × Int × List Int × List Int × Int × Int) : Option Bool :=
  k1 (x2.1, x2.2.1, x2.2.2.1, x2.2.2.2.1, IntKind.i64.wrap (x2.2.2.2.2.1 + 1), x2.2.2.2.2.2.1, x2.2.2.2.2.2.2.1, x2.2.2.2.2.2.2.2.1, x2.2.2.2.2.2.2.2.2)
def L07_RingsOrder_L1 (k1 : (List Bool × Int × List Int × Int × Int × List Int × List Int × Int × Int) → Option Bool) (x1 : List Bool × Int × List Int × Int × Int × List Int × List Int × Int × Int) : Option Bool :=
  bif decide (x1.2.2.2.2.1 < x1.2.2.2.1) then
    cutv 2 (L07_RingsOrder_C2 x1) (L07_RingsOrder_R2 k1)
  else
    L07_RingsOrder_J1
def L07_RingsOrder (a0 : Int) (a1 : List Int) (a2 : List Bool) : Option Bool :=
  chk ((16 : Int) ≠ 0) <|
  bif decide ((IntKind.i64.wrap (1 + (IntKind.i64.wrap (Int.tmod a0 16)))) < 0) then
    some false
  else
    bif decide ((IntKind.i64.wrap (1 + (IntKind.i64.wrap (Int.tmod a0 16)))) > 1024) then
      some false
    else
      chk ((IntKind.i64.wrap (1 + (IntKind.i64.wrap (Int.tmod a0 16)))) = (IntKind.i64.wrap (1 + (IntKind.i64.wrap (Int.tmod a0 16)))) ∧ 0 ≤ (IntKind.i64.wrap (1 + (IntKind.i64.wrap (Int.tmod a0 16)))) ∧ (IntKind.i64.wrap (1 + (IntKind.i64.wrap (Int.tmod a0 16)))) ≤ 4294967296) <|
      letv (List.replicate (IntKind.i64.wrap (1 + (IntKind.i64.wrap (Int.tmod a0 16)))).toNat 0) fun l1 =>
      bif decide ((a1.length : Int) > 200) then
        Option.bind (L07_alive) fun r1 =>
        some r1
      else
        bif decide ((a2.length : Int) > 200) then
          Option.bind (L07_alive) fun r2 =>
          some r2
        else
          loop L07_RingsOrder_L1 (a2, 0, a1, (a1.length : Int), 0, [], l1, 0, 0)
end Go.Proofs.YtoihmfgkmndjfaaV
