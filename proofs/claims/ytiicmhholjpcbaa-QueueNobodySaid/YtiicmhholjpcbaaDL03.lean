import Derived.Test.YtiicmhholjpcbaaVcG1
namespace Go.Proofs.YtiicmhholjpcbaaV
set_option linter.unusedVariables false
def L03_alive_J1 (k1 : ((List (Int × Int × Unit)) × Int × Int × Int × (List (Int × Int × Int × Unit))) → Option Bool) (p1 : List (Int × Int × Int × Unit)) (p2 : List (Int × Int × Unit)) (p3 : Int) (p4 : Int) (p5 : Int) : Option Bool :=
  k1 (p2, p3, p4, p5, p1)
def L03_alive_L1 (p6 : Int) (k1 : ((List (Int × Int × Unit)) × Int × Int × Int × (List (Int × Int × Int × Unit))) → Option Bool) (p1 : List (Int × Int × Int × Unit)) (k2 : (Int × (List (Int × Int × Unit)) × Int × Int × Int) → Option Bool) (x2 : Int × (List (Int × Int × Unit)) × Int × Int × Int) : Option Bool :=
  bif decide (x2.1 < p6) then
    chk (0 ≤ x2.1 ∧ x2.1 < (x2.2.1.length : Int)) <|
    letv (x2.2.1.set x2.1.toNat ((x2.2.1.getD x2.1.toNat (0, 0, ())).1, (-1), ())) fun l2 =>
    bif decide (x2.2.2.2.2 = 0) then
      k2 (IntKind.i64.wrap (x2.1 + 1), l2, x2.1, x2.1, IntKind.i64.wrap (x2.2.2.2.2 + 1))
    else
      chk (0 ≤ x2.2.2.2.1 ∧ x2.2.2.2.1 < (l2.length : Int)) <|
      letv (l2.set x2.2.2.2.1.toNat ((l2.getD x2.2.2.2.1.toNat (0, 0, ())).1, x2.1, ())) fun l3 =>
      k2 (IntKind.i64.wrap (x2.1 + 1), l3, x2.2.2.1, x2.1, IntKind.i64.wrap (x2.2.2.2.2 + 1))
  else
    L03_alive_J1 k1 p1 x2.2.1 x2.2.2.1 x2.2.2.2.1 x2.2.2.2.2
def L03_alive_J2 (l1 : List (Int × Int × Unit)) (k1 : ((List (Int × Int × Unit)) × Int × Int × Int × (List (Int × Int × Int × Unit))) → Option Bool) (p1 : List (Int × Int × Int × Unit)) : Option Bool :=
  loop (L03_alive_L1 (l1.length : Int) k1 p1) (0, l1, (-1), (-1), 0)
def L03_alive_L2 (l1 : List (Int × Int × Unit)) (k1 : ((List (Int × Int × Unit)) × Int × Int × Int × (List (Int × Int × Int × Unit))) → Option Bool) (k3 : (Int × (List (Int × Int × Int × Unit))) → Option Bool) (x3 : Int × (List (Int × Int × Int × Unit))) : Option Bool :=
  bif decide (x3.1 < 2) then
    chk (x3.2.length + ([((-1), (-1), 0, ())] : List (Int × Int × Int × Unit)).length ≤ 4294967296) <|
    k3 (IntKind.i64.wrap (x3.1 + 1), x3.2 ++ [((-1), (-1), 0, ())])
  else
    L03_alive_J2 l1 k1 x3.2
def L03_alive_C1 (k1 : ((List (Int × Int × Unit)) × Int × Int × Int × (List (Int × Int × Int × Unit))) → Option Bool) : Option Bool :=
  chk ((3 : Int) = (3 : Int) ∧ 0 ≤ (3 : Int) ∧ (3 : Int) ≤ 4294967296) <|
  letv (List.replicate (3 : Int).toNat (0, 0, ())) fun l1 =>
  loop (L03_alive_L2 l1 k1) (0, [])
def L03_alive_C2 (x1 : (List (Int × Int × Unit)) × Int × Int × Int × (List (Int × Int × Int × Unit))) (k4 : (Int × (List (Int × Int × Unit)) × Int × Int × Int × (List (Int × Int × Int × Unit))) → Option Bool) : Option Bool :=
  letv (!(decide ((x1.2.2.2.2.length : Int) > 0))) fun v1 =>
  bif v1 then
    k4 (2, x1.1, x1.2.1, x1.2.2.1, x1.2.2.2.1, x1.2.2.2.2)
  else
    bif decide (0 ≥ (x1.2.2.2.2.length : Int)) then
      k4 (8, x1.1, x1.2.1, x1.2.2.1, x1.2.2.2.1, x1.2.2.2.2)
    else
      chk (0 ≤ (0 : Int) ∧ (0 : Int) < (x1.2.2.2.2.length : Int)) <|
      bif decide (x1.2.2.2.1 = 0) then
        k4 (10, x1.1, x1.2.1, x1.2.2.1, x1.2.2.2.1, x1.2.2.2.2)
      else
        chk (0 ≤ x1.2.1 ∧ x1.2.1 < (x1.1.length : Int)) <|
        bif decide (x1.2.2.1 = x1.2.1) then
          chk (0 ≤ x1.2.1 ∧ x1.2.1 < (x1.1.length : Int)) <|
          letv (x1.1.set x1.2.1.toNat (5, (x1.1.getD x1.2.1.toNat (0, 0, ())).2.1, ())) fun l4 =>
          chk (0 ≤ x1.2.1 ∧ x1.2.1 < (l4.length : Int)) <|
          letv (l4.set x1.2.1.toNat ((l4.getD x1.2.1.toNat (0, 0, ())).1, (-1), ())) fun l5 =>
          bif decide ((x1.2.2.2.2.getD (0 : Int).toNat (0, 0, 0, ())).2.2.1 = 0) then
            letv (x1.2.2.2.2.set (0 : Int).toNat (x1.2.1, (x1.2.2.2.2.getD (0 : Int).toNat (0, 0, 0, ())).2.1, (x1.2.2.2.2.getD (0 : Int).toNat (0, 0, 0, ())).2.2.1, ())) fun l6 =>
            letv (l6.set (0 : Int).toNat ((l6.getD (0 : Int).toNat (0, 0, 0, ())).1, x1.2.1, (l6.getD (0 : Int).toNat (0, 0, 0, ())).2.2.1, ())) fun l7 =>
            letv (l7.set (0 : Int).toNat ((l7.getD (0 : Int).toNat (0, 0, 0, ())).1, (l7.getD (0 : Int).toNat (0, 0, 0, ())).2.1, IntKind.i64.wrap ((l7.getD (0 : Int).toNat (0, 0, 0, ())).2.2.1 + 1), ())) fun l8 =>
            k4 (0, l5, (x1.1.getD x1.2.1.toNat (0, 0, ())).2.1, (-1), IntKind.i64.wrap (x1.2.2.2.1 - 1), l8)
          else
            chk (0 ≤ (x1.2.2.2.2.getD (0 : Int).toNat (0, 0, 0, ())).2.1 ∧ (x1.2.2.2.2.getD (0 : Int).toNat (0, 0, 0, ())).2.1 < (l5.length : Int)) <|
            letv (l5.set (x1.2.2.2.2.getD (0 : Int).toNat (0, 0, 0, ())).2.1.toNat ((l5.getD (x1.2.2.2.2.getD (0 : Int).toNat (0, 0, 0, ())).2.1.toNat (0, 0, ())).1, x1.2.1, ())) fun l9 =>
            letv (x1.2.2.2.2.set (0 : Int).toNat ((x1.2.2.2.2.getD (0 : Int).toNat (0, 0, 0, ())).1, x1.2.1, (x1.2.2.2.2.getD (0 : Int).toNat (0, 0, 0, ())).2.2.1, ())) fun l10 =>
            letv (l10.set (0 : Int).toNat ((l10.getD (0 : Int).toNat (0, 0, 0, ())).1, (l10.getD (0 : Int).toNat (0, 0, 0, ())).2.1, IntKind.i64.wrap ((l10.getD (0 : Int).toNat (0, 0, 0, ())).2.2.1 + 1), ())) fun l11 =>
            k4 (0, l9, (x1.1.getD x1.2.1.toNat (0, 0, ())).2.1, (-1), IntKind.i64.wrap (x1.2.2.2.1 - 1), l11)
        else
          chk (0 ≤ x1.2.1 ∧ x1.2.1 < (x1.1.length : Int)) <|
          letv (x1.1.set x1.2.1.toNat (5, (x1.1.getD x1.2.1.toNat (0, 0, ())).2.1, ())) fun l12 =>
          chk (0 ≤ x1.2.1 ∧ x1.2.1 < (l12.length : Int)) <|
          letv (l12.set x1.2.1.toNat ((l12.getD x1.2.1.toNat (0, 0, ())).1, (-1), ())) fun l13 =>
          bif decide ((x1.2.2.2.2.getD (0 : Int).toNat (0, 0, 0, ())).2.2.1 = 0) then
            letv (x1.2.2.2.2.set (0 : Int).toNat (x1.2.1, (x1.2.2.2.2.getD (0 : Int).toNat (0, 0, 0, ())).2.1, (x1.2.2.2.2.getD (0 : Int).toNat (0, 0, 0, ())).2.2.1, ())) fun l14 =>
            letv (l14.set (0 : Int).toNat ((l14.getD (0 : Int).toNat (0, 0, 0, ())).1, x1.2.1, (l14.getD (0 : Int).toNat (0, 0, 0, ())).2.2.1, ())) fun l15 =>
            letv (l15.set (0 : Int).toNat ((l15.getD (0 : Int).toNat (0, 0, 0, ())).1, (l15.getD (0 : Int).toNat (0, 0, 0, ())).2.1, IntKind.i64.wrap ((l15.getD (0 : Int).toNat (0, 0, 0, ())).2.2.1 + 1), ())) fun l16 =>
            k4 (0, l13, (x1.1.getD x1.2.1.toNat (0, 0, ())).2.1, x1.2.2.1, IntKind.i64.wrap (x1.2.2.2.1 - 1), l16)
          else
            chk (0 ≤ (x1.2.2.2.2.getD (0 : Int).toNat (0, 0, 0, ())).2.1 ∧ (x1.2.2.2.2.getD (0 : Int).toNat (0, 0, 0, ())).2.1 < (l13.length : Int)) <|
            letv (l13.set (x1.2.2.2.2.getD (0 : Int).toNat (0, 0, 0, ())).2.1.toNat ((l13.getD (x1.2.2.2.2.getD (0 : Int).toNat (0, 0, 0, ())).2.1.toNat (0, 0, ())).1, x1.2.1, ())) fun l17 =>
            letv (x1.2.2.2.2.set (0 : Int).toNat ((x1.2.2.2.2.getD (0 : Int).toNat (0, 0, 0, ())).1, x1.2.1, (x1.2.2.2.2.getD (0 : Int).toNat (0, 0, 0, ())).2.2.1, ())) fun l18 =>
            letv (l18.set (0 : Int).toNat ((l18.getD (0 : Int).toNat (0, 0, 0, ())).1, (l18.getD (0 : Int).toNat (0, 0, 0, ())).2.1, IntKind.i64.wrap ((l18.getD (0 : Int).toNat (0, 0, 0, ())).2.2.1 + 1), ())) fun l19 =>
            k4 (0, l17, (x1.1.getD x1.2.1.toNat (0, 0, ())).2.1, x1.2.2.1, IntKind.i64.wrap (x1.2.2.2.1 - 1), l19)
def L03_alive_C3 (x4 : Int × (List (Int × Int × Unit)) × Int × Int × Int × (List (Int × Int × Int × Unit))) (k5 : (Int × Int × (List (Int × Int × Unit)) × Int × Int × Int × (List (Int × Int × Int × Unit))) → Option Bool) : Option Bool :=
  letv (!(decide ((x4.2.2.2.2.2.length : Int) > 0))) fun v2 =>
  bif v2 then
    k5 (x4.1, 2, x4.2.1, x4.2.2.1, x4.2.2.2.1, x4.2.2.2.2.1, x4.2.2.2.2.2)
  else
    bif decide (0 ≥ (x4.2.2.2.2.2.length : Int)) then
      k5 (x4.1, 8, x4.2.1, x4.2.2.1, x4.2.2.2.1, x4.2.2.2.2.1, x4.2.2.2.2.2)
    else
      chk (0 ≤ (0 : Int) ∧ (0 : Int) < (x4.2.2.2.2.2.length : Int)) <|
      bif decide (x4.2.2.2.2.1 = 0) then
        k5 (x4.1, 10, x4.2.1, x4.2.2.1, x4.2.2.2.1, x4.2.2.2.2.1, x4.2.2.2.2.2)
      else
        chk (0 ≤ x4.2.2.1 ∧ x4.2.2.1 < (x4.2.1.length : Int)) <|
        letv ((x4.2.1.getD x4.2.2.1.toNat (0, 0, ())).2.1) fun v3 =>
        bif decide (x4.2.2.2.1 = x4.2.2.1) then
          chk (0 ≤ x4.2.2.1 ∧ x4.2.2.1 < (x4.2.1.length : Int)) <|
          letv (x4.2.1.set x4.2.2.1.toNat (6, (x4.2.1.getD x4.2.2.1.toNat (0, 0, ())).2.1, ())) fun l20 =>
          chk (0 ≤ x4.2.2.1 ∧ x4.2.2.1 < (l20.length : Int)) <|
          letv (l20.set x4.2.2.1.toNat ((l20.getD x4.2.2.1.toNat (0, 0, ())).1, (-1), ())) fun l21 =>
          bif decide ((x4.2.2.2.2.2.getD (0 : Int).toNat (0, 0, 0, ())).2.2.1 = 0) then
            letv (x4.2.2.2.2.2.set (0 : Int).toNat (x4.2.2.1, (x4.2.2.2.2.2.getD (0 : Int).toNat (0, 0, 0, ())).2.1, (x4.2.2.2.2.2.getD (0 : Int).toNat (0, 0, 0, ())).2.2.1, ())) fun l22 =>
            letv (l22.set (0 : Int).toNat ((l22.getD (0 : Int).toNat (0, 0, 0, ())).1, x4.2.2.1, (l22.getD (0 : Int).toNat (0, 0, 0, ())).2.2.1, ())) fun l23 =>
            letv (l23.set (0 : Int).toNat ((l23.getD (0 : Int).toNat (0, 0, 0, ())).1, (l23.getD (0 : Int).toNat (0, 0, 0, ())).2.1, IntKind.i64.wrap ((l23.getD (0 : Int).toNat (0, 0, 0, ())).2.2.1 + 1), ())) fun l24 =>
            k5 (x4.1, 0, l21, v3, (-1), IntKind.i64.wrap (x4.2.2.2.2.1 - 1), l24)
          else
            chk (0 ≤ (x4.2.2.2.2.2.getD (0 : Int).toNat (0, 0, 0, ())).2.1 ∧ (x4.2.2.2.2.2.getD (0 : Int).toNat (0, 0, 0, ())).2.1 < (l21.length : Int)) <|
            letv (l21.set (x4.2.2.2.2.2.getD (0 : Int).toNat (0, 0, 0, ())).2.1.toNat ((l21.getD (x4.2.2.2.2.2.getD (0 : Int).toNat (0, 0, 0, ())).2.1.toNat (0, 0, ())).1, x4.2.2.1, ())) fun l25 =>
            letv (x4.2.2.2.2.2.set (0 : Int).toNat ((x4.2.2.2.2.2.getD (0 : Int).toNat (0, 0, 0, ())).1, x4.2.2.1, (x4.2.2.2.2.2.getD (0 : Int).toNat (0, 0, 0, ())).2.2.1, ())) fun l26 =>
            letv (l26.set (0 : Int).toNat ((l26.getD (0 : Int).toNat (0, 0, 0, ())).1, (l26.getD (0 : Int).toNat (0, 0, 0, ())).2.1, IntKind.i64.wrap ((l26.getD (0 : Int).toNat (0, 0, 0, ())).2.2.1 + 1), ())) fun l27 =>
            k5 (x4.1, 0, l25, v3, (-1), IntKind.i64.wrap (x4.2.2.2.2.1 - 1), l27)
        else
          chk (0 ≤ x4.2.2.1 ∧ x4.2.2.1 < (x4.2.1.length : Int)) <|
          letv (x4.2.1.set x4.2.2.1.toNat (6, (x4.2.1.getD x4.2.2.1.toNat (0, 0, ())).2.1, ())) fun l28 =>
          chk (0 ≤ x4.2.2.1 ∧ x4.2.2.1 < (l28.length : Int)) <|
          letv (l28.set x4.2.2.1.toNat ((l28.getD x4.2.2.1.toNat (0, 0, ())).1, (-1), ())) fun l29 =>
          bif decide ((x4.2.2.2.2.2.getD (0 : Int).toNat (0, 0, 0, ())).2.2.1 = 0) then
            letv (x4.2.2.2.2.2.set (0 : Int).toNat (x4.2.2.1, (x4.2.2.2.2.2.getD (0 : Int).toNat (0, 0, 0, ())).2.1, (x4.2.2.2.2.2.getD (0 : Int).toNat (0, 0, 0, ())).2.2.1, ())) fun l30 =>
            letv (l30.set (0 : Int).toNat ((l30.getD (0 : Int).toNat (0, 0, 0, ())).1, x4.2.2.1, (l30.getD (0 : Int).toNat (0, 0, 0, ())).2.2.1, ())) fun l31 =>
            letv (l31.set (0 : Int).toNat ((l31.getD (0 : Int).toNat (0, 0, 0, ())).1, (l31.getD (0 : Int).toNat (0, 0, 0, ())).2.1, IntKind.i64.wrap ((l31.getD (0 : Int).toNat (0, 0, 0, ())).2.2.1 + 1), ())) fun l32 =>
            k5 (x4.1, 0, l29, v3, x4.2.2.2.1, IntKind.i64.wrap (x4.2.2.2.2.1 - 1), l32)
          else
            chk (0 ≤ (x4.2.2.2.2.2.getD (0 : Int).toNat (0, 0, 0, ())).2.1 ∧ (x4.2.2.2.2.2.getD (0 : Int).toNat (0, 0, 0, ())).2.1 < (l29.length : Int)) <|
            letv (l29.set (x4.2.2.2.2.2.getD (0 : Int).toNat (0, 0, 0, ())).2.1.toNat ((l29.getD (x4.2.2.2.2.2.getD (0 : Int).toNat (0, 0, 0, ())).2.1.toNat (0, 0, ())).1, x4.2.2.1, ())) fun l33 =>
            letv (x4.2.2.2.2.2.set (0 : Int).toNat ((x4.2.2.2.2.2.getD (0 : Int).toNat (0, 0, 0, ())).1, x4.2.2.1, (x4.2.2.2.2.2.getD (0 : Int).toNat (0, 0, 0, ())).2.2.1, ())) fun l34 =>
            letv (l34.set (0 : Int).toNat ((l34.getD (0 : Int).toNat (0, 0, 0, ())).1, (l34.getD (0 : Int).toNat (0, 0, 0, ())).2.1, IntKind.i64.wrap ((l34.getD (0 : Int).toNat (0, 0, 0, ())).2.2.1 + 1), ())) fun l35 =>
            k5 (x4.1, 0, l33, v3, x4.2.2.2.1, IntKind.i64.wrap (x4.2.2.2.2.1 - 1), l35)
def L03_alive_C4 (x5 : Int × Int × (List (Int × Int × Unit)) × Int × Int × Int × (List (Int × Int × Int × Unit))) (k6 : (Int × Int × Int × (List (Int × Int × Unit)) × Int × Int × Int × (List (Int × Int × Int × Unit))) → Option Bool) : Option Bool :=
  letv (decide ((x5.2.2.2.2.2.2.length : Int) > 0)) fun v4 =>
  bif !v4 then
    k6 (x5.1, x5.2.1, 2, x5.2.2.1, x5.2.2.2.1, x5.2.2.2.2.1, x5.2.2.2.2.2.1, x5.2.2.2.2.2.2)
  else
    letv (decide (1 ≥ (x5.2.2.2.2.2.2.length : Int))) fun v5 =>
    bif v5 then
      k6 (x5.1, x5.2.1, 8, x5.2.2.1, x5.2.2.2.1, x5.2.2.2.2.1, x5.2.2.2.2.2.1, x5.2.2.2.2.2.2)
    else
      chk (0 ≤ (1 : Int) ∧ (1 : Int) < (x5.2.2.2.2.2.2.length : Int)) <|
      bif decide (x5.2.2.2.2.2.1 = 0) then
        k6 (x5.1, x5.2.1, 10, x5.2.2.1, x5.2.2.2.1, x5.2.2.2.2.1, x5.2.2.2.2.2.1, x5.2.2.2.2.2.2)
      else
        chk (0 ≤ x5.2.2.2.1 ∧ x5.2.2.2.1 < (x5.2.2.1.length : Int)) <|
        letv ((x5.2.2.1.getD x5.2.2.2.1.toNat (0, 0, ())).2.1) fun v6 =>
        bif decide (x5.2.2.2.2.1 = x5.2.2.2.1) then
          chk (0 ≤ x5.2.2.2.1 ∧ x5.2.2.2.1 < (x5.2.2.1.length : Int)) <|
          letv (x5.2.2.1.set x5.2.2.2.1.toNat (7, (x5.2.2.1.getD x5.2.2.2.1.toNat (0, 0, ())).2.1, ())) fun l36 =>
          chk (0 ≤ x5.2.2.2.1 ∧ x5.2.2.2.1 < (l36.length : Int)) <|
          letv (l36.set x5.2.2.2.1.toNat ((l36.getD x5.2.2.2.1.toNat (0, 0, ())).1, (-1), ())) fun l37 =>
          bif decide ((x5.2.2.2.2.2.2.getD (1 : Int).toNat (0, 0, 0, ())).2.2.1 = 0) then
            letv (x5.2.2.2.2.2.2.set (1 : Int).toNat (x5.2.2.2.1, (x5.2.2.2.2.2.2.getD (1 : Int).toNat (0, 0, 0, ())).2.1, (x5.2.2.2.2.2.2.getD (1 : Int).toNat (0, 0, 0, ())).2.2.1, ())) fun l38 =>
            letv (l38.set (1 : Int).toNat ((l38.getD (1 : Int).toNat (0, 0, 0, ())).1, x5.2.2.2.1, (l38.getD (1 : Int).toNat (0, 0, 0, ())).2.2.1, ())) fun l39 =>
            letv (l39.set (1 : Int).toNat ((l39.getD (1 : Int).toNat (0, 0, 0, ())).1, (l39.getD (1 : Int).toNat (0, 0, 0, ())).2.1, IntKind.i64.wrap ((l39.getD (1 : Int).toNat (0, 0, 0, ())).2.2.1 + 1), ())) fun l40 =>
            k6 (x5.1, x5.2.1, 0, l37, v6, (-1), IntKind.i64.wrap (x5.2.2.2.2.2.1 - 1), l40)
          else
            chk (0 ≤ (x5.2.2.2.2.2.2.getD (1 : Int).toNat (0, 0, 0, ())).2.1 ∧ (x5.2.2.2.2.2.2.getD (1 : Int).toNat (0, 0, 0, ())).2.1 < (l37.length : Int)) <|
            letv (l37.set (x5.2.2.2.2.2.2.getD (1 : Int).toNat (0, 0, 0, ())).2.1.toNat ((l37.getD (x5.2.2.2.2.2.2.getD (1 : Int).toNat (0, 0, 0, ())).2.1.toNat (0, 0, ())).1, x5.2.2.2.1, ())) fun l41 =>
            letv (x5.2.2.2.2.2.2.set (1 : Int).toNat ((x5.2.2.2.2.2.2.getD (1 : Int).toNat (0, 0, 0, ())).1, x5.2.2.2.1, (x5.2.2.2.2.2.2.getD (1 : Int).toNat (0, 0, 0, ())).2.2.1, ())) fun l42 =>
            letv (l42.set (1 : Int).toNat ((l42.getD (1 : Int).toNat (0, 0, 0, ())).1, (l42.getD (1 : Int).toNat (0, 0, 0, ())).2.1, IntKind.i64.wrap ((l42.getD (1 : Int).toNat (0, 0, 0, ())).2.2.1 + 1), ())) fun l43 =>
            k6 (x5.1, x5.2.1, 0, l41, v6, (-1), IntKind.i64.wrap (x5.2.2.2.2.2.1 - 1), l43)
        else
          chk (0 ≤ x5.2.2.2.1 ∧ x5.2.2.2.1 < (x5.2.2.1.length : Int)) <|
          letv (x5.2.2.1.set x5.2.2.2.1.toNat (7, (x5.2.2.1.getD x5.2.2.2.1.toNat (0, 0, ())).2.1, ())) fun l44 =>
          chk (0 ≤ x5.2.2.2.1 ∧ x5.2.2.2.1 < (l44.length : Int)) <|
          letv (l44.set x5.2.2.2.1.toNat ((l44.getD x5.2.2.2.1.toNat (0, 0, ())).1, (-1), ())) fun l45 =>
          bif decide ((x5.2.2.2.2.2.2.getD (1 : Int).toNat (0, 0, 0, ())).2.2.1 = 0) then
            letv (x5.2.2.2.2.2.2.set (1 : Int).toNat (x5.2.2.2.1, (x5.2.2.2.2.2.2.getD (1 : Int).toNat (0, 0, 0, ())).2.1, (x5.2.2.2.2.2.2.getD (1 : Int).toNat (0, 0, 0, ())).2.2.1, ())) fun l46 =>
            letv (l46.set (1 : Int).toNat ((l46.getD (1 : Int).toNat (0, 0, 0, ())).1, x5.2.2.2.1, (l46.getD (1 : Int).toNat (0, 0, 0, ())).2.2.1, ())) fun l47 =>
            letv (l47.set (1 : Int).toNat ((l47.getD (1 : Int).toNat (0, 0, 0, ())).1, (l47.getD (1 : Int).toNat (0, 0, 0, ())).2.1, IntKind.i64.wrap ((l47.getD (1 : Int).toNat (0, 0, 0, ())).2.2.1 + 1), ())) fun l48 =>
            k6 (x5.1, x5.2.1, 0, l45, v6, x5.2.2.2.2.1, IntKind.i64.wrap (x5.2.2.2.2.2.1 - 1), l48)
          else
            chk (0 ≤ (x5.2.2.2.2.2.2.getD (1 : Int).toNat (0, 0, 0, ())).2.1 ∧ (x5.2.2.2.2.2.2.getD (1 : Int).toNat (0, 0, 0, ())).2.1 < (l45.length : Int)) <|
            letv (l45.set (x5.2.2.2.2.2.2.getD (1 : Int).toNat (0, 0, 0, ())).2.1.toNat ((l45.getD (x5.2.2.2.2.2.2.getD (1 : Int).toNat (0, 0, 0, ())).2.1.toNat (0, 0, ())).1, x5.2.2.2.1, ())) fun l49 =>
            letv (x5.2.2.2.2.2.2.set (1 : Int).toNat ((x5.2.2.2.2.2.2.getD (1 : Int).toNat (0, 0, 0, ())).1, x5.2.2.2.1, (x5.2.2.2.2.2.2.getD (1 : Int).toNat (0, 0, 0, ())).2.2.1, ())) fun l50 =>
            letv (l50.set (1 : Int).toNat ((l50.getD (1 : Int).toNat (0, 0, 0, ())).1, (l50.getD (1 : Int).toNat (0, 0, 0, ())).2.1, IntKind.i64.wrap ((l50.getD (1 : Int).toNat (0, 0, 0, ())).2.2.1 + 1), ())) fun l51 =>
            k6 (x5.1, x5.2.1, 0, l49, v6, x5.2.2.2.2.1, IntKind.i64.wrap (x5.2.2.2.2.2.1 - 1), l51)
def L03_alive_C5 (x6 : Int × Int × Int × (List (Int × Int × Unit)) × Int × Int × Int × (List (Int × Int × Int × Unit))) (k7 : (Int × Int × Int × Int × (List (Int × Int × Unit)) × Int × Int × Int × (List (Int × Int × Int × Unit))) → Option Bool) : Option Bool :=
  letv (decide ((x6.2.2.2.2.2.2.2.length : Int) > 0)) fun v7 =>
  bif !v7 then
    k7 (x6.1, x6.2.1, x6.2.2.1, 2, x6.2.2.2.1, x6.2.2.2.2.1, x6.2.2.2.2.2.1, x6.2.2.2.2.2.2.1, x6.2.2.2.2.2.2.2)
  else
    letv (decide (1 ≥ (x6.2.2.2.2.2.2.2.length : Int))) fun v8 =>
    bif v8 then
      k7 (x6.1, x6.2.1, x6.2.2.1, 8, x6.2.2.2.1, x6.2.2.2.2.1, x6.2.2.2.2.2.1, x6.2.2.2.2.2.2.1, x6.2.2.2.2.2.2.2)
    else
      chk (0 ≤ (1 : Int) ∧ (1 : Int) < (x6.2.2.2.2.2.2.2.length : Int)) <|
      bif decide (x6.2.2.2.2.2.2.1 = 0) then
        k7 (x6.1, x6.2.1, x6.2.2.1, 10, x6.2.2.2.1, x6.2.2.2.2.1, x6.2.2.2.2.2.1, x6.2.2.2.2.2.2.1, x6.2.2.2.2.2.2.2)
      else
        chk (0 ≤ x6.2.2.2.2.1 ∧ x6.2.2.2.2.1 < (x6.2.2.2.1.length : Int)) <|
        letv ((x6.2.2.2.1.getD x6.2.2.2.2.1.toNat (0, 0, ())).2.1) fun v9 =>
        bif decide (x6.2.2.2.2.2.1 = x6.2.2.2.2.1) then
          chk (0 ≤ x6.2.2.2.2.1 ∧ x6.2.2.2.2.1 < (x6.2.2.2.1.length : Int)) <|
          letv (x6.2.2.2.1.set x6.2.2.2.2.1.toNat (8, (x6.2.2.2.1.getD x6.2.2.2.2.1.toNat (0, 0, ())).2.1, ())) fun l52 =>
          chk (0 ≤ x6.2.2.2.2.1 ∧ x6.2.2.2.2.1 < (l52.length : Int)) <|
          letv (l52.set x6.2.2.2.2.1.toNat ((l52.getD x6.2.2.2.2.1.toNat (0, 0, ())).1, (-1), ())) fun l53 =>
          bif decide ((x6.2.2.2.2.2.2.2.getD (1 : Int).toNat (0, 0, 0, ())).2.2.1 = 0) then
            letv (x6.2.2.2.2.2.2.2.set (1 : Int).toNat (x6.2.2.2.2.1, (x6.2.2.2.2.2.2.2.getD (1 : Int).toNat (0, 0, 0, ())).2.1, (x6.2.2.2.2.2.2.2.getD (1 : Int).toNat (0, 0, 0, ())).2.2.1, ())) fun l54 =>
            letv (l54.set (1 : Int).toNat ((l54.getD (1 : Int).toNat (0, 0, 0, ())).1, x6.2.2.2.2.1, (l54.getD (1 : Int).toNat (0, 0, 0, ())).2.2.1, ())) fun l55 =>
            letv (l55.set (1 : Int).toNat ((l55.getD (1 : Int).toNat (0, 0, 0, ())).1, (l55.getD (1 : Int).toNat (0, 0, 0, ())).2.1, IntKind.i64.wrap ((l55.getD (1 : Int).toNat (0, 0, 0, ())).2.2.1 + 1), ())) fun l56 =>
            k7 (x6.1, x6.2.1, x6.2.2.1, 0, l53, v9, (-1), IntKind.i64.wrap (x6.2.2.2.2.2.2.1 - 1), l56)
          else
            chk (0 ≤ (x6.2.2.2.2.2.2.2.getD (1 : Int).toNat (0, 0, 0, ())).2.1 ∧ (x6.2.2.2.2.2.2.2.getD (1 : Int).toNat (0, 0, 0, ())).2.1 < (l53.length : Int)) <|
            letv (l53.set (x6.2.2.2.2.2.2.2.getD (1 : Int).toNat (0, 0, 0, ())).2.1.toNat ((l53.getD (x6.2.2.2.2.2.2.2.getD (1 : Int).toNat (0, 0, 0, ())).2.1.toNat (0, 0, ())).1, x6.2.2.2.2.1, ())) fun l57 =>
            letv (x6.2.2.2.2.2.2.2.set (1 : Int).toNat ((x6.2.2.2.2.2.2.2.getD (1 : Int).toNat (0, 0, 0, ())).1, x6.2.2.2.2.1, (x6.2.2.2.2.2.2.2.getD (1 : Int).toNat (0, 0, 0, ())).2.2.1, ())) fun l58 =>
            letv (l58.set (1 : Int).toNat ((l58.getD (1 : Int).toNat (0, 0, 0, ())).1, (l58.getD (1 : Int).toNat (0, 0, 0, ())).2.1, IntKind.i64.wrap ((l58.getD (1 : Int).toNat (0, 0, 0, ())).2.2.1 + 1), ())) fun l59 =>
            k7 (x6.1, x6.2.1, x6.2.2.1, 0, l57, v9, (-1), IntKind.i64.wrap (x6.2.2.2.2.2.2.1 - 1), l59)
        else
          chk (0 ≤ x6.2.2.2.2.1 ∧ x6.2.2.2.2.1 < (x6.2.2.2.1.length : Int)) <|
          letv (x6.2.2.2.1.set x6.2.2.2.2.1.toNat (8, (x6.2.2.2.1.getD x6.2.2.2.2.1.toNat (0, 0, ())).2.1, ())) fun l60 =>
          chk (0 ≤ x6.2.2.2.2.1 ∧ x6.2.2.2.2.1 < (l60.length : Int)) <|
          letv (l60.set x6.2.2.2.2.1.toNat ((l60.getD x6.2.2.2.2.1.toNat (0, 0, ())).1, (-1), ())) fun l61 =>
          bif decide ((x6.2.2.2.2.2.2.2.getD (1 : Int).toNat (0, 0, 0, ())).2.2.1 = 0) then
            letv (x6.2.2.2.2.2.2.2.set (1 : Int).toNat (x6.2.2.2.2.1, (x6.2.2.2.2.2.2.2.getD (1 : Int).toNat (0, 0, 0, ())).2.1, (x6.2.2.2.2.2.2.2.getD (1 : Int).toNat (0, 0, 0, ())).2.2.1, ())) fun l62 =>
            letv (l62.set (1 : Int).toNat ((l62.getD (1 : Int).toNat (0, 0, 0, ())).1, x6.2.2.2.2.1, (l62.getD (1 : Int).toNat (0, 0, 0, ())).2.2.1, ())) fun l63 =>
            letv (l63.set (1 : Int).toNat ((l63.getD (1 : Int).toNat (0, 0, 0, ())).1, (l63.getD (1 : Int).toNat (0, 0, 0, ())).2.1, IntKind.i64.wrap ((l63.getD (1 : Int).toNat (0, 0, 0, ())).2.2.1 + 1), ())) fun l64 =>
            k7 (x6.1, x6.2.1, x6.2.2.1, 0, l61, v9, x6.2.2.2.2.2.1, IntKind.i64.wrap (x6.2.2.2.2.2.2.1 - 1), l64)
          else
            chk (0 ≤ (x6.2.2.2.2.2.2.2.getD (1 : Int).toNat (0, 0, 0, ())).2.1 ∧ (x6.2.2.2.2.2.2.2.getD (1 : Int).toNat (0, 0, 0, ())).2.1 < (l61.length : Int)) <|
            letv (l61.set (x6.2.2.2.2.2.2.2.getD (1 : Int).toNat (0, 0, 0, ())).2.1.toNat ((l61.getD (x6.2.2.2.2.2.2.2.getD (1 : Int).toNat (0, 0, 0, ())).2.1.toNat (0, 0, ())).1, x6.2.2.2.2.1, ())) fun l65 =>
            letv (x6.2.2.2.2.2.2.2.set (1 : Int).toNat ((x6.2.2.2.2.2.2.2.getD (1 : Int).toNat (0, 0, 0, ())).1, x6.2.2.2.2.1, (x6.2.2.2.2.2.2.2.getD (1 : Int).toNat (0, 0, 0, ())).2.2.1, ())) fun l66 =>
            letv (l66.set (1 : Int).toNat ((l66.getD (1 : Int).toNat (0, 0, 0, ())).1, (l66.getD (1 : Int).toNat (0, 0, 0, ())).2.1, IntKind.i64.wrap ((l66.getD (1 : Int).toNat (0, 0, 0, ())).2.2.1 + 1), ())) fun l67 =>
            k7 (x6.1, x6.2.1, x6.2.2.1, 0, l65, v9, x6.2.2.2.2.2.1, IntKind.i64.wrap (x6.2.2.2.2.2.2.1 - 1), l67)
def L03_alive_C6 (x7 : Int × Int × Int × Int × (List (Int × Int × Unit)) × Int × Int × Int × (List (Int × Int × Int × Unit))) (k9 : (Int × Int × (List (Int × Int × Unit)) × Int × Int × Int × (List (Int × Int × Int × Unit))) → Option Bool) : Option Bool :=
  letv (decide ((x7.2.2.2.2.2.2.2.2.length : Int) > 0)) fun v10 =>
  bif !v10 then
    k9 (0, 2, x7.2.2.2.2.1, x7.2.2.2.2.2.1, x7.2.2.2.2.2.2.1, x7.2.2.2.2.2.2.2.1, x7.2.2.2.2.2.2.2.2)
  else
    letv (decide (0 ≥ (x7.2.2.2.2.2.2.2.2.length : Int))) fun v11 =>
    bif v11 then
      k9 (0, 8, x7.2.2.2.2.1, x7.2.2.2.2.2.1, x7.2.2.2.2.2.2.1, x7.2.2.2.2.2.2.2.1, x7.2.2.2.2.2.2.2.2)
    else
      chk (0 ≤ (0 : Int) ∧ (0 : Int) < (x7.2.2.2.2.2.2.2.2.length : Int)) <|
      letv (decide ((x7.2.2.2.2.2.2.2.2.getD (0 : Int).toNat (0, 0, 0, ())).2.2.1 = 0)) fun v12 =>
      bif v12 then
        k9 (0, 11, x7.2.2.2.2.1, x7.2.2.2.2.2.1, x7.2.2.2.2.2.2.1, x7.2.2.2.2.2.2.2.1, x7.2.2.2.2.2.2.2.2)
      else
        chk (0 ≤ (x7.2.2.2.2.2.2.2.2.getD (0 : Int).toNat (0, 0, 0, ())).1 ∧ (x7.2.2.2.2.2.2.2.2.getD (0 : Int).toNat (0, 0, 0, ())).1 < (x7.2.2.2.2.1.length : Int)) <|
        letv ((x7.2.2.2.2.1.getD (x7.2.2.2.2.2.2.2.2.getD (0 : Int).toNat (0, 0, 0, ())).1.toNat (0, 0, ())).1) fun v13 =>
        k9 (v13, 0, x7.2.2.2.2.1, x7.2.2.2.2.2.1, x7.2.2.2.2.2.2.1, x7.2.2.2.2.2.2.2.1, x7.2.2.2.2.2.2.2.2)
def L03_alive_C7 (x9 : Int × Int × (List (Int × Int × Unit)) × Int × Int × Int × (List (Int × Int × Int × Unit))) (k10 : (Int × (List (Int × Int × Unit)) × Int × Int × Int × (List (Int × Int × Int × Unit))) → Option Bool) : Option Bool :=
  chk (0 ≤ (0 : Int) ∧ (0 : Int) < (x9.2.2.2.2.2.2.length : Int)) <|
  letv ((x9.2.2.2.2.2.2.getD (0 : Int).toNat (0, 0, 0, ())).1) fun v14 =>
  chk (0 ≤ v14 ∧ v14 < (x9.2.2.1.length : Int)) <|
  letv (x9.2.2.2.2.2.2.set (0 : Int).toNat ((x9.2.2.1.getD v14.toNat (0, 0, ())).2.1, (x9.2.2.2.2.2.2.getD (0 : Int).toNat (0, 0, 0, ())).2.1, (x9.2.2.2.2.2.2.getD (0 : Int).toNat (0, 0, 0, ())).2.2.1, ())) fun l68 =>
  bif decide ((l68.getD (0 : Int).toNat (0, 0, 0, ())).2.1 = v14) then
    letv (l68.set (0 : Int).toNat ((l68.getD (0 : Int).toNat (0, 0, 0, ())).1, (-1), (l68.getD (0 : Int).toNat (0, 0, 0, ())).2.2.1, ())) fun l69 =>
    letv (l69.set (0 : Int).toNat ((l69.getD (0 : Int).toNat (0, 0, 0, ())).1, (l69.getD (0 : Int).toNat (0, 0, 0, ())).2.1, IntKind.i64.wrap ((l69.getD (0 : Int).toNat (0, 0, 0, ())).2.2.1 - 1), ())) fun l70 =>
    chk (0 ≤ v14 ∧ v14 < (x9.2.2.1.length : Int)) <|
    letv (x9.2.2.1.set v14.toNat ((x9.2.2.1.getD v14.toNat (0, 0, ())).1, (-1), ())) fun l71 =>
    bif decide (x9.2.2.2.2.2.1 = 0) then
      k10 (x9.1, l71, v14, v14, IntKind.i64.wrap (x9.2.2.2.2.2.1 + 1), l70)
    else
      chk (0 ≤ x9.2.2.2.2.1 ∧ x9.2.2.2.2.1 < (l71.length : Int)) <|
      letv (l71.set x9.2.2.2.2.1.toNat ((l71.getD x9.2.2.2.2.1.toNat (0, 0, ())).1, v14, ())) fun l72 =>
      k10 (x9.1, l72, x9.2.2.2.1, v14, IntKind.i64.wrap (x9.2.2.2.2.2.1 + 1), l70)
  else
    letv (l68.set (0 : Int).toNat ((l68.getD (0 : Int).toNat (0, 0, 0, ())).1, (l68.getD (0 : Int).toNat (0, 0, 0, ())).2.1, IntKind.i64.wrap ((l68.getD (0 : Int).toNat (0, 0, 0, ())).2.2.1 - 1), ())) fun l73 =>
    chk (0 ≤ v14 ∧ v14 < (x9.2.2.1.length : Int)) <|
    letv (x9.2.2.1.set v14.toNat ((x9.2.2.1.getD v14.toNat (0, 0, ())).1, (-1), ())) fun l74 =>
    bif decide (x9.2.2.2.2.2.1 = 0) then
      k10 (x9.1, l74, v14, v14, IntKind.i64.wrap (x9.2.2.2.2.2.1 + 1), l73)
    else
      chk (0 ≤ x9.2.2.2.2.1 ∧ x9.2.2.2.2.1 < (l74.length : Int)) <|
      letv (l74.set x9.2.2.2.2.1.toNat ((l74.getD x9.2.2.2.2.1.toNat (0, 0, ())).1, v14, ())) fun l75 =>
      k10 (x9.1, l75, x9.2.2.2.1, v14, IntKind.i64.wrap (x9.2.2.2.2.2.1 + 1), l73)
def L03_alive_R7 (k8 : (Int × Int × Int × Int × Int × Int × (List (Int × Int × Unit)) × Int × Int × Int × (List (Int × Int × Int × Unit))) → Option Bool) (x7 : Int × Int × Int × Int × (List (Int × Int × Unit)) × Int × Int × Int × (List (Int × Int × Int × Unit))) (x10 : Int × (List (Int × Int × Unit)) × Int × Int × Int × (List (Int × Int × Int × Unit))) : Option Bool :=
  k8 (x7.1, x7.2.1, x7.2.2.1, x7.2.2.2.1, x10.1, 0, x10.2.1, x10.2.2.1, x10.2.2.2.1, x10.2.2.2.2.1, x10.2.2.2.2.2)
def L03_alive_R6 (k8 : (Int × Int × Int × Int × Int × Int × (List (Int × Int × Unit)) × Int × Int × Int × (List (Int × Int × Int × Unit))) → Option Bool) (x7 : Int × Int × Int × Int × (List (Int × Int × Unit)) × Int × Int × Int × (List (Int × Int × Int × Unit))) (x9 : Int × Int × (List (Int × Int × Unit)) × Int × Int × Int × (List (Int × Int × Int × Unit))) : Option Bool :=
  bif !decide (x9.2.1 = 0) then
    k8 (x7.1, x7.2.1, x7.2.2.1, x7.2.2.2.1, 0, x9.2.1, x9.2.2.1, x9.2.2.2.1, x9.2.2.2.2.1, x9.2.2.2.2.2.1, x9.2.2.2.2.2.2)
  else
    cutv 7 (L03_alive_C7 x9) (L03_alive_R7 k8 x7)
def L03_alive_C8 (x7 : Int × Int × Int × Int × (List (Int × Int × Unit)) × Int × Int × Int × (List (Int × Int × Int × Unit))) (k8 : (Int × Int × Int × Int × Int × Int × (List (Int × Int × Unit)) × Int × Int × Int × (List (Int × Int × Int × Unit))) → Option Bool) : Option Bool :=
  cutv 6 (L03_alive_C6 x7) (L03_alive_R6 k8 x7)
def L03_alive_C9 (x8 : Int × Int × Int × Int × Int × Int × (List (Int × Int × Unit)) × Int × Int × Int × (List (Int × Int × Int × Unit))) (k11 : (Int × Int × Int × Int × Int × Int × Int × Int × (List (Int × Int × Unit)) × Int × Int × Int × (List (Int × Int × Int × Unit))) → Option Bool) : Option Bool :=
  letv (decide ((x8.2.2.2.2.2.2.2.2.2.2.length : Int) > 0)) fun v15 =>
  bif !v15 then
    k11 (x8.1, x8.2.1, x8.2.2.1, x8.2.2.2.1, x8.2.2.2.2.1, x8.2.2.2.2.2.1, 0, 2, x8.2.2.2.2.2.2.1, x8.2.2.2.2.2.2.2.1, x8.2.2.2.2.2.2.2.2.1, x8.2.2.2.2.2.2.2.2.2.1, x8.2.2.2.2.2.2.2.2.2.2)
  else
    letv (decide (1 ≥ (x8.2.2.2.2.2.2.2.2.2.2.length : Int))) fun v16 =>
    bif v16 then
      k11 (x8.1, x8.2.1, x8.2.2.1, x8.2.2.2.1, x8.2.2.2.2.1, x8.2.2.2.2.2.1, 0, 8, x8.2.2.2.2.2.2.1, x8.2.2.2.2.2.2.2.1, x8.2.2.2.2.2.2.2.2.1, x8.2.2.2.2.2.2.2.2.2.1, x8.2.2.2.2.2.2.2.2.2.2)
    else
      chk (0 ≤ (1 : Int) ∧ (1 : Int) < (x8.2.2.2.2.2.2.2.2.2.2.length : Int)) <|
      letv (decide ((x8.2.2.2.2.2.2.2.2.2.2.getD (1 : Int).toNat (0, 0, 0, ())).2.2.1 = 0)) fun v17 =>
      bif v17 then
        k11 (x8.1, x8.2.1, x8.2.2.1, x8.2.2.2.1, x8.2.2.2.2.1, x8.2.2.2.2.2.1, 0, 11, x8.2.2.2.2.2.2.1, x8.2.2.2.2.2.2.2.1, x8.2.2.2.2.2.2.2.2.1, x8.2.2.2.2.2.2.2.2.2.1, x8.2.2.2.2.2.2.2.2.2.2)
      else
        chk (0 ≤ (x8.2.2.2.2.2.2.2.2.2.2.getD (1 : Int).toNat (0, 0, 0, ())).1 ∧ (x8.2.2.2.2.2.2.2.2.2.2.getD (1 : Int).toNat (0, 0, 0, ())).1 < (x8.2.2.2.2.2.2.1.length : Int)) <|
        letv ((x8.2.2.2.2.2.2.1.getD (x8.2.2.2.2.2.2.2.2.2.2.getD (1 : Int).toNat (0, 0, 0, ())).1.toNat (0, 0, ())).1) fun v18 =>
        k11 (x8.1, x8.2.1, x8.2.2.1, x8.2.2.2.1, x8.2.2.2.2.1, x8.2.2.2.2.2.1, v18, 0, x8.2.2.2.2.2.2.1, x8.2.2.2.2.2.2.2.1, x8.2.2.2.2.2.2.2.2.1, x8.2.2.2.2.2.2.2.2.2.1, x8.2.2.2.2.2.2.2.2.2.2)
def L03_alive_C10 (x11 : Int × Int × Int × Int × Int × Int × Int × Int × (List (Int × Int × Unit)) × Int × Int × Int × (List (Int × Int × Int × Unit))) (k13 : (Int × (List (Int × Int × Unit)) × Int × Int × Int × (List (Int × Int × Int × Unit))) → Option Bool) : Option Bool :=
  letv (decide ((x11.2.2.2.2.2.2.2.2.2.2.2.2.length : Int) > 0)) fun v19 =>
  bif !v19 then
    k13 (0, x11.2.2.2.2.2.2.2.2.1, x11.2.2.2.2.2.2.2.2.2.1, x11.2.2.2.2.2.2.2.2.2.2.1, x11.2.2.2.2.2.2.2.2.2.2.2.1, x11.2.2.2.2.2.2.2.2.2.2.2.2)
  else
    letv (decide (0 ≥ (x11.2.2.2.2.2.2.2.2.2.2.2.2.length : Int))) fun v20 =>
    bif v20 then
      k13 (0, x11.2.2.2.2.2.2.2.2.1, x11.2.2.2.2.2.2.2.2.2.1, x11.2.2.2.2.2.2.2.2.2.2.1, x11.2.2.2.2.2.2.2.2.2.2.2.1, x11.2.2.2.2.2.2.2.2.2.2.2.2)
    else
      chk (0 ≤ (0 : Int) ∧ (0 : Int) < (x11.2.2.2.2.2.2.2.2.2.2.2.2.length : Int)) <|
      letv ((x11.2.2.2.2.2.2.2.2.2.2.2.2.getD (0 : Int).toNat (0, 0, 0, ())).2.2.1) fun v21 =>
      k13 (v21, x11.2.2.2.2.2.2.2.2.1, x11.2.2.2.2.2.2.2.2.2.1, x11.2.2.2.2.2.2.2.2.2.2.1, x11.2.2.2.2.2.2.2.2.2.2.2.1, x11.2.2.2.2.2.2.2.2.2.2.2.2)
def L03_alive_C11 (x13 : Int × (List (Int × Int × Unit)) × Int × Int × Int × (List (Int × Int × Int × Unit))) (k14 : (Int × (List (Int × Int × Unit)) × Int × Int × Int × (List (Int × Int × Int × Unit))) → Option Bool) : Option Bool :=
  letv (decide ((x13.2.2.2.2.2.length : Int) > 0)) fun v22 =>
  bif !v22 then
    k14 (0, x13.2.1, x13.2.2.1, x13.2.2.2.1, x13.2.2.2.2.1, x13.2.2.2.2.2)
  else
    k14 (x13.2.2.2.2.1, x13.2.1, x13.2.2.1, x13.2.2.2.1, x13.2.2.2.2.1, x13.2.2.2.2.2)
def L03_alive_C12 (x14 : Int × (List (Int × Int × Unit)) × Int × Int × Int × (List (Int × Int × Int × Unit))) (x16 : Int × Int) (k17 : ((List (Int × Int × Unit)) × Int × Int × Int × (List (Int × Int × Int × Unit))) → Option Bool) : Option Bool :=
  letv ((x14.2.2.2.2.2.getD (0 : Int).toNat (0, 0, 0, ())).1) fun v27 =>
  bif !decide (x16.1 = (-1)) then
    chk (0 ≤ x16.1 ∧ x16.1 < (x14.2.1.length : Int)) <|
    letv ((x14.2.1.getD x16.1.toNat (0, 0, ())).2.1) fun v28 =>
    chk (0 ≤ v28 ∧ v28 < (x14.2.1.length : Int)) <|
    bif decide (x16.1 = (-1)) then
      letv (x14.2.2.2.2.2.set (0 : Int).toNat ((x14.2.1.getD v28.toNat (0, 0, ())).2.1, (x14.2.2.2.2.2.getD (0 : Int).toNat (0, 0, 0, ())).2.1, (x14.2.2.2.2.2.getD (0 : Int).toNat (0, 0, 0, ())).2.2.1, ())) fun l76 =>
      bif decide ((l76.getD (0 : Int).toNat (0, 0, 0, ())).2.1 = v28) then
        letv (l76.set (0 : Int).toNat ((l76.getD (0 : Int).toNat (0, 0, 0, ())).1, x16.1, (l76.getD (0 : Int).toNat (0, 0, 0, ())).2.2.1, ())) fun l77 =>
        letv (l77.set (0 : Int).toNat ((l77.getD (0 : Int).toNat (0, 0, 0, ())).1, (l77.getD (0 : Int).toNat (0, 0, 0, ())).2.1, IntKind.i64.wrap ((l77.getD (0 : Int).toNat (0, 0, 0, ())).2.2.1 - 1), ())) fun l78 =>
        chk (0 ≤ v28 ∧ v28 < (x14.2.1.length : Int)) <|
        letv (x14.2.1.set v28.toNat ((x14.2.1.getD v28.toNat (0, 0, ())).1, (-1), ())) fun l79 =>
        bif decide (x14.2.2.2.2.1 = 0) then
          k17 (l79, v28, v28, IntKind.i64.wrap (x14.2.2.2.2.1 + 1), l78)
        else
          chk (0 ≤ x14.2.2.2.1 ∧ x14.2.2.2.1 < (l79.length : Int)) <|
          letv (l79.set x14.2.2.2.1.toNat ((l79.getD x14.2.2.2.1.toNat (0, 0, ())).1, v28, ())) fun l80 =>
          k17 (l80, x14.2.2.1, v28, IntKind.i64.wrap (x14.2.2.2.2.1 + 1), l78)
      else
        letv (l76.set (0 : Int).toNat ((l76.getD (0 : Int).toNat (0, 0, 0, ())).1, (l76.getD (0 : Int).toNat (0, 0, 0, ())).2.1, IntKind.i64.wrap ((l76.getD (0 : Int).toNat (0, 0, 0, ())).2.2.1 - 1), ())) fun l81 =>
        chk (0 ≤ v28 ∧ v28 < (x14.2.1.length : Int)) <|
        letv (x14.2.1.set v28.toNat ((x14.2.1.getD v28.toNat (0, 0, ())).1, (-1), ())) fun l82 =>
        bif decide (x14.2.2.2.2.1 = 0) then
          k17 (l82, v28, v28, IntKind.i64.wrap (x14.2.2.2.2.1 + 1), l81)
        else
          chk (0 ≤ x14.2.2.2.1 ∧ x14.2.2.2.1 < (l82.length : Int)) <|
          letv (l82.set x14.2.2.2.1.toNat ((l82.getD x14.2.2.2.1.toNat (0, 0, ())).1, v28, ())) fun l83 =>
          k17 (l83, x14.2.2.1, v28, IntKind.i64.wrap (x14.2.2.2.2.1 + 1), l81)
    else
      chk (0 ≤ x16.1 ∧ x16.1 < (x14.2.1.length : Int)) <|
      letv (x14.2.1.set x16.1.toNat ((x14.2.1.getD x16.1.toNat (0, 0, ())).1, (x14.2.1.getD v28.toNat (0, 0, ())).2.1, ())) fun l84 =>
      bif decide ((x14.2.2.2.2.2.getD (0 : Int).toNat (0, 0, 0, ())).2.1 = v28) then
        letv (x14.2.2.2.2.2.set (0 : Int).toNat ((x14.2.2.2.2.2.getD (0 : Int).toNat (0, 0, 0, ())).1, x16.1, (x14.2.2.2.2.2.getD (0 : Int).toNat (0, 0, 0, ())).2.2.1, ())) fun l85 =>
        letv (l85.set (0 : Int).toNat ((l85.getD (0 : Int).toNat (0, 0, 0, ())).1, (l85.getD (0 : Int).toNat (0, 0, 0, ())).2.1, IntKind.i64.wrap ((l85.getD (0 : Int).toNat (0, 0, 0, ())).2.2.1 - 1), ())) fun l86 =>
        chk (0 ≤ v28 ∧ v28 < (l84.length : Int)) <|
        letv (l84.set v28.toNat ((l84.getD v28.toNat (0, 0, ())).1, (-1), ())) fun l87 =>
        bif decide (x14.2.2.2.2.1 = 0) then
          k17 (l87, v28, v28, IntKind.i64.wrap (x14.2.2.2.2.1 + 1), l86)
        else
          chk (0 ≤ x14.2.2.2.1 ∧ x14.2.2.2.1 < (l87.length : Int)) <|
          letv (l87.set x14.2.2.2.1.toNat ((l87.getD x14.2.2.2.1.toNat (0, 0, ())).1, v28, ())) fun l88 =>
          k17 (l88, x14.2.2.1, v28, IntKind.i64.wrap (x14.2.2.2.2.1 + 1), l86)
      else
        letv (x14.2.2.2.2.2.set (0 : Int).toNat ((x14.2.2.2.2.2.getD (0 : Int).toNat (0, 0, 0, ())).1, (x14.2.2.2.2.2.getD (0 : Int).toNat (0, 0, 0, ())).2.1, IntKind.i64.wrap ((x14.2.2.2.2.2.getD (0 : Int).toNat (0, 0, 0, ())).2.2.1 - 1), ())) fun l89 =>
        chk (0 ≤ v28 ∧ v28 < (l84.length : Int)) <|
        letv (l84.set v28.toNat ((l84.getD v28.toNat (0, 0, ())).1, (-1), ())) fun l90 =>
        bif decide (x14.2.2.2.2.1 = 0) then
          k17 (l90, v28, v28, IntKind.i64.wrap (x14.2.2.2.2.1 + 1), l89)
        else
          chk (0 ≤ x14.2.2.2.1 ∧ x14.2.2.2.1 < (l90.length : Int)) <|
          letv (l90.set x14.2.2.2.1.toNat ((l90.getD x14.2.2.2.1.toNat (0, 0, ())).1, v28, ())) fun l91 =>
          k17 (l91, x14.2.2.1, v28, IntKind.i64.wrap (x14.2.2.2.2.1 + 1), l89)
  else
    chk (0 ≤ v27 ∧ v27 < (x14.2.1.length : Int)) <|
    bif decide (x16.1 = (-1)) then
      letv (x14.2.2.2.2.2.set (0 : Int).toNat ((x14.2.1.getD v27.toNat (0, 0, ())).2.1, (x14.2.2.2.2.2.getD (0 : Int).toNat (0, 0, 0, ())).2.1, (x14.2.2.2.2.2.getD (0 : Int).toNat (0, 0, 0, ())).2.2.1, ())) fun l92 =>
      bif decide ((l92.getD (0 : Int).toNat (0, 0, 0, ())).2.1 = v27) then
        letv (l92.set (0 : Int).toNat ((l92.getD (0 : Int).toNat (0, 0, 0, ())).1, x16.1, (l92.getD (0 : Int).toNat (0, 0, 0, ())).2.2.1, ())) fun l93 =>
        letv (l93.set (0 : Int).toNat ((l93.getD (0 : Int).toNat (0, 0, 0, ())).1, (l93.getD (0 : Int).toNat (0, 0, 0, ())).2.1, IntKind.i64.wrap ((l93.getD (0 : Int).toNat (0, 0, 0, ())).2.2.1 - 1), ())) fun l94 =>
        chk (0 ≤ v27 ∧ v27 < (x14.2.1.length : Int)) <|
        letv (x14.2.1.set v27.toNat ((x14.2.1.getD v27.toNat (0, 0, ())).1, (-1), ())) fun l95 =>
        bif decide (x14.2.2.2.2.1 = 0) then
          k17 (l95, v27, v27, IntKind.i64.wrap (x14.2.2.2.2.1 + 1), l94)
        else
          chk (0 ≤ x14.2.2.2.1 ∧ x14.2.2.2.1 < (l95.length : Int)) <|
          letv (l95.set x14.2.2.2.1.toNat ((l95.getD x14.2.2.2.1.toNat (0, 0, ())).1, v27, ())) fun l96 =>
          k17 (l96, x14.2.2.1, v27, IntKind.i64.wrap (x14.2.2.2.2.1 + 1), l94)
      else
        letv (l92.set (0 : Int).toNat ((l92.getD (0 : Int).toNat (0, 0, 0, ())).1, (l92.getD (0 : Int).toNat (0, 0, 0, ())).2.1, IntKind.i64.wrap ((l92.getD (0 : Int).toNat (0, 0, 0, ())).2.2.1 - 1), ())) fun l97 =>
        chk (0 ≤ v27 ∧ v27 < (x14.2.1.length : Int)) <|
        letv (x14.2.1.set v27.toNat ((x14.2.1.getD v27.toNat (0, 0, ())).1, (-1), ())) fun l98 =>
        bif decide (x14.2.2.2.2.1 = 0) then
          k17 (l98, v27, v27, IntKind.i64.wrap (x14.2.2.2.2.1 + 1), l97)
        else
          chk (0 ≤ x14.2.2.2.1 ∧ x14.2.2.2.1 < (l98.length : Int)) <|
          letv (l98.set x14.2.2.2.1.toNat ((l98.getD x14.2.2.2.1.toNat (0, 0, ())).1, v27, ())) fun l99 =>
          k17 (l99, x14.2.2.1, v27, IntKind.i64.wrap (x14.2.2.2.2.1 + 1), l97)
    else
      chk (0 ≤ x16.1 ∧ x16.1 < (x14.2.1.length : Int)) <|
      letv (x14.2.1.set x16.1.toNat ((x14.2.1.getD x16.1.toNat (0, 0, ())).1, (x14.2.1.getD v27.toNat (0, 0, ())).2.1, ())) fun l100 =>
      bif decide ((x14.2.2.2.2.2.getD (0 : Int).toNat (0, 0, 0, ())).2.1 = v27) then
        letv (x14.2.2.2.2.2.set (0 : Int).toNat ((x14.2.2.2.2.2.getD (0 : Int).toNat (0, 0, 0, ())).1, x16.1, (x14.2.2.2.2.2.getD (0 : Int).toNat (0, 0, 0, ())).2.2.1, ())) fun l101 =>
        letv (l101.set (0 : Int).toNat ((l101.getD (0 : Int).toNat (0, 0, 0, ())).1, (l101.getD (0 : Int).toNat (0, 0, 0, ())).2.1, IntKind.i64.wrap ((l101.getD (0 : Int).toNat (0, 0, 0, ())).2.2.1 - 1), ())) fun l102 =>
        chk (0 ≤ v27 ∧ v27 < (l100.length : Int)) <|
        letv (l100.set v27.toNat ((l100.getD v27.toNat (0, 0, ())).1, (-1), ())) fun l103 =>
        bif decide (x14.2.2.2.2.1 = 0) then
          k17 (l103, v27, v27, IntKind.i64.wrap (x14.2.2.2.2.1 + 1), l102)
        else
          chk (0 ≤ x14.2.2.2.1 ∧ x14.2.2.2.1 < (l103.length : Int)) <|
          letv (l103.set x14.2.2.2.1.toNat ((l103.getD x14.2.2.2.1.toNat (0, 0, ())).1, v27, ())) fun l104 =>
          k17 (l104, x14.2.2.1, v27, IntKind.i64.wrap (x14.2.2.2.2.1 + 1), l102)
      else
        letv (x14.2.2.2.2.2.set (0 : Int).toNat ((x14.2.2.2.2.2.getD (0 : Int).toNat (0, 0, 0, ())).1, (x14.2.2.2.2.2.getD (0 : Int).toNat (0, 0, 0, ())).2.1, IntKind.i64.wrap ((x14.2.2.2.2.2.getD (0 : Int).toNat (0, 0, 0, ())).2.2.1 - 1), ())) fun l105 =>
        chk (0 ≤ v27 ∧ v27 < (l100.length : Int)) <|
        letv (l100.set v27.toNat ((l100.getD v27.toNat (0, 0, ())).1, (-1), ())) fun l106 =>
        bif decide (x14.2.2.2.2.1 = 0) then
          k17 (l106, v27, v27, IntKind.i64.wrap (x14.2.2.2.2.1 + 1), l105)
        else
          chk (0 ≤ x14.2.2.2.1 ∧ x14.2.2.2.1 < (l106.length : Int)) <|
          letv (l106.set x14.2.2.2.1.toNat ((l106.getD x14.2.2.2.1.toNat (0, 0, ())).1, v27, ())) fun l107 =>
          k17 (l107, x14.2.2.1, v27, IntKind.i64.wrap (x14.2.2.2.2.1 + 1), l105)
def L03_alive_R12 (k15 : (Bool × (List (Int × Int × Unit)) × Int × Int × Int × (List (Int × Int × Int × Unit))) → Option Bool) (x17 : (List (Int × Int × Unit)) × Int × Int × Int × (List (Int × Int × Int × Unit))) : Option Bool :=
  k15 (true, x17.1, x17.2.1, x17.2.2.1, x17.2.2.2.1, x17.2.2.2.2)
def L03_alive_L3 (k15 : (Bool × (List (Int × Int × Unit)) × Int × Int × Int × (List (Int × Int × Int × Unit))) → Option Bool) (x14 : Int × (List (Int × Int × Unit)) × Int × Int × Int × (List (Int × Int × Int × Unit))) (k16 : (Int × Int) → Option Bool) (x16 : Int × Int) : Option Bool :=
  bif decide (x16.2 = (-1)) then
    k15 (false, x14.2.1, x14.2.2.1, x14.2.2.2.1, x14.2.2.2.2.1, x14.2.2.2.2.2)
  else
    chk (0 ≤ x16.2 ∧ x16.2 < (x14.2.1.length : Int)) <|
    bif !decide ((x14.2.1.getD x16.2.toNat (0, 0, ())).1 = 6) then
      chk (0 ≤ x16.2 ∧ x16.2 < (x14.2.1.length : Int)) <|
      letv ((x14.2.1.getD x16.2.toNat (0, 0, ())).2.1) fun v26 =>
      k16 (x16.2, v26)
    else
      cutv 12 (L03_alive_C12 x14 x16) (L03_alive_R12 k15)
def L03_alive_C13 (x14 : Int × (List (Int × Int × Unit)) × Int × Int × Int × (List (Int × Int × Int × Unit))) (k15 : (Bool × (List (Int × Int × Unit)) × Int × Int × Int × (List (Int × Int × Int × Unit))) → Option Bool) : Option Bool :=
  letv (decide ((x14.2.2.2.2.2.length : Int) > 0)) fun v23 =>
  bif !v23 then
    k15 (false, x14.2.1, x14.2.2.1, x14.2.2.2.1, x14.2.2.2.2.1, x14.2.2.2.2.2)
  else
    letv (decide (0 ≥ (x14.2.2.2.2.2.length : Int))) fun v24 =>
    bif v24 then
      k15 (false, x14.2.1, x14.2.2.1, x14.2.2.2.1, x14.2.2.2.2.1, x14.2.2.2.2.2)
    else
      chk (0 ≤ (0 : Int) ∧ (0 : Int) < (x14.2.2.2.2.2.length : Int)) <|
      letv ((x14.2.2.2.2.2.getD (0 : Int).toNat (0, 0, 0, ())).1) fun v25 =>
      loop (L03_alive_L3 k15 x14) ((-1), v25)
def L03_alive_J3 (k12 : Bool → Option Bool) (p7 : List Int) : Option Bool :=
  k12 (decide ((p7.length : Int) = 0))
def L03_alive_L4 (x15 : Bool × (List (Int × Int × Unit)) × Int × Int × Int × (List (Int × Int × Int × Unit))) (k12 : Bool → Option Bool) (k18 : (Int × List Int) → Option Bool) (x18 : Int × List Int) : Option Bool :=
  bif !decide (x18.1 = (-1)) then
    chk (0 ≤ x18.1 ∧ x18.1 < (x15.2.1.length : Int)) <|
    letv ([(x15.2.1.getD x18.1.toNat (0, 0, ())).1]) fun l108 =>
    chk (x18.2.length + l108.length ≤ 4294967296) <|
    chk (0 ≤ x18.1 ∧ x18.1 < (x15.2.1.length : Int)) <|
    letv ((x15.2.1.getD x18.1.toNat (0, 0, ())).2.1) fun v32 =>
    k18 (v32, x18.2 ++ l108)
  else
    L03_alive_J3 k12 x18.2
def L03_alive_R13 (k12 : Bool → Option Bool) (x15 : Bool × (List (Int × Int × Unit)) × Int × Int × Int × (List (Int × Int × Int × Unit))) : Option Bool :=
  bif x15.1 then
    letv (decide ((x15.2.2.2.2.2.length : Int) > 0)) fun v29 =>
    bif !v29 then
      k12 true
    else
      letv (decide (0 ≥ (x15.2.2.2.2.2.length : Int))) fun v30 =>
      bif v30 then
        k12 true
      else
        chk (0 ≤ (0 : Int) ∧ (0 : Int) < (x15.2.2.2.2.2.length : Int)) <|
        letv ((x15.2.2.2.2.2.getD (0 : Int).toNat (0, 0, 0, ())).1) fun v31 =>
        loop (L03_alive_L4 x15 k12) (v31, [])
  else
    k12 false
def L03_alive_R11 (k12 : Bool → Option Bool) (x14 : Int × (List (Int × Int × Unit)) × Int × Int × Int × (List (Int × Int × Int × Unit))) : Option Bool :=
  bif decide (x14.1 = 1) then
    cutv 13 (L03_alive_C13 x14) (L03_alive_R13 k12)
  else
    k12 false
def L03_alive_R10 (k12 : Bool → Option Bool) (x13 : Int × (List (Int × Int × Unit)) × Int × Int × Int × (List (Int × Int × Int × Unit))) : Option Bool :=
  bif decide (x13.1 = 1) then
    cutv 11 (L03_alive_C11 x13) (L03_alive_R11 k12)
  else
    k12 false
def L03_alive_C14 (x11 : Int × Int × Int × Int × Int × Int × Int × Int × (List (Int × Int × Unit)) × Int × Int × Int × (List (Int × Int × Int × Unit))) (k12 : Bool → Option Bool) : Option Bool :=
  bif decide (x11.1 = 0) then
    bif decide (x11.2.1 = 0) then
      bif decide (x11.2.2.1 = 0) then
        bif decide (x11.2.2.2.1 = 10) then
          bif decide (x11.2.2.2.2.1 = 5) then
            bif decide (x11.2.2.2.2.2.1 = 0) then
              bif decide (x11.2.2.2.2.2.2.1 = 7) then
                bif decide (x11.2.2.2.2.2.2.2.1 = 0) then
                  cutv 10 (L03_alive_C10 x11) (L03_alive_R10 k12)
                else
                  k12 false
              else
                k12 false
            else
              k12 false
          else
            k12 false
        else
          k12 false
      else
        k12 false
    else
      k12 false
  else
    k12 false
def L03_alive_R14 (x12 : Bool) : Option Bool :=
  some x12
def L03_alive_R9 (x11 : Int × Int × Int × Int × Int × Int × Int × Int × (List (Int × Int × Unit)) × Int × Int × Int × (List (Int × Int × Int × Unit))) : Option Bool :=
  cutv 14 (L03_alive_C14 x11) L03_alive_R14
def L03_alive_R8 (x8 : Int × Int × Int × Int × Int × Int × (List (Int × Int × Unit)) × Int × Int × Int × (List (Int × Int × Int × Unit))) : Option Bool :=
  cutv 9 (L03_alive_C9 x8) L03_alive_R9
def L03_alive_R5 (x7 : Int × Int × Int × Int × (List (Int × Int × Unit)) × Int × Int × Int × (List (Int × Int × Int × Unit))) : Option Bool :=
  cutv 8 (L03_alive_C8 x7) L03_alive_R8
def L03_alive_R4 (x6 : Int × Int × Int × (List (Int × Int × Unit)) × Int × Int × Int × (List (Int × Int × Int × Unit))) : Option Bool :=
  cutv 5 (L03_alive_C5 x6) L03_alive_R5
def L03_alive_R3 (x5 : Int × Int × (List (Int × Int × Unit)) × Int × Int × Int × (List (Int × Int × Int × Unit))) : Option Bool :=
  cutv 4 (L03_alive_C4 x5) L03_alive_R4
def L03_alive_R2 (x4 : Int × (List (Int × Int × Unit)) × Int × Int × Int × (List (Int × Int × Int × Unit))) : Option Bool :=
  cutv 3 (L03_alive_C3 x4) L03_alive_R3
def L03_alive_R1 (x1 : (List (Int × Int × Unit)) × Int × Int × Int × (List (Int × Int × Int × Unit))) : Option Bool :=
  cutv 2 (L03_alive_C2 x1) L03_alive_R2
def L03_alive : Option Bool :=
  cutv 1 L03_alive_C1 L03_alive_R1
end Go.Proofs.YtiicmhholjpcbaaV
