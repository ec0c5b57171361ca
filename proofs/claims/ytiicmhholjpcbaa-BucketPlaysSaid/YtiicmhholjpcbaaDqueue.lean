import Derived.Test.YtiicmhholjpcbaaVcMt
namespace Go.Proofs.YtiicmhholjpcbaaV
set_option linter.unusedVariables false
def queue_Pool_ok (x : (List (Int × Int × Unit)) × (List (Int × Int × Int × Unit)) × (Int × Int × Int × Unit) × Unit) : Option (((List (Int × Int × Unit)) × (List (Int × Int × Int × Unit)) × (Int × Int × Int × Unit) × Unit) × (Bool × Unit)) :=
  some (x, (decide ((x.2.1.length : Int) > 0), ()))
def queue_Pool_Remove_C1 (x1 : Int × Int) (r1 : ((List (Int × Int × Unit)) × (List (Int × Int × Int × Unit)) × (Int × Int × Int × Unit) × Unit) × (Bool × Unit)) (a0 : Int) (k2 : (Int × Int × Int × (List (Int × Int × Unit)) × (List (Int × Int × Int × Unit))) → Option (((List (Int × Int × Unit)) × (List (Int × Int × Int × Unit)) × (Int × Int × Int × Unit) × Unit) × (Bool × Unit))) : Option (((List (Int × Int × Unit)) × (List (Int × Int × Int × Unit)) × (Int × Int × Int × Unit) × Unit) × (Bool × Unit)) :=
  bif !decide (x1.1 = (-1)) then
    chk (0 ≤ x1.1 ∧ x1.1 < (r1.1.1.length : Int)) <|
    chk (0 ≤ (r1.1.1.getD x1.1.toNat (0, 0, ())).2.1 ∧ (r1.1.1.getD x1.1.toNat (0, 0, ())).2.1 < (r1.1.1.length : Int)) <|
    letv ((r1.1.1.getD (r1.1.1.getD x1.1.toNat (0, 0, ())).2.1.toNat (0, 0, ())).2.1) fun v1 =>
    bif decide (x1.1 = (-1)) then
      letv (r1.1.2.1.set a0.toNat (v1, (r1.1.2.1.getD a0.toNat (0, 0, 0, ())).2.1, (r1.1.2.1.getD a0.toNat (0, 0, 0, ())).2.2.1, ())) fun l1 =>
      bif decide ((l1.getD a0.toNat (0, 0, 0, ())).2.1 = (r1.1.1.getD x1.1.toNat (0, 0, ())).2.1) then
        letv (l1.set a0.toNat ((l1.getD a0.toNat (0, 0, 0, ())).1, x1.1, (l1.getD a0.toNat (0, 0, 0, ())).2.2.1, ())) fun l2 =>
        letv (l2.set a0.toNat ((l2.getD a0.toNat (0, 0, 0, ())).1, (l2.getD a0.toNat (0, 0, 0, ())).2.1, IntKind.i64.wrap ((l2.getD a0.toNat (0, 0, 0, ())).2.2.1 - 1), ())) fun l3 =>
        chk (0 ≤ (r1.1.1.getD x1.1.toNat (0, 0, ())).2.1 ∧ (r1.1.1.getD x1.1.toNat (0, 0, ())).2.1 < (r1.1.1.length : Int)) <|
        letv (r1.1.1.set (r1.1.1.getD x1.1.toNat (0, 0, ())).2.1.toNat ((r1.1.1.getD (r1.1.1.getD x1.1.toNat (0, 0, ())).2.1.toNat (0, 0, ())).1, (-1), ())) fun l4 =>
        bif decide (r1.1.2.2.1.2.2.1 = 0) then
          k2 ((r1.1.1.getD x1.1.toNat (0, 0, ())).2.1, (r1.1.1.getD x1.1.toNat (0, 0, ())).2.1, IntKind.i64.wrap (r1.1.2.2.1.2.2.1 + 1), l4, l3)
        else
          chk (0 ≤ r1.1.2.2.1.2.1 ∧ r1.1.2.2.1.2.1 < (l4.length : Int)) <|
          letv (l4.set r1.1.2.2.1.2.1.toNat ((l4.getD r1.1.2.2.1.2.1.toNat (0, 0, ())).1, (r1.1.1.getD x1.1.toNat (0, 0, ())).2.1, ())) fun l5 =>
          k2 (r1.1.2.2.1.1, (r1.1.1.getD x1.1.toNat (0, 0, ())).2.1, IntKind.i64.wrap (r1.1.2.2.1.2.2.1 + 1), l5, l3)
      else
        letv (l1.set a0.toNat ((l1.getD a0.toNat (0, 0, 0, ())).1, (l1.getD a0.toNat (0, 0, 0, ())).2.1, IntKind.i64.wrap ((l1.getD a0.toNat (0, 0, 0, ())).2.2.1 - 1), ())) fun l6 =>
        chk (0 ≤ (r1.1.1.getD x1.1.toNat (0, 0, ())).2.1 ∧ (r1.1.1.getD x1.1.toNat (0, 0, ())).2.1 < (r1.1.1.length : Int)) <|
        letv (r1.1.1.set (r1.1.1.getD x1.1.toNat (0, 0, ())).2.1.toNat ((r1.1.1.getD (r1.1.1.getD x1.1.toNat (0, 0, ())).2.1.toNat (0, 0, ())).1, (-1), ())) fun l7 =>
        bif decide (r1.1.2.2.1.2.2.1 = 0) then
          k2 ((r1.1.1.getD x1.1.toNat (0, 0, ())).2.1, (r1.1.1.getD x1.1.toNat (0, 0, ())).2.1, IntKind.i64.wrap (r1.1.2.2.1.2.2.1 + 1), l7, l6)
        else
          chk (0 ≤ r1.1.2.2.1.2.1 ∧ r1.1.2.2.1.2.1 < (l7.length : Int)) <|
          letv (l7.set r1.1.2.2.1.2.1.toNat ((l7.getD r1.1.2.2.1.2.1.toNat (0, 0, ())).1, (r1.1.1.getD x1.1.toNat (0, 0, ())).2.1, ())) fun l8 =>
          k2 (r1.1.2.2.1.1, (r1.1.1.getD x1.1.toNat (0, 0, ())).2.1, IntKind.i64.wrap (r1.1.2.2.1.2.2.1 + 1), l8, l6)
    else
      chk (0 ≤ x1.1 ∧ x1.1 < (r1.1.1.length : Int)) <|
      letv (r1.1.1.set x1.1.toNat ((r1.1.1.getD x1.1.toNat (0, 0, ())).1, v1, ())) fun l9 =>
      bif decide ((r1.1.2.1.getD a0.toNat (0, 0, 0, ())).2.1 = (r1.1.1.getD x1.1.toNat (0, 0, ())).2.1) then
        letv (r1.1.2.1.set a0.toNat ((r1.1.2.1.getD a0.toNat (0, 0, 0, ())).1, x1.1, (r1.1.2.1.getD a0.toNat (0, 0, 0, ())).2.2.1, ())) fun l10 =>
        letv (l10.set a0.toNat ((l10.getD a0.toNat (0, 0, 0, ())).1, (l10.getD a0.toNat (0, 0, 0, ())).2.1, IntKind.i64.wrap ((l10.getD a0.toNat (0, 0, 0, ())).2.2.1 - 1), ())) fun l11 =>
        chk (0 ≤ (r1.1.1.getD x1.1.toNat (0, 0, ())).2.1 ∧ (r1.1.1.getD x1.1.toNat (0, 0, ())).2.1 < (l9.length : Int)) <|
        letv (l9.set (r1.1.1.getD x1.1.toNat (0, 0, ())).2.1.toNat ((l9.getD (r1.1.1.getD x1.1.toNat (0, 0, ())).2.1.toNat (0, 0, ())).1, (-1), ())) fun l12 =>
        bif decide (r1.1.2.2.1.2.2.1 = 0) then
          k2 ((r1.1.1.getD x1.1.toNat (0, 0, ())).2.1, (r1.1.1.getD x1.1.toNat (0, 0, ())).2.1, IntKind.i64.wrap (r1.1.2.2.1.2.2.1 + 1), l12, l11)
        else
          chk (0 ≤ r1.1.2.2.1.2.1 ∧ r1.1.2.2.1.2.1 < (l12.length : Int)) <|
          letv (l12.set r1.1.2.2.1.2.1.toNat ((l12.getD r1.1.2.2.1.2.1.toNat (0, 0, ())).1, (r1.1.1.getD x1.1.toNat (0, 0, ())).2.1, ())) fun l13 =>
          k2 (r1.1.2.2.1.1, (r1.1.1.getD x1.1.toNat (0, 0, ())).2.1, IntKind.i64.wrap (r1.1.2.2.1.2.2.1 + 1), l13, l11)
      else
        letv (r1.1.2.1.set a0.toNat ((r1.1.2.1.getD a0.toNat (0, 0, 0, ())).1, (r1.1.2.1.getD a0.toNat (0, 0, 0, ())).2.1, IntKind.i64.wrap ((r1.1.2.1.getD a0.toNat (0, 0, 0, ())).2.2.1 - 1), ())) fun l14 =>
        chk (0 ≤ (r1.1.1.getD x1.1.toNat (0, 0, ())).2.1 ∧ (r1.1.1.getD x1.1.toNat (0, 0, ())).2.1 < (l9.length : Int)) <|
        letv (l9.set (r1.1.1.getD x1.1.toNat (0, 0, ())).2.1.toNat ((l9.getD (r1.1.1.getD x1.1.toNat (0, 0, ())).2.1.toNat (0, 0, ())).1, (-1), ())) fun l15 =>
        bif decide (r1.1.2.2.1.2.2.1 = 0) then
          k2 ((r1.1.1.getD x1.1.toNat (0, 0, ())).2.1, (r1.1.1.getD x1.1.toNat (0, 0, ())).2.1, IntKind.i64.wrap (r1.1.2.2.1.2.2.1 + 1), l15, l14)
        else
          chk (0 ≤ r1.1.2.2.1.2.1 ∧ r1.1.2.2.1.2.1 < (l15.length : Int)) <|
          letv (l15.set r1.1.2.2.1.2.1.toNat ((l15.getD r1.1.2.2.1.2.1.toNat (0, 0, ())).1, (r1.1.1.getD x1.1.toNat (0, 0, ())).2.1, ())) fun l16 =>
          k2 (r1.1.2.2.1.1, (r1.1.1.getD x1.1.toNat (0, 0, ())).2.1, IntKind.i64.wrap (r1.1.2.2.1.2.2.1 + 1), l16, l14)
  else
    chk (0 ≤ (r1.1.2.1.getD a0.toNat (0, 0, 0, ())).1 ∧ (r1.1.2.1.getD a0.toNat (0, 0, 0, ())).1 < (r1.1.1.length : Int)) <|
    letv ((r1.1.1.getD (r1.1.2.1.getD a0.toNat (0, 0, 0, ())).1.toNat (0, 0, ())).2.1) fun v2 =>
    bif decide (x1.1 = (-1)) then
      letv (r1.1.2.1.set a0.toNat (v2, (r1.1.2.1.getD a0.toNat (0, 0, 0, ())).2.1, (r1.1.2.1.getD a0.toNat (0, 0, 0, ())).2.2.1, ())) fun l17 =>
      bif decide ((l17.getD a0.toNat (0, 0, 0, ())).2.1 = (r1.1.2.1.getD a0.toNat (0, 0, 0, ())).1) then
        letv (l17.set a0.toNat ((l17.getD a0.toNat (0, 0, 0, ())).1, x1.1, (l17.getD a0.toNat (0, 0, 0, ())).2.2.1, ())) fun l18 =>
        letv (l18.set a0.toNat ((l18.getD a0.toNat (0, 0, 0, ())).1, (l18.getD a0.toNat (0, 0, 0, ())).2.1, IntKind.i64.wrap ((l18.getD a0.toNat (0, 0, 0, ())).2.2.1 - 1), ())) fun l19 =>
        chk (0 ≤ (r1.1.2.1.getD a0.toNat (0, 0, 0, ())).1 ∧ (r1.1.2.1.getD a0.toNat (0, 0, 0, ())).1 < (r1.1.1.length : Int)) <|
        letv (r1.1.1.set (r1.1.2.1.getD a0.toNat (0, 0, 0, ())).1.toNat ((r1.1.1.getD (r1.1.2.1.getD a0.toNat (0, 0, 0, ())).1.toNat (0, 0, ())).1, (-1), ())) fun l20 =>
        bif decide (r1.1.2.2.1.2.2.1 = 0) then
          k2 ((r1.1.2.1.getD a0.toNat (0, 0, 0, ())).1, (r1.1.2.1.getD a0.toNat (0, 0, 0, ())).1, IntKind.i64.wrap (r1.1.2.2.1.2.2.1 + 1), l20, l19)
        else
          chk (0 ≤ r1.1.2.2.1.2.1 ∧ r1.1.2.2.1.2.1 < (l20.length : Int)) <|
          letv (l20.set r1.1.2.2.1.2.1.toNat ((l20.getD r1.1.2.2.1.2.1.toNat (0, 0, ())).1, (r1.1.2.1.getD a0.toNat (0, 0, 0, ())).1, ())) fun l21 =>
          k2 (r1.1.2.2.1.1, (r1.1.2.1.getD a0.toNat (0, 0, 0, ())).1, IntKind.i64.wrap (r1.1.2.2.1.2.2.1 + 1), l21, l19)
      else
        letv (l17.set a0.toNat ((l17.getD a0.toNat (0, 0, 0, ())).1, (l17.getD a0.toNat (0, 0, 0, ())).2.1, IntKind.i64.wrap ((l17.getD a0.toNat (0, 0, 0, ())).2.2.1 - 1), ())) fun l22 =>
        chk (0 ≤ (r1.1.2.1.getD a0.toNat (0, 0, 0, ())).1 ∧ (r1.1.2.1.getD a0.toNat (0, 0, 0, ())).1 < (r1.1.1.length : Int)) <|
        letv (r1.1.1.set (r1.1.2.1.getD a0.toNat (0, 0, 0, ())).1.toNat ((r1.1.1.getD (r1.1.2.1.getD a0.toNat (0, 0, 0, ())).1.toNat (0, 0, ())).1, (-1), ())) fun l23 =>
        bif decide (r1.1.2.2.1.2.2.1 = 0) then
          k2 ((r1.1.2.1.getD a0.toNat (0, 0, 0, ())).1, (r1.1.2.1.getD a0.toNat (0, 0, 0, ())).1, IntKind.i64.wrap (r1.1.2.2.1.2.2.1 + 1), l23, l22)
        else
          chk (0 ≤ r1.1.2.2.1.2.1 ∧ r1.1.2.2.1.2.1 < (l23.length : Int)) <|
          letv (l23.set r1.1.2.2.1.2.1.toNat ((l23.getD r1.1.2.2.1.2.1.toNat (0, 0, ())).1, (r1.1.2.1.getD a0.toNat (0, 0, 0, ())).1, ())) fun l24 =>
          k2 (r1.1.2.2.1.1, (r1.1.2.1.getD a0.toNat (0, 0, 0, ())).1, IntKind.i64.wrap (r1.1.2.2.1.2.2.1 + 1), l24, l22)
    else
      chk (0 ≤ x1.1 ∧ x1.1 < (r1.1.1.length : Int)) <|
      letv (r1.1.1.set x1.1.toNat ((r1.1.1.getD x1.1.toNat (0, 0, ())).1, v2, ())) fun l25 =>
      bif decide ((r1.1.2.1.getD a0.toNat (0, 0, 0, ())).2.1 = (r1.1.2.1.getD a0.toNat (0, 0, 0, ())).1) then
        letv (r1.1.2.1.set a0.toNat ((r1.1.2.1.getD a0.toNat (0, 0, 0, ())).1, x1.1, (r1.1.2.1.getD a0.toNat (0, 0, 0, ())).2.2.1, ())) fun l26 =>
        letv (l26.set a0.toNat ((l26.getD a0.toNat (0, 0, 0, ())).1, (l26.getD a0.toNat (0, 0, 0, ())).2.1, IntKind.i64.wrap ((l26.getD a0.toNat (0, 0, 0, ())).2.2.1 - 1), ())) fun l27 =>
        chk (0 ≤ (r1.1.2.1.getD a0.toNat (0, 0, 0, ())).1 ∧ (r1.1.2.1.getD a0.toNat (0, 0, 0, ())).1 < (l25.length : Int)) <|
        letv (l25.set (r1.1.2.1.getD a0.toNat (0, 0, 0, ())).1.toNat ((l25.getD (r1.1.2.1.getD a0.toNat (0, 0, 0, ())).1.toNat (0, 0, ())).1, (-1), ())) fun l28 =>
        bif decide (r1.1.2.2.1.2.2.1 = 0) then
          k2 ((r1.1.2.1.getD a0.toNat (0, 0, 0, ())).1, (r1.1.2.1.getD a0.toNat (0, 0, 0, ())).1, IntKind.i64.wrap (r1.1.2.2.1.2.2.1 + 1), l28, l27)
        else
          chk (0 ≤ r1.1.2.2.1.2.1 ∧ r1.1.2.2.1.2.1 < (l28.length : Int)) <|
          letv (l28.set r1.1.2.2.1.2.1.toNat ((l28.getD r1.1.2.2.1.2.1.toNat (0, 0, ())).1, (r1.1.2.1.getD a0.toNat (0, 0, 0, ())).1, ())) fun l29 =>
          k2 (r1.1.2.2.1.1, (r1.1.2.1.getD a0.toNat (0, 0, 0, ())).1, IntKind.i64.wrap (r1.1.2.2.1.2.2.1 + 1), l29, l27)
      else
        letv (r1.1.2.1.set a0.toNat ((r1.1.2.1.getD a0.toNat (0, 0, 0, ())).1, (r1.1.2.1.getD a0.toNat (0, 0, 0, ())).2.1, IntKind.i64.wrap ((r1.1.2.1.getD a0.toNat (0, 0, 0, ())).2.2.1 - 1), ())) fun l30 =>
        chk (0 ≤ (r1.1.2.1.getD a0.toNat (0, 0, 0, ())).1 ∧ (r1.1.2.1.getD a0.toNat (0, 0, 0, ())).1 < (l25.length : Int)) <|
        letv (l25.set (r1.1.2.1.getD a0.toNat (0, 0, 0, ())).1.toNat ((l25.getD (r1.1.2.1.getD a0.toNat (0, 0, 0, ())).1.toNat (0, 0, ())).1, (-1), ())) fun l31 =>
        bif decide (r1.1.2.2.1.2.2.1 = 0) then
          k2 ((r1.1.2.1.getD a0.toNat (0, 0, 0, ())).1, (r1.1.2.1.getD a0.toNat (0, 0, 0, ())).1, IntKind.i64.wrap (r1.1.2.2.1.2.2.1 + 1), l31, l30)
        else
          chk (0 ≤ r1.1.2.2.1.2.1 ∧ r1.1.2.2.1.2.1 < (l31.length : Int)) <|
          letv (l31.set r1.1.2.2.1.2.1.toNat ((l31.getD r1.1.2.2.1.2.1.toNat (0, 0, ())).1, (r1.1.2.1.getD a0.toNat (0, 0, 0, ())).1, ())) fun l32 =>
          k2 (r1.1.2.2.1.1, (r1.1.2.1.getD a0.toNat (0, 0, 0, ())).1, IntKind.i64.wrap (r1.1.2.2.1.2.2.1 + 1), l32, l30)
def queue_Pool_Remove_R1 (x2 : Int × Int × Int × (List (Int × Int × Unit)) × (List (Int × Int × Int × Unit))) : Option (((List (Int × Int × Unit)) × (List (Int × Int × Int × Unit)) × (Int × Int × Int × Unit) × Unit) × (Bool × Unit)) :=
  some ((x2.2.2.2.1, x2.2.2.2.2, (x2.1, x2.2.1, x2.2.2.1, ()), ()), (true, ()))
def queue_Pool_Remove_L1 (r1 : ((List (Int × Int × Unit)) × (List (Int × Int × Int × Unit)) × (Int × Int × Int × Unit) × Unit) × (Bool × Unit)) (a1 : Int) (a0 : Int) (k1 : (Int × Int) → Option (((List (Int × Int × Unit)) × (List (Int × Int × Int × Unit)) × (Int × Int × Int × Unit) × Unit) × (Bool × Unit))) (x1 : Int × Int) : Option (((List (Int × Int × Unit)) × (List (Int × Int × Int × Unit)) × (Int × Int × Int × Unit) × Unit) × (Bool × Unit)) :=
  bif decide (x1.2 = (-1)) then
    some (r1.1, (false, ()))
  else
    chk (0 ≤ x1.2 ∧ x1.2 < (r1.1.1.length : Int)) <|
    bif !decide ((r1.1.1.getD x1.2.toNat (0, 0, ())).1 = a1) then
      chk (0 ≤ x1.2 ∧ x1.2 < (r1.1.1.length : Int)) <|
      k1 (x1.2, (r1.1.1.getD x1.2.toNat (0, 0, ())).2.1)
    else
      cutv 1 (queue_Pool_Remove_C1 x1 r1 a0) queue_Pool_Remove_R1
def queue_Pool_Remove (x : (List (Int × Int × Unit)) × (List (Int × Int × Int × Unit)) × (Int × Int × Int × Unit) × Unit) (a0 : Int) (a1 : Int) : Option (((List (Int × Int × Unit)) × (List (Int × Int × Int × Unit)) × (Int × Int × Int × Unit) × Unit) × (Bool × Unit)) :=
  Option.bind (queue_Pool_ok x) fun r1 =>
  bif !r1.2.1 then
    some (r1.1, (false, ()))
  else
    bif decide (a0 < 0) then
      some (r1.1, (false, ()))
    else
      bif decide (a0 ≥ (r1.1.2.1.length : Int)) then
        some (r1.1, (false, ()))
      else
        chk (0 ≤ a0 ∧ a0 < (r1.1.2.1.length : Int)) <|
        loop (queue_Pool_Remove_L1 r1 a1 a0) ((-1), (r1.1.2.1.getD a0.toNat (0, 0, 0, ())).1)
def queue_Pool_First (x : (List (Int × Int × Unit)) × (List (Int × Int × Int × Unit)) × (Int × Int × Int × Unit) × Unit) (a0 : Int) : Option (((List (Int × Int × Unit)) × (List (Int × Int × Int × Unit)) × (Int × Int × Int × Unit) × Unit) × (Int × Int × Unit)) :=
  Option.bind (queue_Pool_ok x) fun r1 =>
  bif !r1.2.1 then
    some (r1.1, (0, 2, ()))
  else
    bif decide (a0 < 0) then
      some (r1.1, (0, 8, ()))
    else
      bif decide (a0 ≥ (r1.1.2.1.length : Int)) then
        some (r1.1, (0, 8, ()))
      else
        chk (0 ≤ a0 ∧ a0 < (r1.1.2.1.length : Int)) <|
        letv (decide ((r1.1.2.1.getD a0.toNat (0, 0, 0, ())).2.2.1 = 0)) fun v1 =>
        bif v1 then
          some (r1.1, (0, 11, ()))
        else
          chk (0 ≤ (r1.1.2.1.getD a0.toNat (0, 0, 0, ())).1 ∧ (r1.1.2.1.getD a0.toNat (0, 0, 0, ())).1 < (r1.1.1.length : Int)) <|
          letv ((r1.1.1.getD (r1.1.2.1.getD a0.toNat (0, 0, 0, ())).1.toNat (0, 0, ())).1) fun v2 =>
          some (r1.1, (v2, 0, ()))
def queue_Pool_Pop_C1 (a0 : Int) (r1 : ((List (Int × Int × Unit)) × (List (Int × Int × Int × Unit)) × (Int × Int × Int × Unit) × Unit) × (Int × Int × Unit)) (k1 : (Int × Int × Int × Int × (List (Int × Int × Unit)) × (List (Int × Int × Int × Unit))) → Option (((List (Int × Int × Unit)) × (List (Int × Int × Int × Unit)) × (Int × Int × Int × Unit) × Unit) × (Int × Int × Unit))) : Option (((List (Int × Int × Unit)) × (List (Int × Int × Int × Unit)) × (Int × Int × Int × Unit) × Unit) × (Int × Int × Unit)) :=
  chk (0 ≤ a0 ∧ a0 < (r1.1.2.1.length : Int)) <|
  chk (0 ≤ (r1.1.2.1.getD a0.toNat (0, 0, 0, ())).1 ∧ (r1.1.2.1.getD a0.toNat (0, 0, 0, ())).1 < (r1.1.1.length : Int)) <|
  letv ((r1.1.1.getD (r1.1.2.1.getD a0.toNat (0, 0, 0, ())).1.toNat (0, 0, ())).2.1) fun v1 =>
  letv (r1.1.2.1.set a0.toNat (v1, (r1.1.2.1.getD a0.toNat (0, 0, 0, ())).2.1, (r1.1.2.1.getD a0.toNat (0, 0, 0, ())).2.2.1, ())) fun l1 =>
  bif decide ((l1.getD a0.toNat (0, 0, 0, ())).2.1 = (r1.1.2.1.getD a0.toNat (0, 0, 0, ())).1) then
    letv (l1.set a0.toNat ((l1.getD a0.toNat (0, 0, 0, ())).1, (-1), (l1.getD a0.toNat (0, 0, 0, ())).2.2.1, ())) fun l2 =>
    letv (l2.set a0.toNat ((l2.getD a0.toNat (0, 0, 0, ())).1, (l2.getD a0.toNat (0, 0, 0, ())).2.1, IntKind.i64.wrap ((l2.getD a0.toNat (0, 0, 0, ())).2.2.1 - 1), ())) fun l3 =>
    chk (0 ≤ (r1.1.2.1.getD a0.toNat (0, 0, 0, ())).1 ∧ (r1.1.2.1.getD a0.toNat (0, 0, 0, ())).1 < (r1.1.1.length : Int)) <|
    letv (r1.1.1.set (r1.1.2.1.getD a0.toNat (0, 0, 0, ())).1.toNat ((r1.1.1.getD (r1.1.2.1.getD a0.toNat (0, 0, 0, ())).1.toNat (0, 0, ())).1, (-1), ())) fun l4 =>
    bif decide (r1.1.2.2.1.2.2.1 = 0) then
      k1 (r1.2.1, (r1.1.2.1.getD a0.toNat (0, 0, 0, ())).1, (r1.1.2.1.getD a0.toNat (0, 0, 0, ())).1, IntKind.i64.wrap (r1.1.2.2.1.2.2.1 + 1), l4, l3)
    else
      chk (0 ≤ r1.1.2.2.1.2.1 ∧ r1.1.2.2.1.2.1 < (l4.length : Int)) <|
      letv (l4.set r1.1.2.2.1.2.1.toNat ((l4.getD r1.1.2.2.1.2.1.toNat (0, 0, ())).1, (r1.1.2.1.getD a0.toNat (0, 0, 0, ())).1, ())) fun l5 =>
      k1 (r1.2.1, r1.1.2.2.1.1, (r1.1.2.1.getD a0.toNat (0, 0, 0, ())).1, IntKind.i64.wrap (r1.1.2.2.1.2.2.1 + 1), l5, l3)
  else
    letv (l1.set a0.toNat ((l1.getD a0.toNat (0, 0, 0, ())).1, (l1.getD a0.toNat (0, 0, 0, ())).2.1, IntKind.i64.wrap ((l1.getD a0.toNat (0, 0, 0, ())).2.2.1 - 1), ())) fun l6 =>
    chk (0 ≤ (r1.1.2.1.getD a0.toNat (0, 0, 0, ())).1 ∧ (r1.1.2.1.getD a0.toNat (0, 0, 0, ())).1 < (r1.1.1.length : Int)) <|
    letv (r1.1.1.set (r1.1.2.1.getD a0.toNat (0, 0, 0, ())).1.toNat ((r1.1.1.getD (r1.1.2.1.getD a0.toNat (0, 0, 0, ())).1.toNat (0, 0, ())).1, (-1), ())) fun l7 =>
    bif decide (r1.1.2.2.1.2.2.1 = 0) then
      k1 (r1.2.1, (r1.1.2.1.getD a0.toNat (0, 0, 0, ())).1, (r1.1.2.1.getD a0.toNat (0, 0, 0, ())).1, IntKind.i64.wrap (r1.1.2.2.1.2.2.1 + 1), l7, l6)
    else
      chk (0 ≤ r1.1.2.2.1.2.1 ∧ r1.1.2.2.1.2.1 < (l7.length : Int)) <|
      letv (l7.set r1.1.2.2.1.2.1.toNat ((l7.getD r1.1.2.2.1.2.1.toNat (0, 0, ())).1, (r1.1.2.1.getD a0.toNat (0, 0, 0, ())).1, ())) fun l8 =>
      k1 (r1.2.1, r1.1.2.2.1.1, (r1.1.2.1.getD a0.toNat (0, 0, 0, ())).1, IntKind.i64.wrap (r1.1.2.2.1.2.2.1 + 1), l8, l6)
def queue_Pool_Pop_R1 (x1 : Int × Int × Int × Int × (List (Int × Int × Unit)) × (List (Int × Int × Int × Unit))) : Option (((List (Int × Int × Unit)) × (List (Int × Int × Int × Unit)) × (Int × Int × Int × Unit) × Unit) × (Int × Int × Unit)) :=
  some ((x1.2.2.2.2.1, x1.2.2.2.2.2, (x1.2.1, x1.2.2.1, x1.2.2.2.1, ()), ()), (x1.1, 0, ()))
def queue_Pool_Pop (x : (List (Int × Int × Unit)) × (List (Int × Int × Int × Unit)) × (Int × Int × Int × Unit) × Unit) (a0 : Int) : Option (((List (Int × Int × Unit)) × (List (Int × Int × Int × Unit)) × (Int × Int × Int × Unit) × Unit) × (Int × Int × Unit)) :=
  Option.bind (queue_Pool_First x a0) fun r1 =>
  bif !decide (r1.2.2.1 = 0) then
    some (r1.1, (0, r1.2.2.1, ()))
  else
    cutv 1 (queue_Pool_Pop_C1 a0 r1) queue_Pool_Pop_R1
def queue_Pool_Push_C1 (r1 : ((List (Int × Int × Unit)) × (List (Int × Int × Int × Unit)) × (Int × Int × Int × Unit) × Unit) × (Bool × Unit)) (a1 : Int) (a0 : Int) (k1 : (Int × Int × Int × Int × Int × Int × (List (Int × Int × Unit)) × (List (Int × Int × Int × Unit))) → Option (((List (Int × Int × Unit)) × (List (Int × Int × Int × Unit)) × (Int × Int × Int × Unit) × Unit) × (Int × Unit))) : Option (((List (Int × Int × Unit)) × (List (Int × Int × Int × Unit)) × (Int × Int × Int × Unit) × Unit) × (Int × Unit)) :=
  chk (0 ≤ r1.1.2.2.1.1 ∧ r1.1.2.2.1.1 < (r1.1.1.length : Int)) <|
  letv ((r1.1.1.getD r1.1.2.2.1.1.toNat (0, 0, ())).2.1) fun v1 =>
  bif decide (r1.1.2.2.1.2.1 = r1.1.2.2.1.1) then
    k1 (a1, a0, r1.1.2.2.1.1, v1, (-1), IntKind.i64.wrap (r1.1.2.2.1.2.2.1 - 1), r1.1.1, r1.1.2.1)
  else
    k1 (a1, a0, r1.1.2.2.1.1, v1, r1.1.2.2.1.2.1, IntKind.i64.wrap (r1.1.2.2.1.2.2.1 - 1), r1.1.1, r1.1.2.1)
def queue_Pool_Push_C2 (x1 : Int × Int × Int × Int × Int × Int × (List (Int × Int × Unit)) × (List (Int × Int × Int × Unit))) (l1 : List (Int × Int × Unit)) (k2 : (Int × Int × Int × (List (Int × Int × Unit)) × (List (Int × Int × Int × Unit))) → Option (((List (Int × Int × Unit)) × (List (Int × Int × Int × Unit)) × (Int × Int × Int × Unit) × Unit) × (Int × Unit))) : Option (((List (Int × Int × Unit)) × (List (Int × Int × Int × Unit)) × (Int × Int × Int × Unit) × Unit) × (Int × Unit)) :=
  chk (0 ≤ x1.2.2.1 ∧ x1.2.2.1 < (l1.length : Int)) <|
  letv (l1.set x1.2.2.1.toNat ((l1.getD x1.2.2.1.toNat (0, 0, ())).1, (-1), ())) fun l2 =>
  bif decide ((x1.2.2.2.2.2.2.2.getD x1.2.1.toNat (0, 0, 0, ())).2.2.1 = 0) then
    letv (x1.2.2.2.2.2.2.2.set x1.2.1.toNat (x1.2.2.1, (x1.2.2.2.2.2.2.2.getD x1.2.1.toNat (0, 0, 0, ())).2.1, (x1.2.2.2.2.2.2.2.getD x1.2.1.toNat (0, 0, 0, ())).2.2.1, ())) fun l3 =>
    letv (l3.set x1.2.1.toNat ((l3.getD x1.2.1.toNat (0, 0, 0, ())).1, x1.2.2.1, (l3.getD x1.2.1.toNat (0, 0, 0, ())).2.2.1, ())) fun l4 =>
    letv (l4.set x1.2.1.toNat ((l4.getD x1.2.1.toNat (0, 0, 0, ())).1, (l4.getD x1.2.1.toNat (0, 0, 0, ())).2.1, IntKind.i64.wrap ((l4.getD x1.2.1.toNat (0, 0, 0, ())).2.2.1 + 1), ())) fun l5 =>
    k2 (x1.2.2.2.1, x1.2.2.2.2.1, x1.2.2.2.2.2.1, l2, l5)
  else
    chk (0 ≤ (x1.2.2.2.2.2.2.2.getD x1.2.1.toNat (0, 0, 0, ())).2.1 ∧ (x1.2.2.2.2.2.2.2.getD x1.2.1.toNat (0, 0, 0, ())).2.1 < (l2.length : Int)) <|
    letv (l2.set (x1.2.2.2.2.2.2.2.getD x1.2.1.toNat (0, 0, 0, ())).2.1.toNat ((l2.getD (x1.2.2.2.2.2.2.2.getD x1.2.1.toNat (0, 0, 0, ())).2.1.toNat (0, 0, ())).1, x1.2.2.1, ())) fun l6 =>
    letv (x1.2.2.2.2.2.2.2.set x1.2.1.toNat ((x1.2.2.2.2.2.2.2.getD x1.2.1.toNat (0, 0, 0, ())).1, x1.2.2.1, (x1.2.2.2.2.2.2.2.getD x1.2.1.toNat (0, 0, 0, ())).2.2.1, ())) fun l7 =>
    letv (l7.set x1.2.1.toNat ((l7.getD x1.2.1.toNat (0, 0, 0, ())).1, (l7.getD x1.2.1.toNat (0, 0, 0, ())).2.1, IntKind.i64.wrap ((l7.getD x1.2.1.toNat (0, 0, 0, ())).2.2.1 + 1), ())) fun l8 =>
    k2 (x1.2.2.2.1, x1.2.2.2.2.1, x1.2.2.2.2.2.1, l6, l8)
def queue_Pool_Push_R2 (x2 : Int × Int × Int × (List (Int × Int × Unit)) × (List (Int × Int × Int × Unit))) : Option (((List (Int × Int × Unit)) × (List (Int × Int × Int × Unit)) × (Int × Int × Int × Unit) × Unit) × (Int × Unit)) :=
  some ((x2.2.2.2.1, x2.2.2.2.2, (x2.1, x2.2.1, x2.2.2.1, ()), ()), (0, ()))
def queue_Pool_Push_R1 (x1 : Int × Int × Int × Int × Int × Int × (List (Int × Int × Unit)) × (List (Int × Int × Int × Unit))) : Option (((List (Int × Int × Unit)) × (List (Int × Int × Int × Unit)) × (Int × Int × Int × Unit) × Unit) × (Int × Unit)) :=
  chk (0 ≤ x1.2.2.1 ∧ x1.2.2.1 < (x1.2.2.2.2.2.2.1.length : Int)) <|
  letv (x1.2.2.2.2.2.2.1.set x1.2.2.1.toNat (x1.1, (x1.2.2.2.2.2.2.1.getD x1.2.2.1.toNat (0, 0, ())).2.1, ())) fun l1 =>
  cutv 2 (queue_Pool_Push_C2 x1 l1) queue_Pool_Push_R2
def queue_Pool_Push (x : (List (Int × Int × Unit)) × (List (Int × Int × Int × Unit)) × (Int × Int × Int × Unit) × Unit) (a0 : Int) (a1 : Int) : Option (((List (Int × Int × Unit)) × (List (Int × Int × Int × Unit)) × (Int × Int × Int × Unit) × Unit) × (Int × Unit)) :=
  Option.bind (queue_Pool_ok x) fun r1 =>
  bif !r1.2.1 then
    some (r1.1, (2, ()))
  else
    bif decide (a0 < 0) then
      some (r1.1, (8, ()))
    else
      bif decide (a0 ≥ (r1.1.2.1.length : Int)) then
        some (r1.1, (8, ()))
      else
        chk (0 ≤ a0 ∧ a0 < (r1.1.2.1.length : Int)) <|
        bif decide (r1.1.2.2.1.2.2.1 = 0) then
          some (r1.1, (10, ()))
        else
          cutv 1 (queue_Pool_Push_C1 r1 a1 a0) queue_Pool_Push_R1
def queue_Pool_Free (x : (List (Int × Int × Unit)) × (List (Int × Int × Int × Unit)) × (Int × Int × Int × Unit) × Unit) : Option (((List (Int × Int × Unit)) × (List (Int × Int × Int × Unit)) × (Int × Int × Int × Unit) × Unit) × (Int × Unit)) :=
  Option.bind (queue_Pool_ok x) fun r1 =>
  bif !r1.2.1 then
    some (r1.1, (0, ()))
  else
    some (r1.1, (r1.1.2.2.1.2.2.1, ()))
def queue_Pool_List_J1 (r1 : ((List (Int × Int × Unit)) × (List (Int × Int × Int × Unit)) × (Int × Int × Int × Unit) × Unit) × (Bool × Unit)) (p1 : List Int) : Option (((List (Int × Int × Unit)) × (List (Int × Int × Int × Unit)) × (Int × Int × Int × Unit) × Unit) × ((List Int) × Unit)) :=
  some (r1.1, (p1, ()))
def queue_Pool_List_L1 (r1 : ((List (Int × Int × Unit)) × (List (Int × Int × Int × Unit)) × (Int × Int × Int × Unit) × Unit) × (Bool × Unit)) (k1 : (Int × List Int) → Option (((List (Int × Int × Unit)) × (List (Int × Int × Int × Unit)) × (Int × Int × Int × Unit) × Unit) × ((List Int) × Unit))) (x1 : Int × List Int) : Option (((List (Int × Int × Unit)) × (List (Int × Int × Int × Unit)) × (Int × Int × Int × Unit) × Unit) × ((List Int) × Unit)) :=
  bif !decide (x1.1 = (-1)) then
    chk (0 ≤ x1.1 ∧ x1.1 < (r1.1.1.length : Int)) <|
    chk (x1.2.length + ([(r1.1.1.getD x1.1.toNat (0, 0, ())).1] : List Int).length ≤ 4294967296) <|
    letv (x1.2 ++ [(r1.1.1.getD x1.1.toNat (0, 0, ())).1]) fun l1 =>
    chk (0 ≤ x1.1 ∧ x1.1 < (r1.1.1.length : Int)) <|
    k1 ((r1.1.1.getD x1.1.toNat (0, 0, ())).2.1, l1)
  else
    queue_Pool_List_J1 r1 x1.2
def queue_Pool_List (x : (List (Int × Int × Unit)) × (List (Int × Int × Int × Unit)) × (Int × Int × Int × Unit) × Unit) (a0 : Int) : Option (((List (Int × Int × Unit)) × (List (Int × Int × Int × Unit)) × (Int × Int × Int × Unit) × Unit) × ((List Int) × Unit)) :=
  Option.bind (queue_Pool_ok x) fun r1 =>
  bif !r1.2.1 then
    some (r1.1, ([], ()))
  else
    bif decide (a0 < 0) then
      some (r1.1, ([], ()))
    else
      bif decide (a0 ≥ (r1.1.2.1.length : Int)) then
        some (r1.1, ([], ()))
      else
        chk (0 ≤ a0 ∧ a0 < (r1.1.2.1.length : Int)) <|
        loop (queue_Pool_List_L1 r1) ((r1.1.2.1.getD a0.toNat (0, 0, 0, ())).1, [])
def queue_Pool_Len (x : (List (Int × Int × Unit)) × (List (Int × Int × Int × Unit)) × (Int × Int × Int × Unit) × Unit) (a0 : Int) : Option (((List (Int × Int × Unit)) × (List (Int × Int × Int × Unit)) × (Int × Int × Int × Unit) × Unit) × (Int × Unit)) :=
  Option.bind (queue_Pool_ok x) fun r1 =>
  bif !r1.2.1 then
    some (r1.1, (0, ()))
  else
    bif decide (a0 < 0) then
      some (r1.1, (0, ()))
    else
      bif decide (a0 ≥ (r1.1.2.1.length : Int)) then
        some (r1.1, (0, ()))
      else
        chk (0 ≤ a0 ∧ a0 < (r1.1.2.1.length : Int)) <|
        letv ((r1.1.2.1.getD a0.toNat (0, 0, 0, ())).2.2.1) fun v1 =>
        some (r1.1, (v1, ()))
end Go.Proofs.YtiicmhholjpcbaaV
