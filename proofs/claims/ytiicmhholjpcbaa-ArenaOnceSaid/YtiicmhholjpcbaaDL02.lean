import Derived.Test.YtiicmhholjpcbaaVcG1
import Derived.Test.YtiicmhholjpcbaaDR02
import Derived.Test.YtiicmhholjpcbaaDhandle
namespace Go.Proofs.YtiicmhholjpcbaaV
set_option linter.unusedVariables false
def L02_alive_J1 (k1 : (Int × Int × (List (Int × Bool × Int × Unit)) × Int) → Option Bool) (l1 : List (Int × Bool × Int × Unit)) : Option Bool :=
  k1 (0, 10, l1, 0)
def L02_alive_L1 (p1 : Int) (l1 : List (Int × Bool × Int × Unit)) (k1 : (Int × Int × (List (Int × Bool × Int × Unit)) × Int) → Option Bool) (k2 : Int → Option Bool) (x2 : Int) : Option Bool :=
  bif decide (x2 < p1) then
    chk (0 ≤ x2 ∧ x2 < (l1.length : Int)) <|
    bif !(l1.getD x2.toNat (0, false, 0, ())).2.1 then
      chk (0 ≤ x2 ∧ x2 < (l1.length : Int)) <|
      letv (decide ((l1.getD x2.toNat (0, false, 0, ())).1 < 2)) fun v1 =>
      bif v1 then
        chk (0 ≤ x2 ∧ x2 < (l1.length : Int)) <|
        letv (l1.set x2.toNat (IntKind.i64.wrap ((l1.getD x2.toNat (0, false, 0, ())).1 + 1), (l1.getD x2.toNat (0, false, 0, ())).2.1, (l1.getD x2.toNat (0, false, 0, ())).2.2.1, ())) fun l2 =>
        letv (l2.set x2.toNat ((l2.getD x2.toNat (0, false, 0, ())).1, true, (l2.getD x2.toNat (0, false, 0, ())).2.2.1, ())) fun l3 =>
        letv (l3.set x2.toNat ((l3.getD x2.toNat (0, false, 0, ())).1, (l3.getD x2.toNat (0, false, 0, ())).2.1, 5, ())) fun l4 =>
        Option.bind (handle_Make x2 (l4.getD x2.toNat (0, false, 0, ())).1) fun r1 =>
        k1 (r1.1, r1.2.1, l4, 1)
      else
        k2 (IntKind.i64.wrap (x2 + 1))
    else
      k2 (IntKind.i64.wrap (x2 + 1))
  else
    L02_alive_J1 k1 l1
def L02_alive_C1 (l1 : List (Int × Bool × Int × Unit)) (k1 : (Int × Int × (List (Int × Bool × Int × Unit)) × Int) → Option Bool) : Option Bool :=
  bif !(decide ((l1.length : Int) > 0)) then
    k1 (0, 2, l1, 0)
  else
    loop (L02_alive_L1 (l1.length : Int) l1 k1) 0
def L02_alive_C2 (x1 : Int × Int × (List (Int × Bool × Int × Unit)) × Int) (k3 : (Int × Int × Int × (List (Int × Bool × Int × Unit)) × Int) → Option Bool) : Option Bool :=
  bif !(decide ((x1.2.2.1.length : Int) > 0)) then
    k3 (x1.1, x1.2.1, 2, x1.2.2.1, x1.2.2.2)
  else
    Option.bind (handle_Slot x1.1) fun r2 =>
    bif decide (r2 < 0) then
      k3 (x1.1, x1.2.1, 8, x1.2.2.1, x1.2.2.2)
    else
      bif decide (r2 ≥ (x1.2.2.1.length : Int)) then
        k3 (x1.1, x1.2.1, 8, x1.2.2.1, x1.2.2.2)
      else
        chk (0 ≤ r2 ∧ r2 < (x1.2.2.1.length : Int)) <|
        bif !(x1.2.2.1.getD r2.toNat (0, false, 0, ())).2.1 then
          k3 (x1.1, x1.2.1, 9, x1.2.2.1, x1.2.2.2)
        else
          Option.bind (handle_Gen x1.1) fun r3 =>
          bif !decide ((x1.2.2.1.getD r2.toNat (0, false, 0, ())).1 = r3) then
            k3 (x1.1, x1.2.1, 9, x1.2.2.1, x1.2.2.2)
          else
            letv (x1.2.2.1.set r2.toNat ((x1.2.2.1.getD r2.toNat (0, false, 0, ())).1, false, (x1.2.2.1.getD r2.toNat (0, false, 0, ())).2.2.1, ())) fun l5 =>
            letv (l5.set r2.toNat ((l5.getD r2.toNat (0, false, 0, ())).1, (l5.getD r2.toNat (0, false, 0, ())).2.1, 0, ())) fun l6 =>
            k3 (x1.1, x1.2.1, 0, l6, IntKind.i64.wrap (x1.2.2.2 - 1))
def L02_alive_J2 (k4 : (Int × Int × Int × Int × Int × (List (Int × Bool × Int × Unit)) × Int) → Option Bool) (x3 : Int × Int × Int × (List (Int × Bool × Int × Unit)) × Int) : Option Bool :=
  k4 (x3.1, x3.2.1, x3.2.2.1, 0, 10, x3.2.2.2.1, x3.2.2.2.2)
def L02_alive_L2 (p2 : Int) (x3 : Int × Int × Int × (List (Int × Bool × Int × Unit)) × Int) (k4 : (Int × Int × Int × Int × Int × (List (Int × Bool × Int × Unit)) × Int) → Option Bool) (k5 : Int → Option Bool) (x5 : Int) : Option Bool :=
  bif decide (x5 < p2) then
    chk (0 ≤ x5 ∧ x5 < (x3.2.2.2.1.length : Int)) <|
    bif !(x3.2.2.2.1.getD x5.toNat (0, false, 0, ())).2.1 then
      chk (0 ≤ x5 ∧ x5 < (x3.2.2.2.1.length : Int)) <|
      letv (decide ((x3.2.2.2.1.getD x5.toNat (0, false, 0, ())).1 < 2)) fun v2 =>
      bif v2 then
        chk (0 ≤ x5 ∧ x5 < (x3.2.2.2.1.length : Int)) <|
        letv (x3.2.2.2.1.set x5.toNat (IntKind.i64.wrap ((x3.2.2.2.1.getD x5.toNat (0, false, 0, ())).1 + 1), (x3.2.2.2.1.getD x5.toNat (0, false, 0, ())).2.1, (x3.2.2.2.1.getD x5.toNat (0, false, 0, ())).2.2.1, ())) fun l7 =>
        letv (l7.set x5.toNat ((l7.getD x5.toNat (0, false, 0, ())).1, true, (l7.getD x5.toNat (0, false, 0, ())).2.2.1, ())) fun l8 =>
        letv (l8.set x5.toNat ((l8.getD x5.toNat (0, false, 0, ())).1, (l8.getD x5.toNat (0, false, 0, ())).2.1, 6, ())) fun l9 =>
        Option.bind (handle_Make x5 (l9.getD x5.toNat (0, false, 0, ())).1) fun r4 =>
        k4 (x3.1, x3.2.1, x3.2.2.1, r4.1, r4.2.1, l9, IntKind.i64.wrap (x3.2.2.2.2 + 1))
      else
        k5 (IntKind.i64.wrap (x5 + 1))
    else
      k5 (IntKind.i64.wrap (x5 + 1))
  else
    L02_alive_J2 k4 x3
def L02_alive_C3 (x3 : Int × Int × Int × (List (Int × Bool × Int × Unit)) × Int) (k4 : (Int × Int × Int × Int × Int × (List (Int × Bool × Int × Unit)) × Int) → Option Bool) : Option Bool :=
  bif !(decide ((x3.2.2.2.1.length : Int) > 0)) then
    k4 (x3.1, x3.2.1, x3.2.2.1, 0, 2, x3.2.2.2.1, x3.2.2.2.2)
  else
    loop (L02_alive_L2 (x3.2.2.2.1.length : Int) x3 k4) 0
def L02_alive_C4 (x4 : Int × Int × Int × Int × Int × (List (Int × Bool × Int × Unit)) × Int) (k6 : (Int × Int × Int × Int × Int × Int × Int × (List (Int × Bool × Int × Unit)) × Int) → Option Bool) : Option Bool :=
  letv (decide ((x4.2.2.2.2.2.1.length : Int) > 0)) fun v3 =>
  bif !v3 then
    k6 (x4.1, x4.2.1, x4.2.2.1, x4.2.2.2.1, x4.2.2.2.2.1, 0, 2, x4.2.2.2.2.2.1, x4.2.2.2.2.2.2)
  else
    Option.bind (handle_Slot x4.2.2.2.1) fun r5 =>
    bif decide (r5 < 0) then
      k6 (x4.1, x4.2.1, x4.2.2.1, x4.2.2.2.1, x4.2.2.2.2.1, 0, 8, x4.2.2.2.2.2.1, x4.2.2.2.2.2.2)
    else
      bif decide (r5 ≥ (x4.2.2.2.2.2.1.length : Int)) then
        k6 (x4.1, x4.2.1, x4.2.2.1, x4.2.2.2.1, x4.2.2.2.2.1, 0, 8, x4.2.2.2.2.2.1, x4.2.2.2.2.2.2)
      else
        chk (0 ≤ r5 ∧ r5 < (x4.2.2.2.2.2.1.length : Int)) <|
        bif !(x4.2.2.2.2.2.1.getD r5.toNat (0, false, 0, ())).2.1 then
          k6 (x4.1, x4.2.1, x4.2.2.1, x4.2.2.2.1, x4.2.2.2.2.1, 0, 9, x4.2.2.2.2.2.1, x4.2.2.2.2.2.2)
        else
          Option.bind (handle_Gen x4.2.2.2.1) fun r6 =>
          bif !decide ((x4.2.2.2.2.2.1.getD r5.toNat (0, false, 0, ())).1 = r6) then
            k6 (x4.1, x4.2.1, x4.2.2.1, x4.2.2.2.1, x4.2.2.2.2.1, 0, 9, x4.2.2.2.2.2.1, x4.2.2.2.2.2.2)
          else
            letv ((x4.2.2.2.2.2.1.getD r5.toNat (0, false, 0, ())).2.2.1) fun v4 =>
            k6 (x4.1, x4.2.1, x4.2.2.1, x4.2.2.2.1, x4.2.2.2.2.1, v4, 0, x4.2.2.2.2.2.1, x4.2.2.2.2.2.2)
def L02_alive_C5 (x6 : Int × Int × Int × Int × Int × Int × Int × (List (Int × Bool × Int × Unit)) × Int) (k7 : (Int × Int × Int × Int × Int × Int × Int × Int × (List (Int × Bool × Int × Unit)) × Int) → Option Bool) : Option Bool :=
  letv (decide ((x6.2.2.2.2.2.2.2.1.length : Int) > 0)) fun v5 =>
  bif !v5 then
    k7 (x6.1, x6.2.1, x6.2.2.1, x6.2.2.2.1, x6.2.2.2.2.1, x6.2.2.2.2.2.1, x6.2.2.2.2.2.2.1, 2, x6.2.2.2.2.2.2.2.1, x6.2.2.2.2.2.2.2.2)
  else
    Option.bind (handle_Slot x6.1) fun r7 =>
    bif decide (r7 < 0) then
      k7 (x6.1, x6.2.1, x6.2.2.1, x6.2.2.2.1, x6.2.2.2.2.1, x6.2.2.2.2.2.1, x6.2.2.2.2.2.2.1, 8, x6.2.2.2.2.2.2.2.1, x6.2.2.2.2.2.2.2.2)
    else
      bif decide (r7 ≥ (x6.2.2.2.2.2.2.2.1.length : Int)) then
        k7 (x6.1, x6.2.1, x6.2.2.1, x6.2.2.2.1, x6.2.2.2.2.1, x6.2.2.2.2.2.1, x6.2.2.2.2.2.2.1, 8, x6.2.2.2.2.2.2.2.1, x6.2.2.2.2.2.2.2.2)
      else
        chk (0 ≤ r7 ∧ r7 < (x6.2.2.2.2.2.2.2.1.length : Int)) <|
        bif !(x6.2.2.2.2.2.2.2.1.getD r7.toNat (0, false, 0, ())).2.1 then
          k7 (x6.1, x6.2.1, x6.2.2.1, x6.2.2.2.1, x6.2.2.2.2.1, x6.2.2.2.2.2.1, x6.2.2.2.2.2.2.1, 9, x6.2.2.2.2.2.2.2.1, x6.2.2.2.2.2.2.2.2)
        else
          Option.bind (handle_Gen x6.1) fun r8 =>
          bif !decide ((x6.2.2.2.2.2.2.2.1.getD r7.toNat (0, false, 0, ())).1 = r8) then
            k7 (x6.1, x6.2.1, x6.2.2.1, x6.2.2.2.1, x6.2.2.2.2.1, x6.2.2.2.2.2.1, x6.2.2.2.2.2.2.1, 9, x6.2.2.2.2.2.2.2.1, x6.2.2.2.2.2.2.2.2)
          else
            letv ((x6.2.2.2.2.2.2.2.1.getD r7.toNat (0, false, 0, ())).2.2.1) fun v6 =>
            k7 (x6.1, x6.2.1, x6.2.2.1, x6.2.2.2.1, x6.2.2.2.2.1, x6.2.2.2.2.2.1, x6.2.2.2.2.2.2.1, 0, x6.2.2.2.2.2.2.2.1, x6.2.2.2.2.2.2.2.2)
def L02_alive_C6 (x7 : Int × Int × Int × Int × Int × Int × Int × Int × (List (Int × Bool × Int × Unit)) × Int) (k8 : (Int × Int × Int × Int × Int × Int × Int × Int × (List (Int × Bool × Int × Unit)) × Int) → Option Bool) : Option Bool :=
  letv (decide ((x7.2.2.2.2.2.2.2.2.1.length : Int) > 0)) fun v7 =>
  bif !v7 then
    k8 (x7.1, x7.2.1, x7.2.2.1, x7.2.2.2.1, x7.2.2.2.2.1, x7.2.2.2.2.2.1, x7.2.2.2.2.2.2.1, x7.2.2.2.2.2.2.2.1, x7.2.2.2.2.2.2.2.2.1, x7.2.2.2.2.2.2.2.2.2)
  else
    Option.bind (handle_Slot x7.2.2.2.1) fun r9 =>
    bif decide (r9 < 0) then
      k8 (x7.1, x7.2.1, x7.2.2.1, x7.2.2.2.1, x7.2.2.2.2.1, x7.2.2.2.2.2.1, x7.2.2.2.2.2.2.1, x7.2.2.2.2.2.2.2.1, x7.2.2.2.2.2.2.2.2.1, x7.2.2.2.2.2.2.2.2.2)
    else
      bif decide (r9 ≥ (x7.2.2.2.2.2.2.2.2.1.length : Int)) then
        k8 (x7.1, x7.2.1, x7.2.2.1, x7.2.2.2.1, x7.2.2.2.2.1, x7.2.2.2.2.2.1, x7.2.2.2.2.2.2.1, x7.2.2.2.2.2.2.2.1, x7.2.2.2.2.2.2.2.2.1, x7.2.2.2.2.2.2.2.2.2)
      else
        chk (0 ≤ r9 ∧ r9 < (x7.2.2.2.2.2.2.2.2.1.length : Int)) <|
        bif !(x7.2.2.2.2.2.2.2.2.1.getD r9.toNat (0, false, 0, ())).2.1 then
          k8 (x7.1, x7.2.1, x7.2.2.1, x7.2.2.2.1, x7.2.2.2.2.1, x7.2.2.2.2.2.1, x7.2.2.2.2.2.2.1, x7.2.2.2.2.2.2.2.1, x7.2.2.2.2.2.2.2.2.1, x7.2.2.2.2.2.2.2.2.2)
        else
          Option.bind (handle_Gen x7.2.2.2.1) fun r10 =>
          bif !decide ((x7.2.2.2.2.2.2.2.2.1.getD r9.toNat (0, false, 0, ())).1 = r10) then
            k8 (x7.1, x7.2.1, x7.2.2.1, x7.2.2.2.1, x7.2.2.2.2.1, x7.2.2.2.2.2.1, x7.2.2.2.2.2.2.1, x7.2.2.2.2.2.2.2.1, x7.2.2.2.2.2.2.2.2.1, x7.2.2.2.2.2.2.2.2.2)
          else
            letv (x7.2.2.2.2.2.2.2.2.1.set r9.toNat ((x7.2.2.2.2.2.2.2.2.1.getD r9.toNat (0, false, 0, ())).1, false, (x7.2.2.2.2.2.2.2.2.1.getD r9.toNat (0, false, 0, ())).2.2.1, ())) fun l10 =>
            letv (l10.set r9.toNat ((l10.getD r9.toNat (0, false, 0, ())).1, (l10.getD r9.toNat (0, false, 0, ())).2.1, 0, ())) fun l11 =>
            k8 (x7.1, x7.2.1, x7.2.2.1, x7.2.2.2.1, x7.2.2.2.2.1, x7.2.2.2.2.2.1, x7.2.2.2.2.2.2.1, x7.2.2.2.2.2.2.2.1, l11, IntKind.i64.wrap (x7.2.2.2.2.2.2.2.2.2 - 1))
def L02_alive_J3 (k9 : (Int × Int × Int × Int × Int × Int × Int × Int × Int × (List (Int × Bool × Int × Unit)) × Int) → Option Bool) (x8 : Int × Int × Int × Int × Int × Int × Int × Int × (List (Int × Bool × Int × Unit)) × Int) : Option Bool :=
  k9 (x8.1, x8.2.1, x8.2.2.1, x8.2.2.2.1, x8.2.2.2.2.1, x8.2.2.2.2.2.1, x8.2.2.2.2.2.2.1, x8.2.2.2.2.2.2.2.1, 10, x8.2.2.2.2.2.2.2.2.1, x8.2.2.2.2.2.2.2.2.2)
def L02_alive_L3 (p3 : Int) (x8 : Int × Int × Int × Int × Int × Int × Int × Int × (List (Int × Bool × Int × Unit)) × Int) (k9 : (Int × Int × Int × Int × Int × Int × Int × Int × Int × (List (Int × Bool × Int × Unit)) × Int) → Option Bool) (k10 : Int → Option Bool) (x10 : Int) : Option Bool :=
  bif decide (x10 < p3) then
    chk (0 ≤ x10 ∧ x10 < (x8.2.2.2.2.2.2.2.2.1.length : Int)) <|
    bif !(x8.2.2.2.2.2.2.2.2.1.getD x10.toNat (0, false, 0, ())).2.1 then
      chk (0 ≤ x10 ∧ x10 < (x8.2.2.2.2.2.2.2.2.1.length : Int)) <|
      letv (decide ((x8.2.2.2.2.2.2.2.2.1.getD x10.toNat (0, false, 0, ())).1 < 2)) fun v9 =>
      bif v9 then
        chk (0 ≤ x10 ∧ x10 < (x8.2.2.2.2.2.2.2.2.1.length : Int)) <|
        letv (x8.2.2.2.2.2.2.2.2.1.set x10.toNat (IntKind.i64.wrap ((x8.2.2.2.2.2.2.2.2.1.getD x10.toNat (0, false, 0, ())).1 + 1), (x8.2.2.2.2.2.2.2.2.1.getD x10.toNat (0, false, 0, ())).2.1, (x8.2.2.2.2.2.2.2.2.1.getD x10.toNat (0, false, 0, ())).2.2.1, ())) fun l12 =>
        letv (l12.set x10.toNat ((l12.getD x10.toNat (0, false, 0, ())).1, true, (l12.getD x10.toNat (0, false, 0, ())).2.2.1, ())) fun l13 =>
        letv (l13.set x10.toNat ((l13.getD x10.toNat (0, false, 0, ())).1, (l13.getD x10.toNat (0, false, 0, ())).2.1, 7, ())) fun l14 =>
        Option.bind (handle_Make x10 (l14.getD x10.toNat (0, false, 0, ())).1) fun r11 =>
        k9 (x8.1, x8.2.1, x8.2.2.1, x8.2.2.2.1, x8.2.2.2.2.1, x8.2.2.2.2.2.1, x8.2.2.2.2.2.2.1, x8.2.2.2.2.2.2.2.1, r11.2.1, l14, IntKind.i64.wrap (x8.2.2.2.2.2.2.2.2.2 + 1))
      else
        k10 (IntKind.i64.wrap (x10 + 1))
    else
      k10 (IntKind.i64.wrap (x10 + 1))
  else
    L02_alive_J3 k9 x8
def L02_alive_C7 (x8 : Int × Int × Int × Int × Int × Int × Int × Int × (List (Int × Bool × Int × Unit)) × Int) (k9 : (Int × Int × Int × Int × Int × Int × Int × Int × Int × (List (Int × Bool × Int × Unit)) × Int) → Option Bool) : Option Bool :=
  letv (decide ((x8.2.2.2.2.2.2.2.2.1.length : Int) > 0)) fun v8 =>
  bif !v8 then
    k9 (x8.1, x8.2.1, x8.2.2.1, x8.2.2.2.1, x8.2.2.2.2.1, x8.2.2.2.2.2.1, x8.2.2.2.2.2.2.1, x8.2.2.2.2.2.2.2.1, 2, x8.2.2.2.2.2.2.2.2.1, x8.2.2.2.2.2.2.2.2.2)
  else
    loop (L02_alive_L3 (x8.2.2.2.2.2.2.2.2.1.length : Int) x8 k9) 0
def L02_alive_J4 (k11 : Bool → Option Bool) (p4 : List Int) : Option Bool :=
  k11 (decide ((p4.length : Int) = 0))
def L02_alive_L4 (p5 : Int) (x9 : Int × Int × Int × Int × Int × Int × Int × Int × Int × (List (Int × Bool × Int × Unit)) × Int) (k11 : Bool → Option Bool) (k12 : (Int × List Int) → Option Bool) (x12 : Int × List Int) : Option Bool :=
  bif decide (x12.1 < p5) then
    chk (0 ≤ x12.1 ∧ x12.1 < (x9.2.2.2.2.2.2.2.2.2.1.length : Int)) <|
    bif (x9.2.2.2.2.2.2.2.2.2.1.getD x12.1.toNat (0, false, 0, ())).2.1 then
      Option.bind (handle_Make x12.1 (x9.2.2.2.2.2.2.2.2.2.1.getD x12.1.toNat (0, false, 0, ())).1) fun r12 =>
      chk (x12.2.length + ([r12.1] : List Int).length ≤ 4294967296) <|
      k12 (IntKind.i64.wrap (x12.1 + 1), x12.2 ++ [r12.1])
    else
      k12 (IntKind.i64.wrap (x12.1 + 1), x12.2)
  else
    L02_alive_J4 k11 x12.2
def L02_alive_J5 (k11 : Bool → Option Bool) (p9 : List Int) : Option Bool :=
  k11 (decide ((p9.length : Int) = 0))
def L02_alive_L5 (p10 : Int) (p7 : List (Int × Bool × Int × Unit)) (k11 : Bool → Option Bool) (k13 : (Int × List Int) → Option Bool) (x13 : Int × List Int) : Option Bool :=
  bif decide (x13.1 < p10) then
    chk (0 ≤ x13.1 ∧ x13.1 < (p7.length : Int)) <|
    bif (p7.getD x13.1.toNat (0, false, 0, ())).2.1 then
      Option.bind (handle_Make x13.1 (p7.getD x13.1.toNat (0, false, 0, ())).1) fun r13 =>
      chk (x13.2.length + ([r13.1] : List Int).length ≤ 4294967296) <|
      k13 (IntKind.i64.wrap (x13.1 + 1), x13.2 ++ [r13.1])
    else
      k13 (IntKind.i64.wrap (x13.1 + 1), x13.2)
  else
    L02_alive_J5 k11 x13.2
def L02_alive_J6 (k11 : Bool → Option Bool) (p6 : Int) (p7 : List (Int × Bool × Int × Unit)) (p8 : Int) : Option Bool :=
  bif decide (p6 = 0) then
    bif !(decide ((p7.length : Int) > 0)) then
      k11 true
    else
      loop (L02_alive_L5 (p7.length : Int) p7 k11) (0, [])
  else
    k11 false
def L02_alive_C8 (x14 : Int × Int × Int × (List (Int × Bool × Int × Unit)) × Int) (k15 : (Int × Int × Int × (List (Int × Bool × Int × Unit)) × Int) → Option Bool) : Option Bool :=
  chk (0 ≤ x14.2.2.1 ∧ x14.2.2.1 < (x14.2.2.2.1.length : Int)) <|
  bif !(x14.2.2.2.1.getD x14.2.2.1.toNat (0, false, 0, ())).2.1 then
    chk (0 ≤ x14.2.2.1 ∧ x14.2.2.1 < (x14.2.2.2.1.length : Int)) <|
    letv (decide ((x14.2.2.2.1.getD x14.2.2.1.toNat (0, false, 0, ())).1 < 2)) fun v13 =>
    bif v13 then
      k15 (IntKind.i64.wrap (x14.1 + 1), x14.2.1, x14.2.2.1, x14.2.2.2.1, x14.2.2.2.2)
    else
      k15 (x14.1, x14.2.1, x14.2.2.1, x14.2.2.2.1, x14.2.2.2.2)
  else
    k15 (x14.1, x14.2.1, x14.2.2.1, x14.2.2.2.1, x14.2.2.2.2)
def L02_alive_R8 (k14 : (Int × Int × Int × (List (Int × Bool × Int × Unit)) × Int) → Option Bool) (x15 : Int × Int × Int × (List (Int × Bool × Int × Unit)) × Int) : Option Bool :=
  k14 (x15.1, x15.2.1, IntKind.i64.wrap (x15.2.2.1 + 1), x15.2.2.2.1, x15.2.2.2.2)
def L02_alive_L6 (k11 : Bool → Option Bool) (k14 : (Int × Int × Int × (List (Int × Bool × Int × Unit)) × Int) → Option Bool) (x14 : Int × Int × Int × (List (Int × Bool × Int × Unit)) × Int) : Option Bool :=
  bif decide (x14.2.2.1 < x14.2.1) then
    cutv 8 (L02_alive_C8 x14) (L02_alive_R8 k14)
  else
    L02_alive_J6 k11 x14.1 x14.2.2.2.1 x14.2.2.2.2
def L02_alive_J7 (k11 : Bool → Option Bool) (p11 : List Int) : Option Bool :=
  k11 (decide ((p11.length : Int) = 0))
def L02_alive_L7 (p12 : Int) (x9 : Int × Int × Int × Int × Int × Int × Int × Int × Int × (List (Int × Bool × Int × Unit)) × Int) (k11 : Bool → Option Bool) (k16 : (Int × List Int) → Option Bool) (x16 : Int × List Int) : Option Bool :=
  bif decide (x16.1 < p12) then
    chk (0 ≤ x16.1 ∧ x16.1 < (x9.2.2.2.2.2.2.2.2.2.1.length : Int)) <|
    bif (x9.2.2.2.2.2.2.2.2.2.1.getD x16.1.toNat (0, false, 0, ())).2.1 then
      Option.bind (handle_Make x16.1 (x9.2.2.2.2.2.2.2.2.2.1.getD x16.1.toNat (0, false, 0, ())).1) fun r14 =>
      chk (x16.2.length + ([r14.1] : List Int).length ≤ 4294967296) <|
      k16 (IntKind.i64.wrap (x16.1 + 1), x16.2 ++ [r14.1])
    else
      k16 (IntKind.i64.wrap (x16.1 + 1), x16.2)
  else
    L02_alive_J7 k11 x16.2
def L02_alive_J8 (k11 : Bool → Option Bool) (p16 : List Int) : Option Bool :=
  k11 (decide ((p16.length : Int) = 0))
def L02_alive_L8 (p17 : Int) (p14 : List (Int × Bool × Int × Unit)) (k11 : Bool → Option Bool) (k17 : (Int × List Int) → Option Bool) (x17 : Int × List Int) : Option Bool :=
  bif decide (x17.1 < p17) then
    chk (0 ≤ x17.1 ∧ x17.1 < (p14.length : Int)) <|
    bif (p14.getD x17.1.toNat (0, false, 0, ())).2.1 then
      Option.bind (handle_Make x17.1 (p14.getD x17.1.toNat (0, false, 0, ())).1) fun r15 =>
      chk (x17.2.length + ([r15.1] : List Int).length ≤ 4294967296) <|
      k17 (IntKind.i64.wrap (x17.1 + 1), x17.2 ++ [r15.1])
    else
      k17 (IntKind.i64.wrap (x17.1 + 1), x17.2)
  else
    L02_alive_J8 k11 x17.2
def L02_alive_J9 (k11 : Bool → Option Bool) (p13 : Int) (p14 : List (Int × Bool × Int × Unit)) (p15 : Int) : Option Bool :=
  bif decide (p13 = 0) then
    bif !(decide ((p14.length : Int) > 0)) then
      k11 true
    else
      loop (L02_alive_L8 (p14.length : Int) p14 k11) (0, [])
  else
    k11 false
def L02_alive_C9 (x18 : Int × Int × Int × (List (Int × Bool × Int × Unit)) × Int) (k19 : (Int × Int × Int × (List (Int × Bool × Int × Unit)) × Int) → Option Bool) : Option Bool :=
  chk (0 ≤ x18.2.2.1 ∧ x18.2.2.1 < (x18.2.2.2.1.length : Int)) <|
  bif !(x18.2.2.2.1.getD x18.2.2.1.toNat (0, false, 0, ())).2.1 then
    chk (0 ≤ x18.2.2.1 ∧ x18.2.2.1 < (x18.2.2.2.1.length : Int)) <|
    letv (decide ((x18.2.2.2.1.getD x18.2.2.1.toNat (0, false, 0, ())).1 < 2)) fun v16 =>
    bif v16 then
      k19 (IntKind.i64.wrap (x18.1 + 1), x18.2.1, x18.2.2.1, x18.2.2.2.1, x18.2.2.2.2)
    else
      k19 (x18.1, x18.2.1, x18.2.2.1, x18.2.2.2.1, x18.2.2.2.2)
  else
    k19 (x18.1, x18.2.1, x18.2.2.1, x18.2.2.2.1, x18.2.2.2.2)
def L02_alive_R9 (k18 : (Int × Int × Int × (List (Int × Bool × Int × Unit)) × Int) → Option Bool) (x19 : Int × Int × Int × (List (Int × Bool × Int × Unit)) × Int) : Option Bool :=
  k18 (x19.1, x19.2.1, IntKind.i64.wrap (x19.2.2.1 + 1), x19.2.2.2.1, x19.2.2.2.2)
def L02_alive_L9 (k11 : Bool → Option Bool) (k18 : (Int × Int × Int × (List (Int × Bool × Int × Unit)) × Int) → Option Bool) (x18 : Int × Int × Int × (List (Int × Bool × Int × Unit)) × Int) : Option Bool :=
  bif decide (x18.2.2.1 < x18.2.1) then
    cutv 9 (L02_alive_C9 x18) (L02_alive_R9 k18)
  else
    L02_alive_J9 k11 x18.1 x18.2.2.2.1 x18.2.2.2.2
def L02_alive_C10 (x9 : Int × Int × Int × Int × Int × Int × Int × Int × Int × (List (Int × Bool × Int × Unit)) × Int) (k11 : Bool → Option Bool) : Option Bool :=
  bif decide (x9.1 = 4096) then
    bif decide (x9.2.1 = 0) then
      bif decide (x9.2.2.1 = 0) then
        bif decide (x9.2.2.2.1 = 8192) then
          bif decide (x9.2.2.2.2.1 = 0) then
            bif decide (x9.2.2.2.2.2.1 = 6) then
              bif decide (x9.2.2.2.2.2.2.1 = 0) then
                bif decide (x9.2.2.2.2.2.2.2.1 = 9) then
                  bif decide (x9.2.2.2.2.2.2.2.2.1 = 10) then
                    letv (decide ((x9.2.2.2.2.2.2.2.2.2.1.length : Int) > 0)) fun v10 =>
                    bif !v10 then
                      letv (decide ((x9.2.2.2.2.2.2.2.2.2.1.length : Int) > 0)) fun v11 =>
                      bif !v11 then
                        letv (decide ((x9.2.2.2.2.2.2.2.2.2.1.length : Int) > 0)) fun v12 =>
                        bif !v12 then
                          k11 true
                        else
                          loop (L02_alive_L4 (x9.2.2.2.2.2.2.2.2.2.1.length : Int) x9 k11) (0, [])
                      else
                        loop (L02_alive_L6 k11) (0, (x9.2.2.2.2.2.2.2.2.2.1.length : Int), 0, x9.2.2.2.2.2.2.2.2.2.1, x9.2.2.2.2.2.2.2.2.2.2)
                    else
                      bif decide (x9.2.2.2.2.2.2.2.2.2.2 = 0) then
                        letv (decide ((x9.2.2.2.2.2.2.2.2.2.1.length : Int) > 0)) fun v14 =>
                        bif !v14 then
                          letv (decide ((x9.2.2.2.2.2.2.2.2.2.1.length : Int) > 0)) fun v15 =>
                          bif !v15 then
                            k11 true
                          else
                            loop (L02_alive_L7 (x9.2.2.2.2.2.2.2.2.2.1.length : Int) x9 k11) (0, [])
                        else
                          loop (L02_alive_L9 k11) (0, (x9.2.2.2.2.2.2.2.2.2.1.length : Int), 0, x9.2.2.2.2.2.2.2.2.2.1, x9.2.2.2.2.2.2.2.2.2.2)
                      else
                        k11 false
                  else
                    k11 false
                else
                  k11 false
              else
                k11 false
            else
              k11 false
          else
            k11 false
        else
          k11 false
      else
        k11 false
    else
      k11 false
  else
    k11 false
def L02_alive_R10 (x11 : Bool) : Option Bool :=
  some x11
def L02_alive_R7 (x9 : Int × Int × Int × Int × Int × Int × Int × Int × Int × (List (Int × Bool × Int × Unit)) × Int) : Option Bool :=
  cutv 10 (L02_alive_C10 x9) L02_alive_R10
def L02_alive_R6 (x8 : Int × Int × Int × Int × Int × Int × Int × Int × (List (Int × Bool × Int × Unit)) × Int) : Option Bool :=
  cutv 7 (L02_alive_C7 x8) L02_alive_R7
def L02_alive_R5 (x7 : Int × Int × Int × Int × Int × Int × Int × Int × (List (Int × Bool × Int × Unit)) × Int) : Option Bool :=
  cutv 6 (L02_alive_C6 x7) L02_alive_R6
def L02_alive_R4 (x6 : Int × Int × Int × Int × Int × Int × Int × (List (Int × Bool × Int × Unit)) × Int) : Option Bool :=
  cutv 5 (L02_alive_C5 x6) L02_alive_R5
def L02_alive_R3 (x4 : Int × Int × Int × Int × Int × (List (Int × Bool × Int × Unit)) × Int) : Option Bool :=
  cutv 4 (L02_alive_C4 x4) L02_alive_R4
def L02_alive_R2 (x3 : Int × Int × Int × (List (Int × Bool × Int × Unit)) × Int) : Option Bool :=
  cutv 3 (L02_alive_C3 x3) L02_alive_R3
def L02_alive_R1 (x1 : Int × Int × (List (Int × Bool × Int × Unit)) × Int) : Option Bool :=
  cutv 2 (L02_alive_C2 x1) L02_alive_R2
def L02_alive : Option Bool :=
  chk ((1 : Int) = (1 : Int) ∧ 0 ≤ (1 : Int) ∧ (1 : Int) ≤ 4294967296) <|
  letv (List.replicate (1 : Int).toNat (0, false, 0, ())) fun l1 =>
  cutv 1 (L02_alive_C1 l1) L02_alive_R1
def L02_ArenaOnce_C1 (p6 : List (Int × Bool × Int × Unit)) (p5 : Int) (p8 : Int) (k1 : Bool → Option Bool) : Option Bool :=
  bif !(decide ((p6.length : Int) > 0)) then
    bif decide (0 = p5) then
      Option.bind (L02_alive) fun r2 =>
      k1 r2
    else
      k1 false
  else
    bif decide (p8 = p5) then
      Option.bind (L02_alive) fun r3 =>
      k1 r3
    else
      k1 false
def L02_ArenaOnce_R1 (x1 : Bool) : Option Bool :=
  some x1
def L02_ArenaOnce_J1 (p5 : Int) (p6 : List (Int × Bool × Int × Unit)) (p7 : Int) (p8 : Int) : Option Bool :=
  cutv 1 (L02_ArenaOnce_C1 p6 p5 p8) L02_ArenaOnce_R1
def L02_ArenaOnce_C2 (x2 : Int × Int × Int × (List (Int × Int × Int × Unit)) × (List (Int × Bool × Int × Unit)) × Int × Int) (k4 : (Int × Int × Int × Int × Int × Int × Int × Int × (List (Int × Int × Int × Unit)) × (List (Int × Bool × Int × Unit)) × Int × Int) → Option Bool) : Option Bool :=
  bif !(decide ((x2.2.2.2.2.1.length : Int) > 0)) then
    k4 (x2.1, 0, 2, x2.2.1, x2.2.2.1, (x2.2.2.2.1.getD x2.2.2.1.toNat (0, 0, 0, ())).1, (x2.2.2.2.1.getD x2.2.2.1.toNat (0, 0, 0, ())).2.1, (x2.2.2.2.1.getD x2.2.2.1.toNat (0, 0, 0, ())).2.2.1, x2.2.2.2.1, x2.2.2.2.2.1, x2.2.2.2.2.2.1, x2.2.2.2.2.2.2)
  else
    Option.bind (handle_Slot (x2.2.2.2.1.getD x2.2.2.1.toNat (0, 0, 0, ())).2.1) fun r4 =>
    bif decide (r4 < 0) then
      k4 (x2.1, 0, 8, x2.2.1, x2.2.2.1, (x2.2.2.2.1.getD x2.2.2.1.toNat (0, 0, 0, ())).1, (x2.2.2.2.1.getD x2.2.2.1.toNat (0, 0, 0, ())).2.1, (x2.2.2.2.1.getD x2.2.2.1.toNat (0, 0, 0, ())).2.2.1, x2.2.2.2.1, x2.2.2.2.2.1, x2.2.2.2.2.2.1, x2.2.2.2.2.2.2)
    else
      bif decide (r4 ≥ (x2.2.2.2.2.1.length : Int)) then
        k4 (x2.1, 0, 8, x2.2.1, x2.2.2.1, (x2.2.2.2.1.getD x2.2.2.1.toNat (0, 0, 0, ())).1, (x2.2.2.2.1.getD x2.2.2.1.toNat (0, 0, 0, ())).2.1, (x2.2.2.2.1.getD x2.2.2.1.toNat (0, 0, 0, ())).2.2.1, x2.2.2.2.1, x2.2.2.2.2.1, x2.2.2.2.2.2.1, x2.2.2.2.2.2.2)
      else
        chk (0 ≤ r4 ∧ r4 < (x2.2.2.2.2.1.length : Int)) <|
        bif !(x2.2.2.2.2.1.getD r4.toNat (0, false, 0, ())).2.1 then
          k4 (x2.1, 0, 9, x2.2.1, x2.2.2.1, (x2.2.2.2.1.getD x2.2.2.1.toNat (0, 0, 0, ())).1, (x2.2.2.2.1.getD x2.2.2.1.toNat (0, 0, 0, ())).2.1, (x2.2.2.2.1.getD x2.2.2.1.toNat (0, 0, 0, ())).2.2.1, x2.2.2.2.1, x2.2.2.2.2.1, x2.2.2.2.2.2.1, x2.2.2.2.2.2.2)
        else
          Option.bind (handle_Gen (x2.2.2.2.1.getD x2.2.2.1.toNat (0, 0, 0, ())).2.1) fun r5 =>
          bif !decide ((x2.2.2.2.2.1.getD r4.toNat (0, false, 0, ())).1 = r5) then
            k4 (x2.1, 0, 9, x2.2.1, x2.2.2.1, (x2.2.2.2.1.getD x2.2.2.1.toNat (0, 0, 0, ())).1, (x2.2.2.2.1.getD x2.2.2.1.toNat (0, 0, 0, ())).2.1, (x2.2.2.2.1.getD x2.2.2.1.toNat (0, 0, 0, ())).2.2.1, x2.2.2.2.1, x2.2.2.2.2.1, x2.2.2.2.2.2.1, x2.2.2.2.2.2.2)
          else
            letv ((x2.2.2.2.2.1.getD r4.toNat (0, false, 0, ())).2.2.1) fun v1 =>
            k4 (x2.1, v1, 0, x2.2.1, x2.2.2.1, (x2.2.2.2.1.getD x2.2.2.1.toNat (0, 0, 0, ())).1, (x2.2.2.2.1.getD x2.2.2.1.toNat (0, 0, 0, ())).2.1, (x2.2.2.2.1.getD x2.2.2.1.toNat (0, 0, 0, ())).2.2.1, x2.2.2.2.1, x2.2.2.2.2.1, x2.2.2.2.2.2.1, x2.2.2.2.2.2.2)
def L02_ArenaOnce_R2 (k3 : (Int × Int × Int × (List (Int × Int × Int × Unit)) × (List (Int × Bool × Int × Unit)) × Int × Int) → Option Bool) (x4 : Int × Int × Int × Int × Int × Int × Int × Int × (List (Int × Int × Int × Unit)) × (List (Int × Bool × Int × Unit)) × Int × Int) : Option Bool :=
  bif decide (x4.2.2.2.2.2.1 = 1) then
    bif !decide (x4.2.2.1 = 0) then
      some false
    else
      bif !decide (x4.2.1 = x4.2.2.2.2.2.2.2.1) then
        some false
      else
        bif decide (x4.2.2.2.2.2.1 = 0) then
          bif !decide (x4.2.2.1 = 9) then
            some false
          else
            letv (IntKind.i64.wrap (x4.1 + (IntKind.i64.wrap (x4.2.2.2.2.2.1)))) fun v2 =>
            k3 (v2, x4.2.2.2.1, x4.2.2.2.2.1, x4.2.2.2.2.2.2.2.2.1, x4.2.2.2.2.2.2.2.2.2.1, x4.2.2.2.2.2.2.2.2.2.2.1, x4.2.2.2.2.2.2.2.2.2.2.2)
        else
          letv (IntKind.i64.wrap (x4.1 + (IntKind.i64.wrap (x4.2.2.2.2.2.1)))) fun v3 =>
          k3 (v3, x4.2.2.2.1, x4.2.2.2.2.1, x4.2.2.2.2.2.2.2.2.1, x4.2.2.2.2.2.2.2.2.2.1, x4.2.2.2.2.2.2.2.2.2.2.1, x4.2.2.2.2.2.2.2.2.2.2.2)
  else
    bif decide (x4.2.2.2.2.2.1 = 0) then
      bif !decide (x4.2.2.1 = 9) then
        some false
      else
        letv (IntKind.i64.wrap (x4.1 + (IntKind.i64.wrap (x4.2.2.2.2.2.1)))) fun v4 =>
        k3 (v4, x4.2.2.2.1, x4.2.2.2.2.1, x4.2.2.2.2.2.2.2.2.1, x4.2.2.2.2.2.2.2.2.2.1, x4.2.2.2.2.2.2.2.2.2.2.1, x4.2.2.2.2.2.2.2.2.2.2.2)
    else
      letv (IntKind.i64.wrap (x4.1 + (IntKind.i64.wrap (x4.2.2.2.2.2.1)))) fun v5 =>
      k3 (v5, x4.2.2.2.1, x4.2.2.2.2.1, x4.2.2.2.2.2.2.2.2.1, x4.2.2.2.2.2.2.2.2.2.1, x4.2.2.2.2.2.2.2.2.2.2.1, x4.2.2.2.2.2.2.2.2.2.2.2)
def L02_ArenaOnce_C3 (x2 : Int × Int × Int × (List (Int × Int × Int × Unit)) × (List (Int × Bool × Int × Unit)) × Int × Int) (k3 : (Int × Int × Int × (List (Int × Int × Int × Unit)) × (List (Int × Bool × Int × Unit)) × Int × Int) → Option Bool) : Option Bool :=
  chk (0 ≤ x2.2.2.1 ∧ x2.2.2.1 < (x2.2.2.2.1.length : Int)) <|
  cutv 2 (L02_ArenaOnce_C2 x2) (L02_ArenaOnce_R2 k3)
def L02_ArenaOnce_R3 (k2 : (Int × Int × Int × (List (Int × Int × Int × Unit)) × (List (Int × Bool × Int × Unit)) × Int × Int) → Option Bool) (x3 : Int × Int × Int × (List (Int × Int × Int × Unit)) × (List (Int × Bool × Int × Unit)) × Int × Int) : Option Bool :=
  k2 (x3.1, x3.2.1, IntKind.i64.wrap (x3.2.2.1 + 1), x3.2.2.2.1, x3.2.2.2.2.1, x3.2.2.2.2.2.1, x3.2.2.2.2.2.2)
def L02_ArenaOnce_L1 (k2 : (Int × Int × Int × (List (Int × Int × Int × Unit)) × (List (Int × Bool × Int × Unit)) × Int × Int) → Option Bool) (x2 : Int × Int × Int × (List (Int × Int × Int × Unit)) × (List (Int × Bool × Int × Unit)) × Int × Int) : Option Bool :=
  bif decide (x2.2.2.1 < x2.2.1) then
    cutv 3 (L02_ArenaOnce_C3 x2) (L02_ArenaOnce_R3 k2)
  else
    L02_ArenaOnce_J1 x2.1 x2.2.2.2.2.1 x2.2.2.2.2.2.1 x2.2.2.2.2.2.2
def L02_ArenaOnce_J2 (p1 : List (Int × Int × Int × Unit)) (p2 : List (Int × Bool × Int × Unit)) (p3 : Int) (p4 : Int) : Option Bool :=
  loop L02_ArenaOnce_L1 (0, (p1.length : Int), 0, p1, p2, p3, p4)
def L02_ArenaOnce_C4 (v6 : Int) (x5 : (List (Int × Int × Int × Unit)) × Int × Int × (List (Int × Int × Int × Unit)) × (List (Int × Bool × Int × Unit)) × Int × Int) (k7 : (Int × Int × (List (Int × Int × Int × Unit)) × Int × Int × (List (Int × Int × Int × Unit)) × (List (Int × Bool × Int × Unit)) × Int × Int) → Option Bool) : Option Bool :=
  chk (0 ≤ v6 ∧ v6 < (x5.2.2.2.1.length : Int)) <|
  bif !(decide ((x5.2.2.2.2.1.length : Int) > 0)) then
    k7 (v6, 2, x5.1, x5.2.1, x5.2.2.1, x5.2.2.2.1, x5.2.2.2.2.1, x5.2.2.2.2.2.1, x5.2.2.2.2.2.2)
  else
    Option.bind (handle_Slot (x5.2.2.2.1.getD v6.toNat (0, 0, 0, ())).2.1) fun r6 =>
    bif decide (r6 < 0) then
      k7 (v6, 8, x5.1, x5.2.1, x5.2.2.1, x5.2.2.2.1, x5.2.2.2.2.1, x5.2.2.2.2.2.1, x5.2.2.2.2.2.2)
    else
      bif decide (r6 ≥ (x5.2.2.2.2.1.length : Int)) then
        k7 (v6, 8, x5.1, x5.2.1, x5.2.2.1, x5.2.2.2.1, x5.2.2.2.2.1, x5.2.2.2.2.2.1, x5.2.2.2.2.2.2)
      else
        chk (0 ≤ r6 ∧ r6 < (x5.2.2.2.2.1.length : Int)) <|
        bif !(x5.2.2.2.2.1.getD r6.toNat (0, false, 0, ())).2.1 then
          k7 (v6, 9, x5.1, x5.2.1, x5.2.2.1, x5.2.2.2.1, x5.2.2.2.2.1, x5.2.2.2.2.2.1, x5.2.2.2.2.2.2)
        else
          Option.bind (handle_Gen (x5.2.2.2.1.getD v6.toNat (0, 0, 0, ())).2.1) fun r7 =>
          bif !decide ((x5.2.2.2.2.1.getD r6.toNat (0, false, 0, ())).1 = r7) then
            k7 (v6, 9, x5.1, x5.2.1, x5.2.2.1, x5.2.2.2.1, x5.2.2.2.2.1, x5.2.2.2.2.2.1, x5.2.2.2.2.2.2)
          else
            letv (x5.2.2.2.2.1.set r6.toNat ((x5.2.2.2.2.1.getD r6.toNat (0, false, 0, ())).1, false, (x5.2.2.2.2.1.getD r6.toNat (0, false, 0, ())).2.2.1, ())) fun l2 =>
            letv (l2.set r6.toNat ((l2.getD r6.toNat (0, false, 0, ())).1, (l2.getD r6.toNat (0, false, 0, ())).2.1, 0, ())) fun l3 =>
            k7 (v6, 0, x5.1, x5.2.1, x5.2.2.1, x5.2.2.2.1, l3, x5.2.2.2.2.2.1, IntKind.i64.wrap (x5.2.2.2.2.2.2 - 1))
def L02_ArenaOnce_R4 (k6 : ((List (Int × Int × Int × Unit)) × Int × Int × (List (Int × Int × Int × Unit)) × (List (Int × Bool × Int × Unit)) × Int × Int) → Option Bool) (x7 : Int × Int × (List (Int × Int × Int × Unit)) × Int × Int × (List (Int × Int × Int × Unit)) × (List (Int × Bool × Int × Unit)) × Int × Int) : Option Bool :=
  chk (0 ≤ x7.1 ∧ x7.1 < (x7.2.2.2.2.2.1.length : Int)) <|
  bif !((decide (x7.2.1 = 0)) == (decide ((x7.2.2.2.2.2.1.getD x7.1.toNat (0, 0, 0, ())).1 = 1))) then
    some false
  else
    chk (0 ≤ x7.1 ∧ x7.1 < (x7.2.2.2.2.2.1.length : Int)) <|
    letv (x7.2.2.2.2.2.1.set x7.1.toNat (0, (x7.2.2.2.2.2.1.getD x7.1.toNat (0, 0, 0, ())).2.1, (x7.2.2.2.2.2.1.getD x7.1.toNat (0, 0, 0, ())).2.2.1, ())) fun l4 =>
    k6 (x7.2.2.1, x7.2.2.2.1, x7.2.2.2.2.1, l4, x7.2.2.2.2.2.2.1, x7.2.2.2.2.2.2.2.1, x7.2.2.2.2.2.2.2.2)
def L02_ArenaOnce_J3 (k8 : (Int × Int × (List (Int × Int × Int × Unit)) × Int × Int × Int × Int × Int × (List (Int × Int × Int × Unit)) × (List (Int × Bool × Int × Unit)) × Int × Int) → Option Bool) (x5 : (List (Int × Int × Int × Unit)) × Int × Int × (List (Int × Int × Int × Unit)) × (List (Int × Bool × Int × Unit)) × Int × Int) (p9 : Int) (p10 : Int) (p11 : Int) : Option Bool :=
  k8 (0, 10, x5.1, x5.2.1, x5.2.2.1, p9, p10, p11, x5.2.2.2.1, x5.2.2.2.2.1, x5.2.2.2.2.2.1, x5.2.2.2.2.2.2)
def L02_ArenaOnce_L2 (p13 : Int) (x5 : (List (Int × Int × Int × Unit)) × Int × Int × (List (Int × Int × Int × Unit)) × (List (Int × Bool × Int × Unit)) × Int × Int) (p12 : Int) (k8 : (Int × Int × (List (Int × Int × Int × Unit)) × Int × Int × Int × Int × Int × (List (Int × Int × Int × Unit)) × (List (Int × Bool × Int × Unit)) × Int × Int) → Option Bool) (p14 : Int) (p15 : Int) (k9 : Int → Option Bool) (x9 : Int) : Option Bool :=
  bif decide (x9 < p13) then
    chk (0 ≤ x9 ∧ x9 < (x5.2.2.2.2.1.length : Int)) <|
    bif !(x5.2.2.2.2.1.getD x9.toNat (0, false, 0, ())).2.1 then
      chk (0 ≤ x9 ∧ x9 < (x5.2.2.2.2.1.length : Int)) <|
      letv (decide ((x5.2.2.2.2.1.getD x9.toNat (0, false, 0, ())).1 < x5.2.2.2.2.2.1)) fun v7 =>
      bif v7 then
        chk (0 ≤ x9 ∧ x9 < (x5.2.2.2.2.1.length : Int)) <|
        letv (x5.2.2.2.2.1.set x9.toNat (IntKind.i64.wrap ((x5.2.2.2.2.1.getD x9.toNat (0, false, 0, ())).1 + 1), (x5.2.2.2.2.1.getD x9.toNat (0, false, 0, ())).2.1, (x5.2.2.2.2.1.getD x9.toNat (0, false, 0, ())).2.2.1, ())) fun l5 =>
        letv (l5.set x9.toNat ((l5.getD x9.toNat (0, false, 0, ())).1, true, (l5.getD x9.toNat (0, false, 0, ())).2.2.1, ())) fun l6 =>
        letv (l6.set x9.toNat ((l6.getD x9.toNat (0, false, 0, ())).1, (l6.getD x9.toNat (0, false, 0, ())).2.1, p12, ())) fun l7 =>
        Option.bind (handle_Make x9 (l7.getD x9.toNat (0, false, 0, ())).1) fun r8 =>
        k8 (r8.1, r8.2.1, x5.1, x5.2.1, x5.2.2.1, p14, p15, p12, x5.2.2.2.1, l7, x5.2.2.2.2.2.1, IntKind.i64.wrap (x5.2.2.2.2.2.2 + 1))
      else
        k9 (IntKind.i64.wrap (x9 + 1))
    else
      k9 (IntKind.i64.wrap (x9 + 1))
  else
    L02_ArenaOnce_J3 k8 x5 p14 p15 p12
def L02_ArenaOnce_C5 (x5 : (List (Int × Int × Int × Unit)) × Int × Int × (List (Int × Int × Int × Unit)) × (List (Int × Bool × Int × Unit)) × Int × Int) (k8 : (Int × Int × (List (Int × Int × Int × Unit)) × Int × Int × Int × Int × Int × (List (Int × Int × Int × Unit)) × (List (Int × Bool × Int × Unit)) × Int × Int) → Option Bool) : Option Bool :=
  bif !(decide ((x5.2.2.2.2.1.length : Int) > 0)) then
    k8 (0, 2, x5.1, x5.2.1, x5.2.2.1, (x5.1.getD x5.2.2.1.toNat (0, 0, 0, ())).1, (x5.1.getD x5.2.2.1.toNat (0, 0, 0, ())).2.1, (x5.1.getD x5.2.2.1.toNat (0, 0, 0, ())).2.2.1, x5.2.2.2.1, x5.2.2.2.2.1, x5.2.2.2.2.2.1, x5.2.2.2.2.2.2)
  else
    loop (L02_ArenaOnce_L2 (x5.2.2.2.2.1.length : Int) x5 (x5.1.getD x5.2.2.1.toNat (0, 0, 0, ())).2.2.1 k8 (x5.1.getD x5.2.2.1.toNat (0, 0, 0, ())).1 (x5.1.getD x5.2.2.1.toNat (0, 0, 0, ())).2.1) 0
def L02_ArenaOnce_J4 (x8 : Int × Int × (List (Int × Int × Int × Unit)) × Int × Int × Int × Int × Int × (List (Int × Int × Int × Unit)) × (List (Int × Bool × Int × Unit)) × Int × Int) (k6 : ((List (Int × Int × Int × Unit)) × Int × Int × (List (Int × Int × Int × Unit)) × (List (Int × Bool × Int × Unit)) × Int × Int) → Option Bool) : Option Bool :=
  chk (x8.2.2.2.2.2.2.2.2.1.length + ([(1, x8.1, x8.2.2.2.2.2.2.2.1, ())] : List (Int × Int × Int × Unit)).length ≤ 4294967296) <|
  letv (x8.2.2.2.2.2.2.2.2.1 ++ [(1, x8.1, x8.2.2.2.2.2.2.2.1, ())]) fun l8 =>
  k6 (x8.2.2.1, x8.2.2.2.1, x8.2.2.2.2.1, l8, x8.2.2.2.2.2.2.2.2.2.1, x8.2.2.2.2.2.2.2.2.2.2.1, x8.2.2.2.2.2.2.2.2.2.2.2)
def L02_ArenaOnce_L3 (p16 : Int) (x8 : Int × Int × (List (Int × Int × Int × Unit)) × Int × Int × Int × Int × Int × (List (Int × Int × Int × Unit)) × (List (Int × Bool × Int × Unit)) × Int × Int) (k6 : ((List (Int × Int × Int × Unit)) × Int × Int × (List (Int × Int × Int × Unit)) × (List (Int × Bool × Int × Unit)) × Int × Int) → Option Bool) (k10 : Int → Option Bool) (x10 : Int) : Option Bool :=
  bif decide (x10 < p16) then
    chk (0 ≤ x10 ∧ x10 < (x8.2.2.2.2.2.2.2.2.1.length : Int)) <|
    bif decide ((x8.2.2.2.2.2.2.2.2.1.getD x10.toNat (0, 0, 0, ())).2.1 = x8.1) then
      some false
    else
      k10 (IntKind.i64.wrap (x10 + 1))
  else
    L02_ArenaOnce_J4 x8 k6
def L02_ArenaOnce_R5 (k6 : ((List (Int × Int × Int × Unit)) × Int × Int × (List (Int × Int × Int × Unit)) × (List (Int × Bool × Int × Unit)) × Int × Int) → Option Bool) (x8 : Int × Int × (List (Int × Int × Int × Unit)) × Int × Int × Int × Int × Int × (List (Int × Int × Int × Unit)) × (List (Int × Bool × Int × Unit)) × Int × Int) : Option Bool :=
  bif !decide (x8.2.1 = 0) then
    k6 (x8.2.2.1, x8.2.2.2.1, x8.2.2.2.2.1, x8.2.2.2.2.2.2.2.2.1, x8.2.2.2.2.2.2.2.2.2.1, x8.2.2.2.2.2.2.2.2.2.2.1, x8.2.2.2.2.2.2.2.2.2.2.2)
  else
    loop (L02_ArenaOnce_L3 (x8.2.2.2.2.2.2.2.2.1.length : Int) x8 k6) 0
def L02_ArenaOnce_J5 (k11 : (Int × Int × (List (Int × Int × Int × Unit)) × Int × Int × Int × Int × Int × (List (Int × Int × Int × Unit)) × (List (Int × Bool × Int × Unit)) × Int × Int) → Option Bool) (x5 : (List (Int × Int × Int × Unit)) × Int × Int × (List (Int × Int × Int × Unit)) × (List (Int × Bool × Int × Unit)) × Int × Int) (p17 : Int) (p18 : Int) (p19 : Int) : Option Bool :=
  k11 (0, 10, x5.1, x5.2.1, x5.2.2.1, p17, p18, p19, x5.2.2.2.1, x5.2.2.2.2.1, x5.2.2.2.2.2.1, x5.2.2.2.2.2.2)
def L02_ArenaOnce_L4 (p21 : Int) (x5 : (List (Int × Int × Int × Unit)) × Int × Int × (List (Int × Int × Int × Unit)) × (List (Int × Bool × Int × Unit)) × Int × Int) (p20 : Int) (k11 : (Int × Int × (List (Int × Int × Int × Unit)) × Int × Int × Int × Int × Int × (List (Int × Int × Int × Unit)) × (List (Int × Bool × Int × Unit)) × Int × Int) → Option Bool) (p22 : Int) (p23 : Int) (k12 : Int → Option Bool) (x12 : Int) : Option Bool :=
  bif decide (x12 < p21) then
    chk (0 ≤ x12 ∧ x12 < (x5.2.2.2.2.1.length : Int)) <|
    bif !(x5.2.2.2.2.1.getD x12.toNat (0, false, 0, ())).2.1 then
      chk (0 ≤ x12 ∧ x12 < (x5.2.2.2.2.1.length : Int)) <|
      letv (decide ((x5.2.2.2.2.1.getD x12.toNat (0, false, 0, ())).1 < x5.2.2.2.2.2.1)) fun v8 =>
      bif v8 then
        chk (0 ≤ x12 ∧ x12 < (x5.2.2.2.2.1.length : Int)) <|
        letv (x5.2.2.2.2.1.set x12.toNat (IntKind.i64.wrap ((x5.2.2.2.2.1.getD x12.toNat (0, false, 0, ())).1 + 1), (x5.2.2.2.2.1.getD x12.toNat (0, false, 0, ())).2.1, (x5.2.2.2.2.1.getD x12.toNat (0, false, 0, ())).2.2.1, ())) fun l9 =>
        letv (l9.set x12.toNat ((l9.getD x12.toNat (0, false, 0, ())).1, true, (l9.getD x12.toNat (0, false, 0, ())).2.2.1, ())) fun l10 =>
        letv (l10.set x12.toNat ((l10.getD x12.toNat (0, false, 0, ())).1, (l10.getD x12.toNat (0, false, 0, ())).2.1, p20, ())) fun l11 =>
        Option.bind (handle_Make x12 (l11.getD x12.toNat (0, false, 0, ())).1) fun r9 =>
        k11 (r9.1, r9.2.1, x5.1, x5.2.1, x5.2.2.1, p22, p23, p20, x5.2.2.2.1, l11, x5.2.2.2.2.2.1, IntKind.i64.wrap (x5.2.2.2.2.2.2 + 1))
      else
        k12 (IntKind.i64.wrap (x12 + 1))
    else
      k12 (IntKind.i64.wrap (x12 + 1))
  else
    L02_ArenaOnce_J5 k11 x5 p22 p23 p20
def L02_ArenaOnce_C6 (x5 : (List (Int × Int × Int × Unit)) × Int × Int × (List (Int × Int × Int × Unit)) × (List (Int × Bool × Int × Unit)) × Int × Int) (k11 : (Int × Int × (List (Int × Int × Int × Unit)) × Int × Int × Int × Int × Int × (List (Int × Int × Int × Unit)) × (List (Int × Bool × Int × Unit)) × Int × Int) → Option Bool) : Option Bool :=
  bif !(decide ((x5.2.2.2.2.1.length : Int) > 0)) then
    k11 (0, 2, x5.1, x5.2.1, x5.2.2.1, (x5.1.getD x5.2.2.1.toNat (0, 0, 0, ())).1, (x5.1.getD x5.2.2.1.toNat (0, 0, 0, ())).2.1, (x5.1.getD x5.2.2.1.toNat (0, 0, 0, ())).2.2.1, x5.2.2.2.1, x5.2.2.2.2.1, x5.2.2.2.2.2.1, x5.2.2.2.2.2.2)
  else
    loop (L02_ArenaOnce_L4 (x5.2.2.2.2.1.length : Int) x5 (x5.1.getD x5.2.2.1.toNat (0, 0, 0, ())).2.2.1 k11 (x5.1.getD x5.2.2.1.toNat (0, 0, 0, ())).1 (x5.1.getD x5.2.2.1.toNat (0, 0, 0, ())).2.1) 0
def L02_ArenaOnce_J6 (x11 : Int × Int × (List (Int × Int × Int × Unit)) × Int × Int × Int × Int × Int × (List (Int × Int × Int × Unit)) × (List (Int × Bool × Int × Unit)) × Int × Int) (k6 : ((List (Int × Int × Int × Unit)) × Int × Int × (List (Int × Int × Int × Unit)) × (List (Int × Bool × Int × Unit)) × Int × Int) → Option Bool) : Option Bool :=
  chk (x11.2.2.2.2.2.2.2.2.1.length + ([(1, x11.1, x11.2.2.2.2.2.2.2.1, ())] : List (Int × Int × Int × Unit)).length ≤ 4294967296) <|
  letv (x11.2.2.2.2.2.2.2.2.1 ++ [(1, x11.1, x11.2.2.2.2.2.2.2.1, ())]) fun l12 =>
  k6 (x11.2.2.1, x11.2.2.2.1, x11.2.2.2.2.1, l12, x11.2.2.2.2.2.2.2.2.2.1, x11.2.2.2.2.2.2.2.2.2.2.1, x11.2.2.2.2.2.2.2.2.2.2.2)
def L02_ArenaOnce_L5 (p24 : Int) (x11 : Int × Int × (List (Int × Int × Int × Unit)) × Int × Int × Int × Int × Int × (List (Int × Int × Int × Unit)) × (List (Int × Bool × Int × Unit)) × Int × Int) (k6 : ((List (Int × Int × Int × Unit)) × Int × Int × (List (Int × Int × Int × Unit)) × (List (Int × Bool × Int × Unit)) × Int × Int) → Option Bool) (k13 : Int → Option Bool) (x13 : Int) : Option Bool :=
  bif decide (x13 < p24) then
    chk (0 ≤ x13 ∧ x13 < (x11.2.2.2.2.2.2.2.2.1.length : Int)) <|
    bif decide ((x11.2.2.2.2.2.2.2.2.1.getD x13.toNat (0, 0, 0, ())).2.1 = x11.1) then
      some false
    else
      k13 (IntKind.i64.wrap (x13 + 1))
  else
    L02_ArenaOnce_J6 x11 k6
def L02_ArenaOnce_R6 (k6 : ((List (Int × Int × Int × Unit)) × Int × Int × (List (Int × Int × Int × Unit)) × (List (Int × Bool × Int × Unit)) × Int × Int) → Option Bool) (x11 : Int × Int × (List (Int × Int × Int × Unit)) × Int × Int × Int × Int × Int × (List (Int × Int × Int × Unit)) × (List (Int × Bool × Int × Unit)) × Int × Int) : Option Bool :=
  bif !decide (x11.2.1 = 0) then
    k6 (x11.2.2.1, x11.2.2.2.1, x11.2.2.2.2.1, x11.2.2.2.2.2.2.2.2.1, x11.2.2.2.2.2.2.2.2.2.1, x11.2.2.2.2.2.2.2.2.2.2.1, x11.2.2.2.2.2.2.2.2.2.2.2)
  else
    loop (L02_ArenaOnce_L5 (x11.2.2.2.2.2.2.2.2.1.length : Int) x11 k6) 0
def L02_ArenaOnce_C7 (x5 : (List (Int × Int × Int × Unit)) × Int × Int × (List (Int × Int × Int × Unit)) × (List (Int × Bool × Int × Unit)) × Int × Int) (k6 : ((List (Int × Int × Int × Unit)) × Int × Int × (List (Int × Int × Int × Unit)) × (List (Int × Bool × Int × Unit)) × Int × Int) → Option Bool) : Option Bool :=
  chk (0 ≤ x5.2.2.1 ∧ x5.2.2.1 < (x5.1.length : Int)) <|
  chk ((2 : Int) ≠ 0) <|
  bif decide ((Int.tmod (x5.1.getD x5.2.2.1.toNat (0, 0, 0, ())).1 2) = 0) then
    bif decide ((x5.2.2.2.1.length : Int) > 0) then
      chk ((IntKind.u64.wrap ((x5.2.2.2.1.length : Int))) ≠ 0) <|
      letv (IntKind.i64.wrap (Int.tmod (IntKind.u64.wrap ((x5.1.getD x5.2.2.1.toNat (0, 0, 0, ())).2.1)) (IntKind.u64.wrap ((x5.2.2.2.1.length : Int))))) fun v6 =>
      cutv 4 (L02_ArenaOnce_C4 v6 x5) (L02_ArenaOnce_R4 k6)
    else
      cutv 5 (L02_ArenaOnce_C5 x5) (L02_ArenaOnce_R5 k6)
  else
    cutv 6 (L02_ArenaOnce_C6 x5) (L02_ArenaOnce_R6 k6)
def L02_ArenaOnce_R7 (k5 : ((List (Int × Int × Int × Unit)) × Int × Int × (List (Int × Int × Int × Unit)) × (List (Int × Bool × Int × Unit)) × Int × Int) → Option Bool) (x6 : (List (Int × Int × Int × Unit)) × Int × Int × (List (Int × Int × Int × Unit)) × (List (Int × Bool × Int × Unit)) × Int × Int) : Option Bool :=
  k5 (x6.1, x6.2.1, IntKind.i64.wrap (x6.2.2.1 + 1), x6.2.2.2.1, x6.2.2.2.2.1, x6.2.2.2.2.2.1, x6.2.2.2.2.2.2)
def L02_ArenaOnce_L6 (k5 : ((List (Int × Int × Int × Unit)) × Int × Int × (List (Int × Int × Int × Unit)) × (List (Int × Bool × Int × Unit)) × Int × Int) → Option Bool) (x5 : (List (Int × Int × Int × Unit)) × Int × Int × (List (Int × Int × Int × Unit)) × (List (Int × Bool × Int × Unit)) × Int × Int) : Option Bool :=
  bif decide (x5.2.2.1 < x5.2.1) then
    cutv 7 (L02_ArenaOnce_C7 x5) (L02_ArenaOnce_R7 k5)
  else
    L02_ArenaOnce_J2 x5.2.2.2.1 x5.2.2.2.2.1 x5.2.2.2.2.2.1 x5.2.2.2.2.2.2
def L02_ArenaOnce (a0 : Int) (a1 : Int) (a2 : List (Int × Int × Int × Unit)) : Option Bool :=
  chk ((20 : Int) ≠ 0) <|
  chk ((5 : Int) ≠ 0) <|
  bif decide ((IntKind.i64.wrap (1 + (IntKind.i64.wrap (Int.tmod a0 20)))) < 1) then
    some false
  else
    bif decide ((IntKind.i64.wrap (1 + (IntKind.i64.wrap (Int.tmod a0 20)))) > 4096) then
      some false
    else
      bif decide ((IntKind.i64.wrap (1 + (IntKind.i64.wrap (Int.tmod a1 5)))) < 1) then
        some false
      else
        bif decide ((IntKind.i64.wrap (1 + (IntKind.i64.wrap (Int.tmod a1 5)))) > 65535) then
          some false
        else
          chk ((IntKind.i64.wrap (1 + (IntKind.i64.wrap (Int.tmod a0 20)))) = (IntKind.i64.wrap (1 + (IntKind.i64.wrap (Int.tmod a0 20)))) ∧ 0 ≤ (IntKind.i64.wrap (1 + (IntKind.i64.wrap (Int.tmod a0 20)))) ∧ (IntKind.i64.wrap (1 + (IntKind.i64.wrap (Int.tmod a0 20)))) ≤ 4294967296) <|
          letv (List.replicate (IntKind.i64.wrap (1 + (IntKind.i64.wrap (Int.tmod a0 20)))).toNat (0, false, 0, ())) fun l1 =>
          bif decide ((a2.length : Int) > 80) then
            Option.bind (L02_alive) fun r1 =>
            some r1
          else
            loop L02_ArenaOnce_L6 (a2, (a2.length : Int), 0, [], l1, IntKind.i64.wrap (1 + (IntKind.i64.wrap (Int.tmod a1 5))), 0)
def L02_ArenaPlays_C1 (p4 : List (Int × Bool × Int × Unit)) (p1 : Int) (p2 : List Int) (p3 : List (Int × Int × Unit)) (p5 : Int) (p6 : Int) (k1 : (Int × Int × Int × List Int × (List (Int × Int × Unit)) × (List (Int × Bool × Int × Unit)) × Int × Int × Int × List Int × (List (Int × Int × Unit))) → Option Bool) : Option Bool :=
  bif !(decide ((p4.length : Int) > 0)) then
    k1 (0, 2, p1, p2, p3, p4, p5, p6, p1, p2, p3)
  else
    Option.bind (handle_Slot 4096) fun r12 =>
    bif decide (r12 < 0) then
      k1 (0, 8, p1, p2, p3, p4, p5, p6, p1, p2, p3)
    else
      bif decide (r12 ≥ (p4.length : Int)) then
        k1 (0, 8, p1, p2, p3, p4, p5, p6, p1, p2, p3)
      else
        chk (0 ≤ r12 ∧ r12 < (p4.length : Int)) <|
        bif !(p4.getD r12.toNat (0, false, 0, ())).2.1 then
          k1 (0, 9, p1, p2, p3, p4, p5, p6, p1, p2, p3)
        else
          Option.bind (handle_Gen 4096) fun r13 =>
          bif !decide ((p4.getD r12.toNat (0, false, 0, ())).1 = r13) then
            k1 (0, 9, p1, p2, p3, p4, p5, p6, p1, p2, p3)
          else
            letv ((p4.getD r12.toNat (0, false, 0, ())).2.2.1) fun v1 =>
            k1 (v1, 0, p1, p2, p3, p4, p5, p6, p1, p2, p3)
def L02_ArenaPlays_J1 (k2 : (Bool × Int × List Int × (List (Int × Int × Unit)) × (List (Int × Bool × Int × Unit)) × Int × Int) → Option Bool) (p7 : Int) (p8 : Int) (p9 : List Int) (p10 : List (Int × Int × Unit)) (p11 : List (Int × Bool × Int × Unit)) (p12 : Int) (p13 : Int) (p14 : Int) (p15 : List Int) (p16 : List (Int × Int × Unit)) : Option Bool :=
  Option.bind (R02_Free (p14, p15, p16, ())) fun r18 =>
  k2 (decide (p7 = r18), p8, p9, p10, p11, p12, p13)
def L02_ArenaPlays_C2 (x3 : Int × Int × Int × Int × List Int × (List (Int × Int × Unit)) × (List (Int × Bool × Int × Unit)) × Int × Int × Int × List Int × (List (Int × Int × Unit))) (k4 : (Int × Int × Int × Int × List Int × (List (Int × Int × Unit)) × (List (Int × Bool × Int × Unit)) × Int × Int × Int × List Int × (List (Int × Int × Unit))) → Option Bool) : Option Bool :=
  chk (0 ≤ x3.2.2.1 ∧ x3.2.2.1 < (x3.2.2.2.2.2.2.1.length : Int)) <|
  bif !(x3.2.2.2.2.2.2.1.getD x3.2.2.1.toNat (0, false, 0, ())).2.1 then
    chk (0 ≤ x3.2.2.1 ∧ x3.2.2.1 < (x3.2.2.2.2.2.2.1.length : Int)) <|
    letv (decide ((x3.2.2.2.2.2.2.1.getD x3.2.2.1.toNat (0, false, 0, ())).1 < x3.2.2.2.2.2.2.2.1)) fun v5 =>
    bif v5 then
      k4 (IntKind.i64.wrap (x3.1 + 1), x3.2.1, x3.2.2.1, x3.2.2.2.1, x3.2.2.2.2.1, x3.2.2.2.2.2.1, x3.2.2.2.2.2.2.1, x3.2.2.2.2.2.2.2.1, x3.2.2.2.2.2.2.2.2.1, x3.2.2.2.2.2.2.2.2.2.1, x3.2.2.2.2.2.2.2.2.2.2.1, x3.2.2.2.2.2.2.2.2.2.2.2)
    else
      k4 (x3.1, x3.2.1, x3.2.2.1, x3.2.2.2.1, x3.2.2.2.2.1, x3.2.2.2.2.2.1, x3.2.2.2.2.2.2.1, x3.2.2.2.2.2.2.2.1, x3.2.2.2.2.2.2.2.2.1, x3.2.2.2.2.2.2.2.2.2.1, x3.2.2.2.2.2.2.2.2.2.2.1, x3.2.2.2.2.2.2.2.2.2.2.2)
  else
    k4 (x3.1, x3.2.1, x3.2.2.1, x3.2.2.2.1, x3.2.2.2.2.1, x3.2.2.2.2.2.1, x3.2.2.2.2.2.2.1, x3.2.2.2.2.2.2.2.1, x3.2.2.2.2.2.2.2.2.1, x3.2.2.2.2.2.2.2.2.2.1, x3.2.2.2.2.2.2.2.2.2.2.1, x3.2.2.2.2.2.2.2.2.2.2.2)
def L02_ArenaPlays_R2 (k3 : (Int × Int × Int × Int × List Int × (List (Int × Int × Unit)) × (List (Int × Bool × Int × Unit)) × Int × Int × Int × List Int × (List (Int × Int × Unit))) → Option Bool) (x4 : Int × Int × Int × Int × List Int × (List (Int × Int × Unit)) × (List (Int × Bool × Int × Unit)) × Int × Int × Int × List Int × (List (Int × Int × Unit))) : Option Bool :=
  k3 (x4.1, x4.2.1, IntKind.i64.wrap (x4.2.2.1 + 1), x4.2.2.2.1, x4.2.2.2.2.1, x4.2.2.2.2.2.1, x4.2.2.2.2.2.2.1, x4.2.2.2.2.2.2.2.1, x4.2.2.2.2.2.2.2.2.1, x4.2.2.2.2.2.2.2.2.2.1, x4.2.2.2.2.2.2.2.2.2.2.1, x4.2.2.2.2.2.2.2.2.2.2.2)
def L02_ArenaPlays_L1 (k2 : (Bool × Int × List Int × (List (Int × Int × Unit)) × (List (Int × Bool × Int × Unit)) × Int × Int) → Option Bool) (k3 : (Int × Int × Int × Int × List Int × (List (Int × Int × Unit)) × (List (Int × Bool × Int × Unit)) × Int × Int × Int × List Int × (List (Int × Int × Unit))) → Option Bool) (x3 : Int × Int × Int × Int × List Int × (List (Int × Int × Unit)) × (List (Int × Bool × Int × Unit)) × Int × Int × Int × List Int × (List (Int × Int × Unit))) : Option Bool :=
  bif decide (x3.2.2.1 < x3.2.1) then
    cutv 2 (L02_ArenaPlays_C2 x3) (L02_ArenaPlays_R2 k3)
  else
    L02_ArenaPlays_J1 k2 x3.1 x3.2.2.2.1 x3.2.2.2.2.1 x3.2.2.2.2.2.1 x3.2.2.2.2.2.2.1 x3.2.2.2.2.2.2.2.1 x3.2.2.2.2.2.2.2.2.1 x3.2.2.2.2.2.2.2.2.2.1 x3.2.2.2.2.2.2.2.2.2.2.1 x3.2.2.2.2.2.2.2.2.2.2.2
def L02_ArenaPlays_J2 (k2 : (Bool × Int × List Int × (List (Int × Int × Unit)) × (List (Int × Bool × Int × Unit)) × Int × Int) → Option Bool) (p17 : Int) (p18 : Int) (p19 : List Int) (p20 : List (Int × Int × Unit)) (p21 : List (Int × Bool × Int × Unit)) (p22 : Int) (p23 : Int) (p24 : Int) (p25 : List Int) (p26 : List (Int × Int × Unit)) : Option Bool :=
  Option.bind (R02_Free (p24, p25, p26, ())) fun r20 =>
  k2 (decide (p17 = r20), p18, p19, p20, p21, p22, p23)
def L02_ArenaPlays_C3 (x5 : Int × Int × Int × Int × List Int × (List (Int × Int × Unit)) × (List (Int × Bool × Int × Unit)) × Int × Int × Int × List Int × (List (Int × Int × Unit))) (k6 : (Int × Int × Int × Int × List Int × (List (Int × Int × Unit)) × (List (Int × Bool × Int × Unit)) × Int × Int × Int × List Int × (List (Int × Int × Unit))) → Option Bool) : Option Bool :=
  chk (0 ≤ x5.2.2.1 ∧ x5.2.2.1 < (x5.2.2.2.2.2.2.1.length : Int)) <|
  bif !(x5.2.2.2.2.2.2.1.getD x5.2.2.1.toNat (0, false, 0, ())).2.1 then
    chk (0 ≤ x5.2.2.1 ∧ x5.2.2.1 < (x5.2.2.2.2.2.2.1.length : Int)) <|
    letv (decide ((x5.2.2.2.2.2.2.1.getD x5.2.2.1.toNat (0, false, 0, ())).1 < x5.2.2.2.2.2.2.2.1)) fun v7 =>
    bif v7 then
      k6 (IntKind.i64.wrap (x5.1 + 1), x5.2.1, x5.2.2.1, x5.2.2.2.1, x5.2.2.2.2.1, x5.2.2.2.2.2.1, x5.2.2.2.2.2.2.1, x5.2.2.2.2.2.2.2.1, x5.2.2.2.2.2.2.2.2.1, x5.2.2.2.2.2.2.2.2.2.1, x5.2.2.2.2.2.2.2.2.2.2.1, x5.2.2.2.2.2.2.2.2.2.2.2)
    else
      k6 (x5.1, x5.2.1, x5.2.2.1, x5.2.2.2.1, x5.2.2.2.2.1, x5.2.2.2.2.2.1, x5.2.2.2.2.2.2.1, x5.2.2.2.2.2.2.2.1, x5.2.2.2.2.2.2.2.2.1, x5.2.2.2.2.2.2.2.2.2.1, x5.2.2.2.2.2.2.2.2.2.2.1, x5.2.2.2.2.2.2.2.2.2.2.2)
  else
    k6 (x5.1, x5.2.1, x5.2.2.1, x5.2.2.2.1, x5.2.2.2.2.1, x5.2.2.2.2.2.1, x5.2.2.2.2.2.2.1, x5.2.2.2.2.2.2.2.1, x5.2.2.2.2.2.2.2.2.1, x5.2.2.2.2.2.2.2.2.2.1, x5.2.2.2.2.2.2.2.2.2.2.1, x5.2.2.2.2.2.2.2.2.2.2.2)
def L02_ArenaPlays_R3 (k5 : (Int × Int × Int × Int × List Int × (List (Int × Int × Unit)) × (List (Int × Bool × Int × Unit)) × Int × Int × Int × List Int × (List (Int × Int × Unit))) → Option Bool) (x6 : Int × Int × Int × Int × List Int × (List (Int × Int × Unit)) × (List (Int × Bool × Int × Unit)) × Int × Int × Int × List Int × (List (Int × Int × Unit))) : Option Bool :=
  k5 (x6.1, x6.2.1, IntKind.i64.wrap (x6.2.2.1 + 1), x6.2.2.2.1, x6.2.2.2.2.1, x6.2.2.2.2.2.1, x6.2.2.2.2.2.2.1, x6.2.2.2.2.2.2.2.1, x6.2.2.2.2.2.2.2.2.1, x6.2.2.2.2.2.2.2.2.2.1, x6.2.2.2.2.2.2.2.2.2.2.1, x6.2.2.2.2.2.2.2.2.2.2.2)
def L02_ArenaPlays_L2 (k2 : (Bool × Int × List Int × (List (Int × Int × Unit)) × (List (Int × Bool × Int × Unit)) × Int × Int) → Option Bool) (k5 : (Int × Int × Int × Int × List Int × (List (Int × Int × Unit)) × (List (Int × Bool × Int × Unit)) × Int × Int × Int × List Int × (List (Int × Int × Unit))) → Option Bool) (x5 : Int × Int × Int × Int × List Int × (List (Int × Int × Unit)) × (List (Int × Bool × Int × Unit)) × Int × Int × Int × List Int × (List (Int × Int × Unit))) : Option Bool :=
  bif decide (x5.2.2.1 < x5.2.1) then
    cutv 3 (L02_ArenaPlays_C3 x5) (L02_ArenaPlays_R3 k5)
  else
    L02_ArenaPlays_J2 k2 x5.1 x5.2.2.2.1 x5.2.2.2.2.1 x5.2.2.2.2.2.1 x5.2.2.2.2.2.2.1 x5.2.2.2.2.2.2.2.1 x5.2.2.2.2.2.2.2.2.1 x5.2.2.2.2.2.2.2.2.2.1 x5.2.2.2.2.2.2.2.2.2.2.1 x5.2.2.2.2.2.2.2.2.2.2.2
def L02_ArenaPlays_J3 (k2 : (Bool × Int × List Int × (List (Int × Int × Unit)) × (List (Int × Bool × Int × Unit)) × Int × Int) → Option Bool) (p28 : Int) (p29 : Int) (p30 : List Int) (p31 : List (Int × Int × Unit)) (p32 : List (Int × Bool × Int × Unit)) (p33 : Int) (p34 : Int) (p35 : Int) (p36 : List Int) (p37 : List (Int × Int × Unit)) (p38 : List Int) : Option Bool :=
  Option.bind (R02_Free (p35, p36, p37, ())) fun r24 =>
  k2 (decide (p28 = r24), p29, p30, p31, p32, p33, p34)
def L02_ArenaPlays_C4 (x7 : Int × Int × Int × Int × List Int × (List (Int × Int × Unit)) × (List (Int × Bool × Int × Unit)) × Int × Int × Int × List Int × (List (Int × Int × Unit)) × List Int) (k8 : (Int × Int × Int × Int × List Int × (List (Int × Int × Unit)) × (List (Int × Bool × Int × Unit)) × Int × Int × Int × List Int × (List (Int × Int × Unit)) × List Int) → Option Bool) : Option Bool :=
  chk (0 ≤ x7.2.2.1 ∧ x7.2.2.1 < (x7.2.2.2.2.2.2.1.length : Int)) <|
  bif !(x7.2.2.2.2.2.2.1.getD x7.2.2.1.toNat (0, false, 0, ())).2.1 then
    chk (0 ≤ x7.2.2.1 ∧ x7.2.2.1 < (x7.2.2.2.2.2.2.1.length : Int)) <|
    letv (decide ((x7.2.2.2.2.2.2.1.getD x7.2.2.1.toNat (0, false, 0, ())).1 < x7.2.2.2.2.2.2.2.1)) fun v10 =>
    bif v10 then
      k8 (IntKind.i64.wrap (x7.1 + 1), x7.2.1, x7.2.2.1, x7.2.2.2.1, x7.2.2.2.2.1, x7.2.2.2.2.2.1, x7.2.2.2.2.2.2.1, x7.2.2.2.2.2.2.2.1, x7.2.2.2.2.2.2.2.2.1, x7.2.2.2.2.2.2.2.2.2.1, x7.2.2.2.2.2.2.2.2.2.2.1, x7.2.2.2.2.2.2.2.2.2.2.2.1, x7.2.2.2.2.2.2.2.2.2.2.2.2)
    else
      k8 (x7.1, x7.2.1, x7.2.2.1, x7.2.2.2.1, x7.2.2.2.2.1, x7.2.2.2.2.2.1, x7.2.2.2.2.2.2.1, x7.2.2.2.2.2.2.2.1, x7.2.2.2.2.2.2.2.2.1, x7.2.2.2.2.2.2.2.2.2.1, x7.2.2.2.2.2.2.2.2.2.2.1, x7.2.2.2.2.2.2.2.2.2.2.2.1, x7.2.2.2.2.2.2.2.2.2.2.2.2)
  else
    k8 (x7.1, x7.2.1, x7.2.2.1, x7.2.2.2.1, x7.2.2.2.2.1, x7.2.2.2.2.2.1, x7.2.2.2.2.2.2.1, x7.2.2.2.2.2.2.2.1, x7.2.2.2.2.2.2.2.2.1, x7.2.2.2.2.2.2.2.2.2.1, x7.2.2.2.2.2.2.2.2.2.2.1, x7.2.2.2.2.2.2.2.2.2.2.2.1, x7.2.2.2.2.2.2.2.2.2.2.2.2)
def L02_ArenaPlays_R4 (k7 : (Int × Int × Int × Int × List Int × (List (Int × Int × Unit)) × (List (Int × Bool × Int × Unit)) × Int × Int × Int × List Int × (List (Int × Int × Unit)) × List Int) → Option Bool) (x8 : Int × Int × Int × Int × List Int × (List (Int × Int × Unit)) × (List (Int × Bool × Int × Unit)) × Int × Int × Int × List Int × (List (Int × Int × Unit)) × List Int) : Option Bool :=
  k7 (x8.1, x8.2.1, IntKind.i64.wrap (x8.2.2.1 + 1), x8.2.2.2.1, x8.2.2.2.2.1, x8.2.2.2.2.2.1, x8.2.2.2.2.2.2.1, x8.2.2.2.2.2.2.2.1, x8.2.2.2.2.2.2.2.2.1, x8.2.2.2.2.2.2.2.2.2.1, x8.2.2.2.2.2.2.2.2.2.2.1, x8.2.2.2.2.2.2.2.2.2.2.2.1, x8.2.2.2.2.2.2.2.2.2.2.2.2)
def L02_ArenaPlays_L3 (k2 : (Bool × Int × List Int × (List (Int × Int × Unit)) × (List (Int × Bool × Int × Unit)) × Int × Int) → Option Bool) (k7 : (Int × Int × Int × Int × List Int × (List (Int × Int × Unit)) × (List (Int × Bool × Int × Unit)) × Int × Int × Int × List Int × (List (Int × Int × Unit)) × List Int) → Option Bool) (x7 : Int × Int × Int × Int × List Int × (List (Int × Int × Unit)) × (List (Int × Bool × Int × Unit)) × Int × Int × Int × List Int × (List (Int × Int × Unit)) × List Int) : Option Bool :=
  bif decide (x7.2.2.1 < x7.2.1) then
    cutv 4 (L02_ArenaPlays_C4 x7) (L02_ArenaPlays_R4 k7)
  else
    L02_ArenaPlays_J3 k2 x7.1 x7.2.2.2.1 x7.2.2.2.2.1 x7.2.2.2.2.2.1 x7.2.2.2.2.2.2.1 x7.2.2.2.2.2.2.2.1 x7.2.2.2.2.2.2.2.2.1 x7.2.2.2.2.2.2.2.2.2.1 x7.2.2.2.2.2.2.2.2.2.2.1 x7.2.2.2.2.2.2.2.2.2.2.2.1 x7.2.2.2.2.2.2.2.2.2.2.2.2
def L02_ArenaPlays_J4 (k2 : (Bool × Int × List Int × (List (Int × Int × Unit)) × (List (Int × Bool × Int × Unit)) × Int × Int) → Option Bool) (p39 : Int) (p40 : Int) (p41 : List Int) (p42 : List (Int × Int × Unit)) (p43 : List (Int × Bool × Int × Unit)) (p44 : Int) (p45 : Int) (p46 : Int) (p47 : List Int) (p48 : List (Int × Int × Unit)) (p49 : List Int) : Option Bool :=
  Option.bind (R02_Free (p46, p47, p48, ())) fun r26 =>
  k2 (decide (p39 = r26), p40, p41, p42, p43, p44, p45)
def L02_ArenaPlays_C5 (x9 : Int × Int × Int × Int × List Int × (List (Int × Int × Unit)) × (List (Int × Bool × Int × Unit)) × Int × Int × Int × List Int × (List (Int × Int × Unit)) × List Int) (k10 : (Int × Int × Int × Int × List Int × (List (Int × Int × Unit)) × (List (Int × Bool × Int × Unit)) × Int × Int × Int × List Int × (List (Int × Int × Unit)) × List Int) → Option Bool) : Option Bool :=
  chk (0 ≤ x9.2.2.1 ∧ x9.2.2.1 < (x9.2.2.2.2.2.2.1.length : Int)) <|
  bif !(x9.2.2.2.2.2.2.1.getD x9.2.2.1.toNat (0, false, 0, ())).2.1 then
    chk (0 ≤ x9.2.2.1 ∧ x9.2.2.1 < (x9.2.2.2.2.2.2.1.length : Int)) <|
    letv (decide ((x9.2.2.2.2.2.2.1.getD x9.2.2.1.toNat (0, false, 0, ())).1 < x9.2.2.2.2.2.2.2.1)) fun v12 =>
    bif v12 then
      k10 (IntKind.i64.wrap (x9.1 + 1), x9.2.1, x9.2.2.1, x9.2.2.2.1, x9.2.2.2.2.1, x9.2.2.2.2.2.1, x9.2.2.2.2.2.2.1, x9.2.2.2.2.2.2.2.1, x9.2.2.2.2.2.2.2.2.1, x9.2.2.2.2.2.2.2.2.2.1, x9.2.2.2.2.2.2.2.2.2.2.1, x9.2.2.2.2.2.2.2.2.2.2.2.1, x9.2.2.2.2.2.2.2.2.2.2.2.2)
    else
      k10 (x9.1, x9.2.1, x9.2.2.1, x9.2.2.2.1, x9.2.2.2.2.1, x9.2.2.2.2.2.1, x9.2.2.2.2.2.2.1, x9.2.2.2.2.2.2.2.1, x9.2.2.2.2.2.2.2.2.1, x9.2.2.2.2.2.2.2.2.2.1, x9.2.2.2.2.2.2.2.2.2.2.1, x9.2.2.2.2.2.2.2.2.2.2.2.1, x9.2.2.2.2.2.2.2.2.2.2.2.2)
  else
    k10 (x9.1, x9.2.1, x9.2.2.1, x9.2.2.2.1, x9.2.2.2.2.1, x9.2.2.2.2.2.1, x9.2.2.2.2.2.2.1, x9.2.2.2.2.2.2.2.1, x9.2.2.2.2.2.2.2.2.1, x9.2.2.2.2.2.2.2.2.2.1, x9.2.2.2.2.2.2.2.2.2.2.1, x9.2.2.2.2.2.2.2.2.2.2.2.1, x9.2.2.2.2.2.2.2.2.2.2.2.2)
def L02_ArenaPlays_R5 (k9 : (Int × Int × Int × Int × List Int × (List (Int × Int × Unit)) × (List (Int × Bool × Int × Unit)) × Int × Int × Int × List Int × (List (Int × Int × Unit)) × List Int) → Option Bool) (x10 : Int × Int × Int × Int × List Int × (List (Int × Int × Unit)) × (List (Int × Bool × Int × Unit)) × Int × Int × Int × List Int × (List (Int × Int × Unit)) × List Int) : Option Bool :=
  k9 (x10.1, x10.2.1, IntKind.i64.wrap (x10.2.2.1 + 1), x10.2.2.2.1, x10.2.2.2.2.1, x10.2.2.2.2.2.1, x10.2.2.2.2.2.2.1, x10.2.2.2.2.2.2.2.1, x10.2.2.2.2.2.2.2.2.1, x10.2.2.2.2.2.2.2.2.2.1, x10.2.2.2.2.2.2.2.2.2.2.1, x10.2.2.2.2.2.2.2.2.2.2.2.1, x10.2.2.2.2.2.2.2.2.2.2.2.2)
def L02_ArenaPlays_L4 (k2 : (Bool × Int × List Int × (List (Int × Int × Unit)) × (List (Int × Bool × Int × Unit)) × Int × Int) → Option Bool) (k9 : (Int × Int × Int × Int × List Int × (List (Int × Int × Unit)) × (List (Int × Bool × Int × Unit)) × Int × Int × Int × List Int × (List (Int × Int × Unit)) × List Int) → Option Bool) (x9 : Int × Int × Int × Int × List Int × (List (Int × Int × Unit)) × (List (Int × Bool × Int × Unit)) × Int × Int × Int × List Int × (List (Int × Int × Unit)) × List Int) : Option Bool :=
  bif decide (x9.2.2.1 < x9.2.1) then
    cutv 5 (L02_ArenaPlays_C5 x9) (L02_ArenaPlays_R5 k9)
  else
    L02_ArenaPlays_J4 k2 x9.1 x9.2.2.2.1 x9.2.2.2.2.1 x9.2.2.2.2.2.1 x9.2.2.2.2.2.2.1 x9.2.2.2.2.2.2.2.1 x9.2.2.2.2.2.2.2.2.1 x9.2.2.2.2.2.2.2.2.2.1 x9.2.2.2.2.2.2.2.2.2.2.1 x9.2.2.2.2.2.2.2.2.2.2.2.1 x9.2.2.2.2.2.2.2.2.2.2.2.2
def L02_ArenaPlays_J5 (x1 : Int × Int × Int × List Int × (List (Int × Int × Unit)) × (List (Int × Bool × Int × Unit)) × Int × Int × Int × List Int × (List (Int × Int × Unit))) (k2 : (Bool × Int × List Int × (List (Int × Int × Unit)) × (List (Int × Bool × Int × Unit)) × Int × Int) → Option Bool) (p27 : List Int) : Option Bool :=
  Option.bind (R02_Handles (x1.2.2.2.2.2.2.2.2.1, x1.2.2.2.2.2.2.2.2.2.1, x1.2.2.2.2.2.2.2.2.2.2, ())) fun r21 =>
  Option.bind (R02_Same p27 r21) fun r22 =>
  bif r22 then
    letv (decide ((x1.2.2.2.2.2.1.length : Int) > 0)) fun v8 =>
    bif !v8 then
      bif decide (0 = (x1.2.2.2.2.2.2.2.2.2.2.length : Int)) then
        letv (decide ((x1.2.2.2.2.2.1.length : Int) > 0)) fun v9 =>
        bif !v9 then
          Option.bind (R02_Free (x1.2.2.2.2.2.2.2.2.1, x1.2.2.2.2.2.2.2.2.2.1, x1.2.2.2.2.2.2.2.2.2.2, ())) fun r23 =>
          k2 (decide (0 = r23), x1.2.2.1, x1.2.2.2.1, x1.2.2.2.2.1, x1.2.2.2.2.2.1, x1.2.2.2.2.2.2.1, x1.2.2.2.2.2.2.2.1)
        else
          loop (L02_ArenaPlays_L3 k2) (0, (x1.2.2.2.2.2.1.length : Int), 0, x1.2.2.1, x1.2.2.2.1, x1.2.2.2.2.1, x1.2.2.2.2.2.1, x1.2.2.2.2.2.2.1, x1.2.2.2.2.2.2.2.1, x1.2.2.2.2.2.2.2.2.1, x1.2.2.2.2.2.2.2.2.2.1, x1.2.2.2.2.2.2.2.2.2.2, p27)
      else
        k2 (false, x1.2.2.1, x1.2.2.2.1, x1.2.2.2.2.1, x1.2.2.2.2.2.1, x1.2.2.2.2.2.2.1, x1.2.2.2.2.2.2.2.1)
    else
      bif decide (x1.2.2.2.2.2.2.2.1 = (x1.2.2.2.2.2.2.2.2.2.2.length : Int)) then
        letv (decide ((x1.2.2.2.2.2.1.length : Int) > 0)) fun v11 =>
        bif !v11 then
          Option.bind (R02_Free (x1.2.2.2.2.2.2.2.2.1, x1.2.2.2.2.2.2.2.2.2.1, x1.2.2.2.2.2.2.2.2.2.2, ())) fun r25 =>
          k2 (decide (0 = r25), x1.2.2.1, x1.2.2.2.1, x1.2.2.2.2.1, x1.2.2.2.2.2.1, x1.2.2.2.2.2.2.1, x1.2.2.2.2.2.2.2.1)
        else
          loop (L02_ArenaPlays_L4 k2) (0, (x1.2.2.2.2.2.1.length : Int), 0, x1.2.2.1, x1.2.2.2.1, x1.2.2.2.2.1, x1.2.2.2.2.2.1, x1.2.2.2.2.2.2.1, x1.2.2.2.2.2.2.2.1, x1.2.2.2.2.2.2.2.2.1, x1.2.2.2.2.2.2.2.2.2.1, x1.2.2.2.2.2.2.2.2.2.2, p27)
      else
        k2 (false, x1.2.2.1, x1.2.2.2.1, x1.2.2.2.2.1, x1.2.2.2.2.2.1, x1.2.2.2.2.2.2.1, x1.2.2.2.2.2.2.2.1)
  else
    k2 (false, x1.2.2.1, x1.2.2.2.1, x1.2.2.2.2.1, x1.2.2.2.2.2.1, x1.2.2.2.2.2.2.1, x1.2.2.2.2.2.2.2.1)
def L02_ArenaPlays_L5 (p50 : Int) (x1 : Int × Int × Int × List Int × (List (Int × Int × Unit)) × (List (Int × Bool × Int × Unit)) × Int × Int × Int × List Int × (List (Int × Int × Unit))) (k2 : (Bool × Int × List Int × (List (Int × Int × Unit)) × (List (Int × Bool × Int × Unit)) × Int × Int) → Option Bool) (k11 : (Int × List Int) → Option Bool) (x11 : Int × List Int) : Option Bool :=
  bif decide (x11.1 < p50) then
    chk (0 ≤ x11.1 ∧ x11.1 < (x1.2.2.2.2.2.1.length : Int)) <|
    bif (x1.2.2.2.2.2.1.getD x11.1.toNat (0, false, 0, ())).2.1 then
      Option.bind (handle_Make x11.1 (x1.2.2.2.2.2.1.getD x11.1.toNat (0, false, 0, ())).1) fun r27 =>
      chk (x11.2.length + ([r27.1] : List Int).length ≤ 4294967296) <|
      k11 (IntKind.i64.wrap (x11.1 + 1), x11.2 ++ [r27.1])
    else
      k11 (IntKind.i64.wrap (x11.1 + 1), x11.2)
  else
    L02_ArenaPlays_J5 x1 k2 x11.2
def L02_ArenaPlays_C6 (x1 : Int × Int × Int × List Int × (List (Int × Int × Unit)) × (List (Int × Bool × Int × Unit)) × Int × Int × Int × List Int × (List (Int × Int × Unit))) (r14 : Int × Int × Unit) (k2 : (Bool × Int × List Int × (List (Int × Int × Unit)) × (List (Int × Bool × Int × Unit)) × Int × Int) → Option Bool) : Option Bool :=
  bif decide (x1.1 = r14.1) then
    bif decide (x1.2.1 = r14.2.1) then
      letv (decide ((x1.2.2.2.2.2.1.length : Int) > 0)) fun v2 =>
      bif !v2 then
        Option.bind (R02_Handles (x1.2.2.2.2.2.2.2.2.1, x1.2.2.2.2.2.2.2.2.2.1, x1.2.2.2.2.2.2.2.2.2.2, ())) fun r15 =>
        Option.bind (R02_Same [] r15) fun r16 =>
        bif r16 then
          letv (decide ((x1.2.2.2.2.2.1.length : Int) > 0)) fun v3 =>
          bif !v3 then
            bif decide (0 = (x1.2.2.2.2.2.2.2.2.2.2.length : Int)) then
              letv (decide ((x1.2.2.2.2.2.1.length : Int) > 0)) fun v4 =>
              bif !v4 then
                Option.bind (R02_Free (x1.2.2.2.2.2.2.2.2.1, x1.2.2.2.2.2.2.2.2.2.1, x1.2.2.2.2.2.2.2.2.2.2, ())) fun r17 =>
                k2 (decide (0 = r17), x1.2.2.1, x1.2.2.2.1, x1.2.2.2.2.1, x1.2.2.2.2.2.1, x1.2.2.2.2.2.2.1, x1.2.2.2.2.2.2.2.1)
              else
                loop (L02_ArenaPlays_L1 k2) (0, (x1.2.2.2.2.2.1.length : Int), 0, x1.2.2.1, x1.2.2.2.1, x1.2.2.2.2.1, x1.2.2.2.2.2.1, x1.2.2.2.2.2.2.1, x1.2.2.2.2.2.2.2.1, x1.2.2.2.2.2.2.2.2.1, x1.2.2.2.2.2.2.2.2.2.1, x1.2.2.2.2.2.2.2.2.2.2)
            else
              k2 (false, x1.2.2.1, x1.2.2.2.1, x1.2.2.2.2.1, x1.2.2.2.2.2.1, x1.2.2.2.2.2.2.1, x1.2.2.2.2.2.2.2.1)
          else
            bif decide (x1.2.2.2.2.2.2.2.1 = (x1.2.2.2.2.2.2.2.2.2.2.length : Int)) then
              letv (decide ((x1.2.2.2.2.2.1.length : Int) > 0)) fun v6 =>
              bif !v6 then
                Option.bind (R02_Free (x1.2.2.2.2.2.2.2.2.1, x1.2.2.2.2.2.2.2.2.2.1, x1.2.2.2.2.2.2.2.2.2.2, ())) fun r19 =>
                k2 (decide (0 = r19), x1.2.2.1, x1.2.2.2.1, x1.2.2.2.2.1, x1.2.2.2.2.2.1, x1.2.2.2.2.2.2.1, x1.2.2.2.2.2.2.2.1)
              else
                loop (L02_ArenaPlays_L2 k2) (0, (x1.2.2.2.2.2.1.length : Int), 0, x1.2.2.1, x1.2.2.2.1, x1.2.2.2.2.1, x1.2.2.2.2.2.1, x1.2.2.2.2.2.2.1, x1.2.2.2.2.2.2.2.1, x1.2.2.2.2.2.2.2.2.1, x1.2.2.2.2.2.2.2.2.2.1, x1.2.2.2.2.2.2.2.2.2.2)
            else
              k2 (false, x1.2.2.1, x1.2.2.2.1, x1.2.2.2.2.1, x1.2.2.2.2.2.1, x1.2.2.2.2.2.2.1, x1.2.2.2.2.2.2.2.1)
        else
          k2 (false, x1.2.2.1, x1.2.2.2.1, x1.2.2.2.2.1, x1.2.2.2.2.2.1, x1.2.2.2.2.2.2.1, x1.2.2.2.2.2.2.2.1)
      else
        loop (L02_ArenaPlays_L5 (x1.2.2.2.2.2.1.length : Int) x1 k2) (0, [])
    else
      k2 (false, x1.2.2.1, x1.2.2.2.1, x1.2.2.2.2.1, x1.2.2.2.2.2.1, x1.2.2.2.2.2.2.1, x1.2.2.2.2.2.2.2.1)
  else
    k2 (false, x1.2.2.1, x1.2.2.2.1, x1.2.2.2.2.1, x1.2.2.2.2.2.1, x1.2.2.2.2.2.2.1, x1.2.2.2.2.2.2.2.1)
def L02_ArenaPlays_R6 (x2 : Bool × Int × List Int × (List (Int × Int × Unit)) × (List (Int × Bool × Int × Unit)) × Int × Int) : Option Bool :=
  bif x2.1 then
    Option.bind (L02_alive) fun r28 =>
    some r28
  else
    some false
def L02_ArenaPlays_R1 (x1 : Int × Int × Int × List Int × (List (Int × Int × Unit)) × (List (Int × Bool × Int × Unit)) × Int × Int × Int × List Int × (List (Int × Int × Unit))) : Option Bool :=
  Option.bind (R02_Get (x1.2.2.2.2.2.2.2.2.1, x1.2.2.2.2.2.2.2.2.2.1, x1.2.2.2.2.2.2.2.2.2.2, ()) 4096) fun r14 =>
  cutv 6 (L02_ArenaPlays_C6 x1 r14) L02_ArenaPlays_R6
def L02_ArenaPlays_J6 (p1 : Int) (p2 : List Int) (p3 : List (Int × Int × Unit)) (p4 : List (Int × Bool × Int × Unit)) (p5 : Int) (p6 : Int) : Option Bool :=
  cutv 1 (L02_ArenaPlays_C1 p4 p1 p2 p3 p5 p6) L02_ArenaPlays_R1
def L02_ArenaPlays_C7 (x12 : (List (Int × Int × Int × Unit)) × Int × Int × Int × List Int × (List (Int × Int × Unit)) × (List (Int × Bool × Int × Unit)) × Int × Int) (k14 : (Int × (List (Int × Int × Int × Unit)) × Int × Int × Int × List Int × (List (Int × Int × Unit)) × Int × Int × Int × (List (Int × Bool × Int × Unit)) × Int × Int) → Option Bool) : Option Bool :=
  letv (decide ((x12.2.2.2.2.2.2.1.length : Int) > 0)) fun v14 =>
  bif !v14 then
    k14 (2, x12.1, x12.2.1, x12.2.2.1, x12.2.2.2.1, x12.2.2.2.2.1, x12.2.2.2.2.2.1, (x12.1.getD x12.2.2.1.toNat (0, 0, 0, ())).1, (x12.1.getD x12.2.2.1.toNat (0, 0, 0, ())).2.1, (x12.1.getD x12.2.2.1.toNat (0, 0, 0, ())).2.2.1, x12.2.2.2.2.2.2.1, x12.2.2.2.2.2.2.2.1, x12.2.2.2.2.2.2.2.2)
  else
    Option.bind (handle_Slot (x12.1.getD x12.2.2.1.toNat (0, 0, 0, ())).2.1) fun r29 =>
    bif decide (r29 < 0) then
      k14 (8, x12.1, x12.2.1, x12.2.2.1, x12.2.2.2.1, x12.2.2.2.2.1, x12.2.2.2.2.2.1, (x12.1.getD x12.2.2.1.toNat (0, 0, 0, ())).1, (x12.1.getD x12.2.2.1.toNat (0, 0, 0, ())).2.1, (x12.1.getD x12.2.2.1.toNat (0, 0, 0, ())).2.2.1, x12.2.2.2.2.2.2.1, x12.2.2.2.2.2.2.2.1, x12.2.2.2.2.2.2.2.2)
    else
      bif decide (r29 ≥ (x12.2.2.2.2.2.2.1.length : Int)) then
        k14 (8, x12.1, x12.2.1, x12.2.2.1, x12.2.2.2.1, x12.2.2.2.2.1, x12.2.2.2.2.2.1, (x12.1.getD x12.2.2.1.toNat (0, 0, 0, ())).1, (x12.1.getD x12.2.2.1.toNat (0, 0, 0, ())).2.1, (x12.1.getD x12.2.2.1.toNat (0, 0, 0, ())).2.2.1, x12.2.2.2.2.2.2.1, x12.2.2.2.2.2.2.2.1, x12.2.2.2.2.2.2.2.2)
      else
        chk (0 ≤ r29 ∧ r29 < (x12.2.2.2.2.2.2.1.length : Int)) <|
        bif !(x12.2.2.2.2.2.2.1.getD r29.toNat (0, false, 0, ())).2.1 then
          k14 (9, x12.1, x12.2.1, x12.2.2.1, x12.2.2.2.1, x12.2.2.2.2.1, x12.2.2.2.2.2.1, (x12.1.getD x12.2.2.1.toNat (0, 0, 0, ())).1, (x12.1.getD x12.2.2.1.toNat (0, 0, 0, ())).2.1, (x12.1.getD x12.2.2.1.toNat (0, 0, 0, ())).2.2.1, x12.2.2.2.2.2.2.1, x12.2.2.2.2.2.2.2.1, x12.2.2.2.2.2.2.2.2)
        else
          Option.bind (handle_Gen (x12.1.getD x12.2.2.1.toNat (0, 0, 0, ())).2.1) fun r30 =>
          bif !decide ((x12.2.2.2.2.2.2.1.getD r29.toNat (0, false, 0, ())).1 = r30) then
            k14 (9, x12.1, x12.2.1, x12.2.2.1, x12.2.2.2.1, x12.2.2.2.2.1, x12.2.2.2.2.2.1, (x12.1.getD x12.2.2.1.toNat (0, 0, 0, ())).1, (x12.1.getD x12.2.2.1.toNat (0, 0, 0, ())).2.1, (x12.1.getD x12.2.2.1.toNat (0, 0, 0, ())).2.2.1, x12.2.2.2.2.2.2.1, x12.2.2.2.2.2.2.2.1, x12.2.2.2.2.2.2.2.2)
          else
            letv (x12.2.2.2.2.2.2.1.set r29.toNat ((x12.2.2.2.2.2.2.1.getD r29.toNat (0, false, 0, ())).1, (x12.2.2.2.2.2.2.1.getD r29.toNat (0, false, 0, ())).2.1, (x12.1.getD x12.2.2.1.toNat (0, 0, 0, ())).2.2.1, ())) fun l2 =>
            k14 (0, x12.1, x12.2.1, x12.2.2.1, x12.2.2.2.1, x12.2.2.2.2.1, x12.2.2.2.2.2.1, (x12.1.getD x12.2.2.1.toNat (0, 0, 0, ())).1, (x12.1.getD x12.2.2.1.toNat (0, 0, 0, ())).2.1, (x12.1.getD x12.2.2.1.toNat (0, 0, 0, ())).2.2.1, l2, x12.2.2.2.2.2.2.2.1, x12.2.2.2.2.2.2.2.2)
def L02_ArenaPlays_R7 (k13 : (Int × Int × (List (Int × Int × Int × Unit)) × Int × Int × Int × List Int × (List (Int × Int × Unit)) × Int × Int × Int × (List (Int × Bool × Int × Unit)) × Int × Int) → Option Bool) (x14 : Int × (List (Int × Int × Int × Unit)) × Int × Int × Int × List Int × (List (Int × Int × Unit)) × Int × Int × Int × (List (Int × Bool × Int × Unit)) × Int × Int) : Option Bool :=
  Option.bind (R02_Set (x14.2.2.2.2.1, x14.2.2.2.2.2.1, x14.2.2.2.2.2.2.1, ()) x14.2.2.2.2.2.2.2.2.1 x14.2.2.2.2.2.2.2.2.2.1) fun r31 =>
  k13 (x14.1, r31.2.1, x14.2.1, x14.2.2.1, x14.2.2.2.1, r31.1.1, r31.1.2.1, r31.1.2.2.1, x14.2.2.2.2.2.2.2.1, x14.2.2.2.2.2.2.2.2.1, x14.2.2.2.2.2.2.2.2.2.1, x14.2.2.2.2.2.2.2.2.2.2.1, x14.2.2.2.2.2.2.2.2.2.2.2.1, x14.2.2.2.2.2.2.2.2.2.2.2.2)
def L02_ArenaPlays_C8 (x12 : (List (Int × Int × Int × Unit)) × Int × Int × Int × List Int × (List (Int × Int × Unit)) × (List (Int × Bool × Int × Unit)) × Int × Int) (k15 : (Int × (List (Int × Int × Int × Unit)) × Int × Int × Int × List Int × (List (Int × Int × Unit)) × Int × Int × Int × (List (Int × Bool × Int × Unit)) × Int × Int) → Option Bool) : Option Bool :=
  letv (decide ((x12.2.2.2.2.2.2.1.length : Int) > 0)) fun v16 =>
  bif !v16 then
    k15 (2, x12.1, x12.2.1, x12.2.2.1, x12.2.2.2.1, x12.2.2.2.2.1, x12.2.2.2.2.2.1, (x12.1.getD x12.2.2.1.toNat (0, 0, 0, ())).1, (x12.1.getD x12.2.2.1.toNat (0, 0, 0, ())).2.1, (x12.1.getD x12.2.2.1.toNat (0, 0, 0, ())).2.2.1, x12.2.2.2.2.2.2.1, x12.2.2.2.2.2.2.2.1, x12.2.2.2.2.2.2.2.2)
  else
    Option.bind (handle_Slot (x12.1.getD x12.2.2.1.toNat (0, 0, 0, ())).2.1) fun r32 =>
    bif decide (r32 < 0) then
      k15 (8, x12.1, x12.2.1, x12.2.2.1, x12.2.2.2.1, x12.2.2.2.2.1, x12.2.2.2.2.2.1, (x12.1.getD x12.2.2.1.toNat (0, 0, 0, ())).1, (x12.1.getD x12.2.2.1.toNat (0, 0, 0, ())).2.1, (x12.1.getD x12.2.2.1.toNat (0, 0, 0, ())).2.2.1, x12.2.2.2.2.2.2.1, x12.2.2.2.2.2.2.2.1, x12.2.2.2.2.2.2.2.2)
    else
      bif decide (r32 ≥ (x12.2.2.2.2.2.2.1.length : Int)) then
        k15 (8, x12.1, x12.2.1, x12.2.2.1, x12.2.2.2.1, x12.2.2.2.2.1, x12.2.2.2.2.2.1, (x12.1.getD x12.2.2.1.toNat (0, 0, 0, ())).1, (x12.1.getD x12.2.2.1.toNat (0, 0, 0, ())).2.1, (x12.1.getD x12.2.2.1.toNat (0, 0, 0, ())).2.2.1, x12.2.2.2.2.2.2.1, x12.2.2.2.2.2.2.2.1, x12.2.2.2.2.2.2.2.2)
      else
        chk (0 ≤ r32 ∧ r32 < (x12.2.2.2.2.2.2.1.length : Int)) <|
        bif !(x12.2.2.2.2.2.2.1.getD r32.toNat (0, false, 0, ())).2.1 then
          k15 (9, x12.1, x12.2.1, x12.2.2.1, x12.2.2.2.1, x12.2.2.2.2.1, x12.2.2.2.2.2.1, (x12.1.getD x12.2.2.1.toNat (0, 0, 0, ())).1, (x12.1.getD x12.2.2.1.toNat (0, 0, 0, ())).2.1, (x12.1.getD x12.2.2.1.toNat (0, 0, 0, ())).2.2.1, x12.2.2.2.2.2.2.1, x12.2.2.2.2.2.2.2.1, x12.2.2.2.2.2.2.2.2)
        else
          Option.bind (handle_Gen (x12.1.getD x12.2.2.1.toNat (0, 0, 0, ())).2.1) fun r33 =>
          bif !decide ((x12.2.2.2.2.2.2.1.getD r32.toNat (0, false, 0, ())).1 = r33) then
            k15 (9, x12.1, x12.2.1, x12.2.2.1, x12.2.2.2.1, x12.2.2.2.2.1, x12.2.2.2.2.2.1, (x12.1.getD x12.2.2.1.toNat (0, 0, 0, ())).1, (x12.1.getD x12.2.2.1.toNat (0, 0, 0, ())).2.1, (x12.1.getD x12.2.2.1.toNat (0, 0, 0, ())).2.2.1, x12.2.2.2.2.2.2.1, x12.2.2.2.2.2.2.2.1, x12.2.2.2.2.2.2.2.2)
          else
            letv (x12.2.2.2.2.2.2.1.set r32.toNat ((x12.2.2.2.2.2.2.1.getD r32.toNat (0, false, 0, ())).1, false, (x12.2.2.2.2.2.2.1.getD r32.toNat (0, false, 0, ())).2.2.1, ())) fun l3 =>
            letv (l3.set r32.toNat ((l3.getD r32.toNat (0, false, 0, ())).1, (l3.getD r32.toNat (0, false, 0, ())).2.1, 0, ())) fun l4 =>
            k15 (0, x12.1, x12.2.1, x12.2.2.1, x12.2.2.2.1, x12.2.2.2.2.1, x12.2.2.2.2.2.1, (x12.1.getD x12.2.2.1.toNat (0, 0, 0, ())).1, (x12.1.getD x12.2.2.1.toNat (0, 0, 0, ())).2.1, (x12.1.getD x12.2.2.1.toNat (0, 0, 0, ())).2.2.1, l4, x12.2.2.2.2.2.2.2.1, IntKind.i64.wrap (x12.2.2.2.2.2.2.2.2 - 1))
def L02_ArenaPlays_R8 (k13 : (Int × Int × (List (Int × Int × Int × Unit)) × Int × Int × Int × List Int × (List (Int × Int × Unit)) × Int × Int × Int × (List (Int × Bool × Int × Unit)) × Int × Int) → Option Bool) (x15 : Int × (List (Int × Int × Int × Unit)) × Int × Int × Int × List Int × (List (Int × Int × Unit)) × Int × Int × Int × (List (Int × Bool × Int × Unit)) × Int × Int) : Option Bool :=
  Option.bind (R02_Drop (x15.2.2.2.2.1, x15.2.2.2.2.2.1, x15.2.2.2.2.2.2.1, ()) x15.2.2.2.2.2.2.2.2.1) fun r34 =>
  k13 (x15.1, r34.2.1, x15.2.1, x15.2.2.1, x15.2.2.2.1, r34.1.1, r34.1.2.1, r34.1.2.2.1, x15.2.2.2.2.2.2.2.1, x15.2.2.2.2.2.2.2.2.1, x15.2.2.2.2.2.2.2.2.2.1, x15.2.2.2.2.2.2.2.2.2.2.1, x15.2.2.2.2.2.2.2.2.2.2.2.1, x15.2.2.2.2.2.2.2.2.2.2.2.2)
def L02_ArenaPlays_C9 (x12 : (List (Int × Int × Int × Unit)) × Int × Int × Int × List Int × (List (Int × Int × Unit)) × (List (Int × Bool × Int × Unit)) × Int × Int) (k16 : (Int × (List (Int × Int × Int × Unit)) × Int × Int × Int × List Int × (List (Int × Int × Unit)) × Int × Int × Int × (List (Int × Bool × Int × Unit)) × Int × Int) → Option Bool) : Option Bool :=
  letv (decide ((x12.2.2.2.2.2.2.1.length : Int) > 0)) fun v18 =>
  bif !v18 then
    k16 (2, x12.1, x12.2.1, x12.2.2.1, x12.2.2.2.1, x12.2.2.2.2.1, x12.2.2.2.2.2.1, (x12.1.getD x12.2.2.1.toNat (0, 0, 0, ())).1, (x12.1.getD x12.2.2.1.toNat (0, 0, 0, ())).2.1, (x12.1.getD x12.2.2.1.toNat (0, 0, 0, ())).2.2.1, x12.2.2.2.2.2.2.1, x12.2.2.2.2.2.2.2.1, x12.2.2.2.2.2.2.2.2)
  else
    Option.bind (handle_Slot (x12.1.getD x12.2.2.1.toNat (0, 0, 0, ())).2.1) fun r35 =>
    bif decide (r35 < 0) then
      k16 (8, x12.1, x12.2.1, x12.2.2.1, x12.2.2.2.1, x12.2.2.2.2.1, x12.2.2.2.2.2.1, (x12.1.getD x12.2.2.1.toNat (0, 0, 0, ())).1, (x12.1.getD x12.2.2.1.toNat (0, 0, 0, ())).2.1, (x12.1.getD x12.2.2.1.toNat (0, 0, 0, ())).2.2.1, x12.2.2.2.2.2.2.1, x12.2.2.2.2.2.2.2.1, x12.2.2.2.2.2.2.2.2)
    else
      bif decide (r35 ≥ (x12.2.2.2.2.2.2.1.length : Int)) then
        k16 (8, x12.1, x12.2.1, x12.2.2.1, x12.2.2.2.1, x12.2.2.2.2.1, x12.2.2.2.2.2.1, (x12.1.getD x12.2.2.1.toNat (0, 0, 0, ())).1, (x12.1.getD x12.2.2.1.toNat (0, 0, 0, ())).2.1, (x12.1.getD x12.2.2.1.toNat (0, 0, 0, ())).2.2.1, x12.2.2.2.2.2.2.1, x12.2.2.2.2.2.2.2.1, x12.2.2.2.2.2.2.2.2)
      else
        chk (0 ≤ r35 ∧ r35 < (x12.2.2.2.2.2.2.1.length : Int)) <|
        bif !(x12.2.2.2.2.2.2.1.getD r35.toNat (0, false, 0, ())).2.1 then
          k16 (9, x12.1, x12.2.1, x12.2.2.1, x12.2.2.2.1, x12.2.2.2.2.1, x12.2.2.2.2.2.1, (x12.1.getD x12.2.2.1.toNat (0, 0, 0, ())).1, (x12.1.getD x12.2.2.1.toNat (0, 0, 0, ())).2.1, (x12.1.getD x12.2.2.1.toNat (0, 0, 0, ())).2.2.1, x12.2.2.2.2.2.2.1, x12.2.2.2.2.2.2.2.1, x12.2.2.2.2.2.2.2.2)
        else
          Option.bind (handle_Gen (x12.1.getD x12.2.2.1.toNat (0, 0, 0, ())).2.1) fun r36 =>
          bif !decide ((x12.2.2.2.2.2.2.1.getD r35.toNat (0, false, 0, ())).1 = r36) then
            k16 (9, x12.1, x12.2.1, x12.2.2.1, x12.2.2.2.1, x12.2.2.2.2.1, x12.2.2.2.2.2.1, (x12.1.getD x12.2.2.1.toNat (0, 0, 0, ())).1, (x12.1.getD x12.2.2.1.toNat (0, 0, 0, ())).2.1, (x12.1.getD x12.2.2.1.toNat (0, 0, 0, ())).2.2.1, x12.2.2.2.2.2.2.1, x12.2.2.2.2.2.2.2.1, x12.2.2.2.2.2.2.2.2)
          else
            letv (x12.2.2.2.2.2.2.1.set r35.toNat ((x12.2.2.2.2.2.2.1.getD r35.toNat (0, false, 0, ())).1, false, (x12.2.2.2.2.2.2.1.getD r35.toNat (0, false, 0, ())).2.2.1, ())) fun l5 =>
            letv (l5.set r35.toNat ((l5.getD r35.toNat (0, false, 0, ())).1, (l5.getD r35.toNat (0, false, 0, ())).2.1, 0, ())) fun l6 =>
            k16 (0, x12.1, x12.2.1, x12.2.2.1, x12.2.2.2.1, x12.2.2.2.2.1, x12.2.2.2.2.2.1, (x12.1.getD x12.2.2.1.toNat (0, 0, 0, ())).1, (x12.1.getD x12.2.2.1.toNat (0, 0, 0, ())).2.1, (x12.1.getD x12.2.2.1.toNat (0, 0, 0, ())).2.2.1, l6, x12.2.2.2.2.2.2.2.1, IntKind.i64.wrap (x12.2.2.2.2.2.2.2.2 - 1))
def L02_ArenaPlays_R9 (k13 : (Int × Int × (List (Int × Int × Int × Unit)) × Int × Int × Int × List Int × (List (Int × Int × Unit)) × Int × Int × Int × (List (Int × Bool × Int × Unit)) × Int × Int) → Option Bool) (x16 : Int × (List (Int × Int × Int × Unit)) × Int × Int × Int × List Int × (List (Int × Int × Unit)) × Int × Int × Int × (List (Int × Bool × Int × Unit)) × Int × Int) : Option Bool :=
  Option.bind (R02_Drop (x16.2.2.2.2.1, x16.2.2.2.2.2.1, x16.2.2.2.2.2.2.1, ()) x16.2.2.2.2.2.2.2.2.1) fun r37 =>
  k13 (x16.1, r37.2.1, x16.2.1, x16.2.2.1, x16.2.2.2.1, r37.1.1, r37.1.2.1, r37.1.2.2.1, x16.2.2.2.2.2.2.2.1, x16.2.2.2.2.2.2.2.2.1, x16.2.2.2.2.2.2.2.2.2.1, x16.2.2.2.2.2.2.2.2.2.2.1, x16.2.2.2.2.2.2.2.2.2.2.2.1, x16.2.2.2.2.2.2.2.2.2.2.2.2)
def L02_ArenaPlays_J7 (k17 : (Int × Int × (List (Int × Int × Int × Unit)) × Int × Int × Int × List Int × (List (Int × Int × Unit)) × Int × Int × Int × (List (Int × Bool × Int × Unit)) × Int × Int) → Option Bool) (x12 : (List (Int × Int × Int × Unit)) × Int × Int × Int × List Int × (List (Int × Int × Unit)) × (List (Int × Bool × Int × Unit)) × Int × Int) (p51 : Int) (p52 : Int) (p53 : Int) : Option Bool :=
  k17 (10, 0, x12.1, x12.2.1, x12.2.2.1, x12.2.2.2.1, x12.2.2.2.2.1, x12.2.2.2.2.2.1, p51, p52, p53, x12.2.2.2.2.2.2.1, x12.2.2.2.2.2.2.2.1, x12.2.2.2.2.2.2.2.2)
def L02_ArenaPlays_L6 (p55 : Int) (x12 : (List (Int × Int × Int × Unit)) × Int × Int × Int × List Int × (List (Int × Int × Unit)) × (List (Int × Bool × Int × Unit)) × Int × Int) (p54 : Int) (k17 : (Int × Int × (List (Int × Int × Int × Unit)) × Int × Int × Int × List Int × (List (Int × Int × Unit)) × Int × Int × Int × (List (Int × Bool × Int × Unit)) × Int × Int) → Option Bool) (p56 : Int) (p57 : Int) (k18 : Int → Option Bool) (x18 : Int) : Option Bool :=
  bif decide (x18 < p55) then
    chk (0 ≤ x18 ∧ x18 < (x12.2.2.2.2.2.2.1.length : Int)) <|
    bif !(x12.2.2.2.2.2.2.1.getD x18.toNat (0, false, 0, ())).2.1 then
      chk (0 ≤ x18 ∧ x18 < (x12.2.2.2.2.2.2.1.length : Int)) <|
      letv (decide ((x12.2.2.2.2.2.2.1.getD x18.toNat (0, false, 0, ())).1 < x12.2.2.2.2.2.2.2.1)) fun v20 =>
      bif v20 then
        chk (0 ≤ x18 ∧ x18 < (x12.2.2.2.2.2.2.1.length : Int)) <|
        letv (x12.2.2.2.2.2.2.1.set x18.toNat (IntKind.i64.wrap ((x12.2.2.2.2.2.2.1.getD x18.toNat (0, false, 0, ())).1 + 1), (x12.2.2.2.2.2.2.1.getD x18.toNat (0, false, 0, ())).2.1, (x12.2.2.2.2.2.2.1.getD x18.toNat (0, false, 0, ())).2.2.1, ())) fun l7 =>
        letv (l7.set x18.toNat ((l7.getD x18.toNat (0, false, 0, ())).1, true, (l7.getD x18.toNat (0, false, 0, ())).2.2.1, ())) fun l8 =>
        letv (l8.set x18.toNat ((l8.getD x18.toNat (0, false, 0, ())).1, (l8.getD x18.toNat (0, false, 0, ())).2.1, p54, ())) fun l9 =>
        Option.bind (handle_Make x18 (l9.getD x18.toNat (0, false, 0, ())).1) fun r38 =>
        k17 (r38.2.1, r38.1, x12.1, x12.2.1, x12.2.2.1, x12.2.2.2.1, x12.2.2.2.2.1, x12.2.2.2.2.2.1, p56, p57, p54, l9, x12.2.2.2.2.2.2.2.1, IntKind.i64.wrap (x12.2.2.2.2.2.2.2.2 + 1))
      else
        k18 (IntKind.i64.wrap (x18 + 1))
    else
      k18 (IntKind.i64.wrap (x18 + 1))
  else
    L02_ArenaPlays_J7 k17 x12 p56 p57 p54
def L02_ArenaPlays_C10 (x12 : (List (Int × Int × Int × Unit)) × Int × Int × Int × List Int × (List (Int × Int × Unit)) × (List (Int × Bool × Int × Unit)) × Int × Int) (k17 : (Int × Int × (List (Int × Int × Int × Unit)) × Int × Int × Int × List Int × (List (Int × Int × Unit)) × Int × Int × Int × (List (Int × Bool × Int × Unit)) × Int × Int) → Option Bool) : Option Bool :=
  letv (decide ((x12.2.2.2.2.2.2.1.length : Int) > 0)) fun v19 =>
  bif !v19 then
    k17 (2, 0, x12.1, x12.2.1, x12.2.2.1, x12.2.2.2.1, x12.2.2.2.2.1, x12.2.2.2.2.2.1, (x12.1.getD x12.2.2.1.toNat (0, 0, 0, ())).1, (x12.1.getD x12.2.2.1.toNat (0, 0, 0, ())).2.1, (x12.1.getD x12.2.2.1.toNat (0, 0, 0, ())).2.2.1, x12.2.2.2.2.2.2.1, x12.2.2.2.2.2.2.2.1, x12.2.2.2.2.2.2.2.2)
  else
    loop (L02_ArenaPlays_L6 (x12.2.2.2.2.2.2.1.length : Int) x12 (x12.1.getD x12.2.2.1.toNat (0, 0, 0, ())).2.2.1 k17 (x12.1.getD x12.2.2.1.toNat (0, 0, 0, ())).1 (x12.1.getD x12.2.2.1.toNat (0, 0, 0, ())).2.1) 0
def L02_ArenaPlays_R10 (k13 : (Int × Int × (List (Int × Int × Int × Unit)) × Int × Int × Int × List Int × (List (Int × Int × Unit)) × Int × Int × Int × (List (Int × Bool × Int × Unit)) × Int × Int) → Option Bool) (x17 : Int × Int × (List (Int × Int × Int × Unit)) × Int × Int × Int × List Int × (List (Int × Int × Unit)) × Int × Int × Int × (List (Int × Bool × Int × Unit)) × Int × Int) : Option Bool :=
  Option.bind (R02_Add (x17.2.2.2.2.2.1, x17.2.2.2.2.2.2.1, x17.2.2.2.2.2.2.2.1, ()) x17.2.2.2.2.2.2.2.2.2.2.1) fun r39 =>
  bif !decide (x17.2.1 = r39.2.1) then
    some false
  else
    k13 (x17.1, r39.2.2.1, x17.2.2.1, x17.2.2.2.1, x17.2.2.2.2.1, r39.1.1, r39.1.2.1, r39.1.2.2.1, x17.2.2.2.2.2.2.2.2.1, x17.2.2.2.2.2.2.2.2.2.1, x17.2.2.2.2.2.2.2.2.2.2.1, x17.2.2.2.2.2.2.2.2.2.2.2.1, x17.2.2.2.2.2.2.2.2.2.2.2.2.1, x17.2.2.2.2.2.2.2.2.2.2.2.2.2)
def L02_ArenaPlays_C11 (x12 : (List (Int × Int × Int × Unit)) × Int × Int × Int × List Int × (List (Int × Int × Unit)) × (List (Int × Bool × Int × Unit)) × Int × Int) (k13 : (Int × Int × (List (Int × Int × Int × Unit)) × Int × Int × Int × List Int × (List (Int × Int × Unit)) × Int × Int × Int × (List (Int × Bool × Int × Unit)) × Int × Int) → Option Bool) : Option Bool :=
  letv (decide ((Int.tmod (x12.1.getD x12.2.2.1.toNat (0, 0, 0, ())).1 5) = 0)) fun v13 =>
  bif v13 then
    cutv 7 (L02_ArenaPlays_C7 x12) (L02_ArenaPlays_R7 k13)
  else
    letv (decide ((Int.tmod (x12.1.getD x12.2.2.1.toNat (0, 0, 0, ())).1 5) = 1)) fun v15 =>
    bif v15 then
      cutv 8 (L02_ArenaPlays_C8 x12) (L02_ArenaPlays_R8 k13)
    else
      letv (decide ((Int.tmod (x12.1.getD x12.2.2.1.toNat (0, 0, 0, ())).1 5) = 2)) fun v17 =>
      bif v17 then
        cutv 9 (L02_ArenaPlays_C9 x12) (L02_ArenaPlays_R9 k13)
      else
        cutv 10 (L02_ArenaPlays_C10 x12) (L02_ArenaPlays_R10 k13)
def L02_ArenaPlays_C12 (x13 : Int × Int × (List (Int × Int × Int × Unit)) × Int × Int × Int × List Int × (List (Int × Int × Unit)) × Int × Int × Int × (List (Int × Bool × Int × Unit)) × Int × Int) (k20 : (Int × Int × Int × Int × List Int × (List (Int × Int × Unit)) × Int × Int × Int × (List (Int × Bool × Int × Unit)) × Int × Int × Int × List Int × (List (Int × Int × Unit))) → Option Bool) : Option Bool :=
  letv (decide ((x13.2.2.2.2.2.2.2.2.2.2.2.1.length : Int) > 0)) fun v21 =>
  bif !v21 then
    k20 (x13.2.2.2.2.2.2.2.2.2.1, 0, 2, x13.2.2.2.2.2.1, x13.2.2.2.2.2.2.1, x13.2.2.2.2.2.2.2.1, x13.2.2.2.2.2.2.2.2.1, x13.2.2.2.2.2.2.2.2.2.1, x13.2.2.2.2.2.2.2.2.2.2.1, x13.2.2.2.2.2.2.2.2.2.2.2.1, x13.2.2.2.2.2.2.2.2.2.2.2.2.1, x13.2.2.2.2.2.2.2.2.2.2.2.2.2, x13.2.2.2.2.2.1, x13.2.2.2.2.2.2.1, x13.2.2.2.2.2.2.2.1)
  else
    Option.bind (handle_Slot x13.2.2.2.2.2.2.2.2.2.1) fun r40 =>
    bif decide (r40 < 0) then
      k20 (x13.2.2.2.2.2.2.2.2.2.1, 0, 8, x13.2.2.2.2.2.1, x13.2.2.2.2.2.2.1, x13.2.2.2.2.2.2.2.1, x13.2.2.2.2.2.2.2.2.1, x13.2.2.2.2.2.2.2.2.2.1, x13.2.2.2.2.2.2.2.2.2.2.1, x13.2.2.2.2.2.2.2.2.2.2.2.1, x13.2.2.2.2.2.2.2.2.2.2.2.2.1, x13.2.2.2.2.2.2.2.2.2.2.2.2.2, x13.2.2.2.2.2.1, x13.2.2.2.2.2.2.1, x13.2.2.2.2.2.2.2.1)
    else
      bif decide (r40 ≥ (x13.2.2.2.2.2.2.2.2.2.2.2.1.length : Int)) then
        k20 (x13.2.2.2.2.2.2.2.2.2.1, 0, 8, x13.2.2.2.2.2.1, x13.2.2.2.2.2.2.1, x13.2.2.2.2.2.2.2.1, x13.2.2.2.2.2.2.2.2.1, x13.2.2.2.2.2.2.2.2.2.1, x13.2.2.2.2.2.2.2.2.2.2.1, x13.2.2.2.2.2.2.2.2.2.2.2.1, x13.2.2.2.2.2.2.2.2.2.2.2.2.1, x13.2.2.2.2.2.2.2.2.2.2.2.2.2, x13.2.2.2.2.2.1, x13.2.2.2.2.2.2.1, x13.2.2.2.2.2.2.2.1)
      else
        chk (0 ≤ r40 ∧ r40 < (x13.2.2.2.2.2.2.2.2.2.2.2.1.length : Int)) <|
        bif !(x13.2.2.2.2.2.2.2.2.2.2.2.1.getD r40.toNat (0, false, 0, ())).2.1 then
          k20 (x13.2.2.2.2.2.2.2.2.2.1, 0, 9, x13.2.2.2.2.2.1, x13.2.2.2.2.2.2.1, x13.2.2.2.2.2.2.2.1, x13.2.2.2.2.2.2.2.2.1, x13.2.2.2.2.2.2.2.2.2.1, x13.2.2.2.2.2.2.2.2.2.2.1, x13.2.2.2.2.2.2.2.2.2.2.2.1, x13.2.2.2.2.2.2.2.2.2.2.2.2.1, x13.2.2.2.2.2.2.2.2.2.2.2.2.2, x13.2.2.2.2.2.1, x13.2.2.2.2.2.2.1, x13.2.2.2.2.2.2.2.1)
        else
          Option.bind (handle_Gen x13.2.2.2.2.2.2.2.2.2.1) fun r41 =>
          bif !decide ((x13.2.2.2.2.2.2.2.2.2.2.2.1.getD r40.toNat (0, false, 0, ())).1 = r41) then
            k20 (x13.2.2.2.2.2.2.2.2.2.1, 0, 9, x13.2.2.2.2.2.1, x13.2.2.2.2.2.2.1, x13.2.2.2.2.2.2.2.1, x13.2.2.2.2.2.2.2.2.1, x13.2.2.2.2.2.2.2.2.2.1, x13.2.2.2.2.2.2.2.2.2.2.1, x13.2.2.2.2.2.2.2.2.2.2.2.1, x13.2.2.2.2.2.2.2.2.2.2.2.2.1, x13.2.2.2.2.2.2.2.2.2.2.2.2.2, x13.2.2.2.2.2.1, x13.2.2.2.2.2.2.1, x13.2.2.2.2.2.2.2.1)
          else
            letv ((x13.2.2.2.2.2.2.2.2.2.2.2.1.getD r40.toNat (0, false, 0, ())).2.2.1) fun v22 =>
            k20 (x13.2.2.2.2.2.2.2.2.2.1, v22, 0, x13.2.2.2.2.2.1, x13.2.2.2.2.2.2.1, x13.2.2.2.2.2.2.2.1, x13.2.2.2.2.2.2.2.2.1, x13.2.2.2.2.2.2.2.2.2.1, x13.2.2.2.2.2.2.2.2.2.2.1, x13.2.2.2.2.2.2.2.2.2.2.2.1, x13.2.2.2.2.2.2.2.2.2.2.2.2.1, x13.2.2.2.2.2.2.2.2.2.2.2.2.2, x13.2.2.2.2.2.1, x13.2.2.2.2.2.2.1, x13.2.2.2.2.2.2.2.1)
def L02_ArenaPlays_J8 (k21 : (Bool × Int × List Int × (List (Int × Int × Unit)) × Int × Int × Int × (List (Int × Bool × Int × Unit)) × Int × Int) → Option Bool) (p58 : Int) (p59 : Int) (p60 : List Int) (p61 : List (Int × Int × Unit)) (p62 : Int) (p63 : Int) (p64 : Int) (p65 : List (Int × Bool × Int × Unit)) (p66 : Int) (p67 : Int) (p68 : Int) (p69 : List Int) (p70 : List (Int × Int × Unit)) : Option Bool :=
  Option.bind (R02_Free (p68, p69, p70, ())) fun r46 =>
  k21 (decide (p58 = r46), p59, p60, p61, p62, p63, p64, p65, p66, p67)
def L02_ArenaPlays_C13 (x22 : Int × Int × Int × Int × List Int × (List (Int × Int × Unit)) × Int × Int × Int × (List (Int × Bool × Int × Unit)) × Int × Int × Int × List Int × (List (Int × Int × Unit))) (k23 : (Int × Int × Int × Int × List Int × (List (Int × Int × Unit)) × Int × Int × Int × (List (Int × Bool × Int × Unit)) × Int × Int × Int × List Int × (List (Int × Int × Unit))) → Option Bool) : Option Bool :=
  chk (0 ≤ x22.2.2.1 ∧ x22.2.2.1 < (x22.2.2.2.2.2.2.2.2.2.1.length : Int)) <|
  bif !(x22.2.2.2.2.2.2.2.2.2.1.getD x22.2.2.1.toNat (0, false, 0, ())).2.1 then
    chk (0 ≤ x22.2.2.1 ∧ x22.2.2.1 < (x22.2.2.2.2.2.2.2.2.2.1.length : Int)) <|
    letv (decide ((x22.2.2.2.2.2.2.2.2.2.1.getD x22.2.2.1.toNat (0, false, 0, ())).1 < x22.2.2.2.2.2.2.2.2.2.2.1)) fun v26 =>
    bif v26 then
      k23 (IntKind.i64.wrap (x22.1 + 1), x22.2.1, x22.2.2.1, x22.2.2.2.1, x22.2.2.2.2.1, x22.2.2.2.2.2.1, x22.2.2.2.2.2.2.1, x22.2.2.2.2.2.2.2.1, x22.2.2.2.2.2.2.2.2.1, x22.2.2.2.2.2.2.2.2.2.1, x22.2.2.2.2.2.2.2.2.2.2.1, x22.2.2.2.2.2.2.2.2.2.2.2.1, x22.2.2.2.2.2.2.2.2.2.2.2.2.1, x22.2.2.2.2.2.2.2.2.2.2.2.2.2.1, x22.2.2.2.2.2.2.2.2.2.2.2.2.2.2)
    else
      k23 (x22.1, x22.2.1, x22.2.2.1, x22.2.2.2.1, x22.2.2.2.2.1, x22.2.2.2.2.2.1, x22.2.2.2.2.2.2.1, x22.2.2.2.2.2.2.2.1, x22.2.2.2.2.2.2.2.2.1, x22.2.2.2.2.2.2.2.2.2.1, x22.2.2.2.2.2.2.2.2.2.2.1, x22.2.2.2.2.2.2.2.2.2.2.2.1, x22.2.2.2.2.2.2.2.2.2.2.2.2.1, x22.2.2.2.2.2.2.2.2.2.2.2.2.2.1, x22.2.2.2.2.2.2.2.2.2.2.2.2.2.2)
  else
    k23 (x22.1, x22.2.1, x22.2.2.1, x22.2.2.2.1, x22.2.2.2.2.1, x22.2.2.2.2.2.1, x22.2.2.2.2.2.2.1, x22.2.2.2.2.2.2.2.1, x22.2.2.2.2.2.2.2.2.1, x22.2.2.2.2.2.2.2.2.2.1, x22.2.2.2.2.2.2.2.2.2.2.1, x22.2.2.2.2.2.2.2.2.2.2.2.1, x22.2.2.2.2.2.2.2.2.2.2.2.2.1, x22.2.2.2.2.2.2.2.2.2.2.2.2.2.1, x22.2.2.2.2.2.2.2.2.2.2.2.2.2.2)
def L02_ArenaPlays_R13 (k22 : (Int × Int × Int × Int × List Int × (List (Int × Int × Unit)) × Int × Int × Int × (List (Int × Bool × Int × Unit)) × Int × Int × Int × List Int × (List (Int × Int × Unit))) → Option Bool) (x23 : Int × Int × Int × Int × List Int × (List (Int × Int × Unit)) × Int × Int × Int × (List (Int × Bool × Int × Unit)) × Int × Int × Int × List Int × (List (Int × Int × Unit))) : Option Bool :=
  k22 (x23.1, x23.2.1, IntKind.i64.wrap (x23.2.2.1 + 1), x23.2.2.2.1, x23.2.2.2.2.1, x23.2.2.2.2.2.1, x23.2.2.2.2.2.2.1, x23.2.2.2.2.2.2.2.1, x23.2.2.2.2.2.2.2.2.1, x23.2.2.2.2.2.2.2.2.2.1, x23.2.2.2.2.2.2.2.2.2.2.1, x23.2.2.2.2.2.2.2.2.2.2.2.1, x23.2.2.2.2.2.2.2.2.2.2.2.2.1, x23.2.2.2.2.2.2.2.2.2.2.2.2.2.1, x23.2.2.2.2.2.2.2.2.2.2.2.2.2.2)
def L02_ArenaPlays_L7 (k21 : (Bool × Int × List Int × (List (Int × Int × Unit)) × Int × Int × Int × (List (Int × Bool × Int × Unit)) × Int × Int) → Option Bool) (k22 : (Int × Int × Int × Int × List Int × (List (Int × Int × Unit)) × Int × Int × Int × (List (Int × Bool × Int × Unit)) × Int × Int × Int × List Int × (List (Int × Int × Unit))) → Option Bool) (x22 : Int × Int × Int × Int × List Int × (List (Int × Int × Unit)) × Int × Int × Int × (List (Int × Bool × Int × Unit)) × Int × Int × Int × List Int × (List (Int × Int × Unit))) : Option Bool :=
  bif decide (x22.2.2.1 < x22.2.1) then
    cutv 13 (L02_ArenaPlays_C13 x22) (L02_ArenaPlays_R13 k22)
  else
    L02_ArenaPlays_J8 k21 x22.1 x22.2.2.2.1 x22.2.2.2.2.1 x22.2.2.2.2.2.1 x22.2.2.2.2.2.2.1 x22.2.2.2.2.2.2.2.1 x22.2.2.2.2.2.2.2.2.1 x22.2.2.2.2.2.2.2.2.2.1 x22.2.2.2.2.2.2.2.2.2.2.1 x22.2.2.2.2.2.2.2.2.2.2.2.1 x22.2.2.2.2.2.2.2.2.2.2.2.2.1 x22.2.2.2.2.2.2.2.2.2.2.2.2.2.1 x22.2.2.2.2.2.2.2.2.2.2.2.2.2.2
def L02_ArenaPlays_J9 (k21 : (Bool × Int × List Int × (List (Int × Int × Unit)) × Int × Int × Int × (List (Int × Bool × Int × Unit)) × Int × Int) → Option Bool) (p71 : Int) (p72 : Int) (p73 : List Int) (p74 : List (Int × Int × Unit)) (p75 : Int) (p76 : Int) (p77 : Int) (p78 : List (Int × Bool × Int × Unit)) (p79 : Int) (p80 : Int) (p81 : Int) (p82 : List Int) (p83 : List (Int × Int × Unit)) : Option Bool :=
  Option.bind (R02_Free (p81, p82, p83, ())) fun r48 =>
  k21 (decide (p71 = r48), p72, p73, p74, p75, p76, p77, p78, p79, p80)
def L02_ArenaPlays_C14 (x24 : Int × Int × Int × Int × List Int × (List (Int × Int × Unit)) × Int × Int × Int × (List (Int × Bool × Int × Unit)) × Int × Int × Int × List Int × (List (Int × Int × Unit))) (k25 : (Int × Int × Int × Int × List Int × (List (Int × Int × Unit)) × Int × Int × Int × (List (Int × Bool × Int × Unit)) × Int × Int × Int × List Int × (List (Int × Int × Unit))) → Option Bool) : Option Bool :=
  chk (0 ≤ x24.2.2.1 ∧ x24.2.2.1 < (x24.2.2.2.2.2.2.2.2.2.1.length : Int)) <|
  bif !(x24.2.2.2.2.2.2.2.2.2.1.getD x24.2.2.1.toNat (0, false, 0, ())).2.1 then
    chk (0 ≤ x24.2.2.1 ∧ x24.2.2.1 < (x24.2.2.2.2.2.2.2.2.2.1.length : Int)) <|
    letv (decide ((x24.2.2.2.2.2.2.2.2.2.1.getD x24.2.2.1.toNat (0, false, 0, ())).1 < x24.2.2.2.2.2.2.2.2.2.2.1)) fun v28 =>
    bif v28 then
      k25 (IntKind.i64.wrap (x24.1 + 1), x24.2.1, x24.2.2.1, x24.2.2.2.1, x24.2.2.2.2.1, x24.2.2.2.2.2.1, x24.2.2.2.2.2.2.1, x24.2.2.2.2.2.2.2.1, x24.2.2.2.2.2.2.2.2.1, x24.2.2.2.2.2.2.2.2.2.1, x24.2.2.2.2.2.2.2.2.2.2.1, x24.2.2.2.2.2.2.2.2.2.2.2.1, x24.2.2.2.2.2.2.2.2.2.2.2.2.1, x24.2.2.2.2.2.2.2.2.2.2.2.2.2.1, x24.2.2.2.2.2.2.2.2.2.2.2.2.2.2)
    else
      k25 (x24.1, x24.2.1, x24.2.2.1, x24.2.2.2.1, x24.2.2.2.2.1, x24.2.2.2.2.2.1, x24.2.2.2.2.2.2.1, x24.2.2.2.2.2.2.2.1, x24.2.2.2.2.2.2.2.2.1, x24.2.2.2.2.2.2.2.2.2.1, x24.2.2.2.2.2.2.2.2.2.2.1, x24.2.2.2.2.2.2.2.2.2.2.2.1, x24.2.2.2.2.2.2.2.2.2.2.2.2.1, x24.2.2.2.2.2.2.2.2.2.2.2.2.2.1, x24.2.2.2.2.2.2.2.2.2.2.2.2.2.2)
  else
    k25 (x24.1, x24.2.1, x24.2.2.1, x24.2.2.2.1, x24.2.2.2.2.1, x24.2.2.2.2.2.1, x24.2.2.2.2.2.2.1, x24.2.2.2.2.2.2.2.1, x24.2.2.2.2.2.2.2.2.1, x24.2.2.2.2.2.2.2.2.2.1, x24.2.2.2.2.2.2.2.2.2.2.1, x24.2.2.2.2.2.2.2.2.2.2.2.1, x24.2.2.2.2.2.2.2.2.2.2.2.2.1, x24.2.2.2.2.2.2.2.2.2.2.2.2.2.1, x24.2.2.2.2.2.2.2.2.2.2.2.2.2.2)
def L02_ArenaPlays_R14 (k24 : (Int × Int × Int × Int × List Int × (List (Int × Int × Unit)) × Int × Int × Int × (List (Int × Bool × Int × Unit)) × Int × Int × Int × List Int × (List (Int × Int × Unit))) → Option Bool) (x25 : Int × Int × Int × Int × List Int × (List (Int × Int × Unit)) × Int × Int × Int × (List (Int × Bool × Int × Unit)) × Int × Int × Int × List Int × (List (Int × Int × Unit))) : Option Bool :=
  k24 (x25.1, x25.2.1, IntKind.i64.wrap (x25.2.2.1 + 1), x25.2.2.2.1, x25.2.2.2.2.1, x25.2.2.2.2.2.1, x25.2.2.2.2.2.2.1, x25.2.2.2.2.2.2.2.1, x25.2.2.2.2.2.2.2.2.1, x25.2.2.2.2.2.2.2.2.2.1, x25.2.2.2.2.2.2.2.2.2.2.1, x25.2.2.2.2.2.2.2.2.2.2.2.1, x25.2.2.2.2.2.2.2.2.2.2.2.2.1, x25.2.2.2.2.2.2.2.2.2.2.2.2.2.1, x25.2.2.2.2.2.2.2.2.2.2.2.2.2.2)
def L02_ArenaPlays_L8 (k21 : (Bool × Int × List Int × (List (Int × Int × Unit)) × Int × Int × Int × (List (Int × Bool × Int × Unit)) × Int × Int) → Option Bool) (k24 : (Int × Int × Int × Int × List Int × (List (Int × Int × Unit)) × Int × Int × Int × (List (Int × Bool × Int × Unit)) × Int × Int × Int × List Int × (List (Int × Int × Unit))) → Option Bool) (x24 : Int × Int × Int × Int × List Int × (List (Int × Int × Unit)) × Int × Int × Int × (List (Int × Bool × Int × Unit)) × Int × Int × Int × List Int × (List (Int × Int × Unit))) : Option Bool :=
  bif decide (x24.2.2.1 < x24.2.1) then
    cutv 14 (L02_ArenaPlays_C14 x24) (L02_ArenaPlays_R14 k24)
  else
    L02_ArenaPlays_J9 k21 x24.1 x24.2.2.2.1 x24.2.2.2.2.1 x24.2.2.2.2.2.1 x24.2.2.2.2.2.2.1 x24.2.2.2.2.2.2.2.1 x24.2.2.2.2.2.2.2.2.1 x24.2.2.2.2.2.2.2.2.2.1 x24.2.2.2.2.2.2.2.2.2.2.1 x24.2.2.2.2.2.2.2.2.2.2.2.1 x24.2.2.2.2.2.2.2.2.2.2.2.2.1 x24.2.2.2.2.2.2.2.2.2.2.2.2.2.1 x24.2.2.2.2.2.2.2.2.2.2.2.2.2.2
def L02_ArenaPlays_J10 (k21 : (Bool × Int × List Int × (List (Int × Int × Unit)) × Int × Int × Int × (List (Int × Bool × Int × Unit)) × Int × Int) → Option Bool) (p85 : Int) (p86 : Int) (p87 : List Int) (p88 : List (Int × Int × Unit)) (p89 : Int) (p90 : Int) (p91 : Int) (p92 : List (Int × Bool × Int × Unit)) (p93 : Int) (p94 : Int) (p95 : Int) (p96 : List Int) (p97 : List (Int × Int × Unit)) (p98 : List Int) : Option Bool :=
  Option.bind (R02_Free (p95, p96, p97, ())) fun r52 =>
  k21 (decide (p85 = r52), p86, p87, p88, p89, p90, p91, p92, p93, p94)
def L02_ArenaPlays_C15 (x26 : Int × Int × Int × Int × List Int × (List (Int × Int × Unit)) × Int × Int × Int × (List (Int × Bool × Int × Unit)) × Int × Int × Int × List Int × (List (Int × Int × Unit)) × List Int) (k27 : (Int × Int × Int × Int × List Int × (List (Int × Int × Unit)) × Int × Int × Int × (List (Int × Bool × Int × Unit)) × Int × Int × Int × List Int × (List (Int × Int × Unit)) × List Int) → Option Bool) : Option Bool :=
  chk (0 ≤ x26.2.2.1 ∧ x26.2.2.1 < (x26.2.2.2.2.2.2.2.2.2.1.length : Int)) <|
  bif !(x26.2.2.2.2.2.2.2.2.2.1.getD x26.2.2.1.toNat (0, false, 0, ())).2.1 then
    chk (0 ≤ x26.2.2.1 ∧ x26.2.2.1 < (x26.2.2.2.2.2.2.2.2.2.1.length : Int)) <|
    letv (decide ((x26.2.2.2.2.2.2.2.2.2.1.getD x26.2.2.1.toNat (0, false, 0, ())).1 < x26.2.2.2.2.2.2.2.2.2.2.1)) fun v31 =>
    bif v31 then
      k27 (IntKind.i64.wrap (x26.1 + 1), x26.2.1, x26.2.2.1, x26.2.2.2.1, x26.2.2.2.2.1, x26.2.2.2.2.2.1, x26.2.2.2.2.2.2.1, x26.2.2.2.2.2.2.2.1, x26.2.2.2.2.2.2.2.2.1, x26.2.2.2.2.2.2.2.2.2.1, x26.2.2.2.2.2.2.2.2.2.2.1, x26.2.2.2.2.2.2.2.2.2.2.2.1, x26.2.2.2.2.2.2.2.2.2.2.2.2.1, x26.2.2.2.2.2.2.2.2.2.2.2.2.2.1, x26.2.2.2.2.2.2.2.2.2.2.2.2.2.2.1, x26.2.2.2.2.2.2.2.2.2.2.2.2.2.2.2)
    else
      k27 (x26.1, x26.2.1, x26.2.2.1, x26.2.2.2.1, x26.2.2.2.2.1, x26.2.2.2.2.2.1, x26.2.2.2.2.2.2.1, x26.2.2.2.2.2.2.2.1, x26.2.2.2.2.2.2.2.2.1, x26.2.2.2.2.2.2.2.2.2.1, x26.2.2.2.2.2.2.2.2.2.2.1, x26.2.2.2.2.2.2.2.2.2.2.2.1, x26.2.2.2.2.2.2.2.2.2.2.2.2.1, x26.2.2.2.2.2.2.2.2.2.2.2.2.2.1, x26.2.2.2.2.2.2.2.2.2.2.2.2.2.2.1, x26.2.2.2.2.2.2.2.2.2.2.2.2.2.2.2)
  else
    k27 (x26.1, x26.2.1, x26.2.2.1, x26.2.2.2.1, x26.2.2.2.2.1, x26.2.2.2.2.2.1, x26.2.2.2.2.2.2.1, x26.2.2.2.2.2.2.2.1, x26.2.2.2.2.2.2.2.2.1, x26.2.2.2.2.2.2.2.2.2.1, x26.2.2.2.2.2.2.2.2.2.2.1, x26.2.2.2.2.2.2.2.2.2.2.2.1, x26.2.2.2.2.2.2.2.2.2.2.2.2.1, x26.2.2.2.2.2.2.2.2.2.2.2.2.2.1, x26.2.2.2.2.2.2.2.2.2.2.2.2.2.2.1, x26.2.2.2.2.2.2.2.2.2.2.2.2.2.2.2)
def L02_ArenaPlays_R15 (k26 : (Int × Int × Int × Int × List Int × (List (Int × Int × Unit)) × Int × Int × Int × (List (Int × Bool × Int × Unit)) × Int × Int × Int × List Int × (List (Int × Int × Unit)) × List Int) → Option Bool) (x27 : Int × Int × Int × Int × List Int × (List (Int × Int × Unit)) × Int × Int × Int × (List (Int × Bool × Int × Unit)) × Int × Int × Int × List Int × (List (Int × Int × Unit)) × List Int) : Option Bool :=
  k26 (x27.1, x27.2.1, IntKind.i64.wrap (x27.2.2.1 + 1), x27.2.2.2.1, x27.2.2.2.2.1, x27.2.2.2.2.2.1, x27.2.2.2.2.2.2.1, x27.2.2.2.2.2.2.2.1, x27.2.2.2.2.2.2.2.2.1, x27.2.2.2.2.2.2.2.2.2.1, x27.2.2.2.2.2.2.2.2.2.2.1, x27.2.2.2.2.2.2.2.2.2.2.2.1, x27.2.2.2.2.2.2.2.2.2.2.2.2.1, x27.2.2.2.2.2.2.2.2.2.2.2.2.2.1, x27.2.2.2.2.2.2.2.2.2.2.2.2.2.2.1, x27.2.2.2.2.2.2.2.2.2.2.2.2.2.2.2)
def L02_ArenaPlays_L9 (k21 : (Bool × Int × List Int × (List (Int × Int × Unit)) × Int × Int × Int × (List (Int × Bool × Int × Unit)) × Int × Int) → Option Bool) (k26 : (Int × Int × Int × Int × List Int × (List (Int × Int × Unit)) × Int × Int × Int × (List (Int × Bool × Int × Unit)) × Int × Int × Int × List Int × (List (Int × Int × Unit)) × List Int) → Option Bool) (x26 : Int × Int × Int × Int × List Int × (List (Int × Int × Unit)) × Int × Int × Int × (List (Int × Bool × Int × Unit)) × Int × Int × Int × List Int × (List (Int × Int × Unit)) × List Int) : Option Bool :=
  bif decide (x26.2.2.1 < x26.2.1) then
    cutv 15 (L02_ArenaPlays_C15 x26) (L02_ArenaPlays_R15 k26)
  else
    L02_ArenaPlays_J10 k21 x26.1 x26.2.2.2.1 x26.2.2.2.2.1 x26.2.2.2.2.2.1 x26.2.2.2.2.2.2.1 x26.2.2.2.2.2.2.2.1 x26.2.2.2.2.2.2.2.2.1 x26.2.2.2.2.2.2.2.2.2.1 x26.2.2.2.2.2.2.2.2.2.2.1 x26.2.2.2.2.2.2.2.2.2.2.2.1 x26.2.2.2.2.2.2.2.2.2.2.2.2.1 x26.2.2.2.2.2.2.2.2.2.2.2.2.2.1 x26.2.2.2.2.2.2.2.2.2.2.2.2.2.2.1 x26.2.2.2.2.2.2.2.2.2.2.2.2.2.2.2
def L02_ArenaPlays_J11 (k21 : (Bool × Int × List Int × (List (Int × Int × Unit)) × Int × Int × Int × (List (Int × Bool × Int × Unit)) × Int × Int) → Option Bool) (p99 : Int) (p100 : Int) (p101 : List Int) (p102 : List (Int × Int × Unit)) (p103 : Int) (p104 : Int) (p105 : Int) (p106 : List (Int × Bool × Int × Unit)) (p107 : Int) (p108 : Int) (p109 : Int) (p110 : List Int) (p111 : List (Int × Int × Unit)) (p112 : List Int) : Option Bool :=
  Option.bind (R02_Free (p109, p110, p111, ())) fun r54 =>
  k21 (decide (p99 = r54), p100, p101, p102, p103, p104, p105, p106, p107, p108)
def L02_ArenaPlays_C16 (x28 : Int × Int × Int × Int × List Int × (List (Int × Int × Unit)) × Int × Int × Int × (List (Int × Bool × Int × Unit)) × Int × Int × Int × List Int × (List (Int × Int × Unit)) × List Int) (k29 : (Int × Int × Int × Int × List Int × (List (Int × Int × Unit)) × Int × Int × Int × (List (Int × Bool × Int × Unit)) × Int × Int × Int × List Int × (List (Int × Int × Unit)) × List Int) → Option Bool) : Option Bool :=
  chk (0 ≤ x28.2.2.1 ∧ x28.2.2.1 < (x28.2.2.2.2.2.2.2.2.2.1.length : Int)) <|
  bif !(x28.2.2.2.2.2.2.2.2.2.1.getD x28.2.2.1.toNat (0, false, 0, ())).2.1 then
    chk (0 ≤ x28.2.2.1 ∧ x28.2.2.1 < (x28.2.2.2.2.2.2.2.2.2.1.length : Int)) <|
    letv (decide ((x28.2.2.2.2.2.2.2.2.2.1.getD x28.2.2.1.toNat (0, false, 0, ())).1 < x28.2.2.2.2.2.2.2.2.2.2.1)) fun v33 =>
    bif v33 then
      k29 (IntKind.i64.wrap (x28.1 + 1), x28.2.1, x28.2.2.1, x28.2.2.2.1, x28.2.2.2.2.1, x28.2.2.2.2.2.1, x28.2.2.2.2.2.2.1, x28.2.2.2.2.2.2.2.1, x28.2.2.2.2.2.2.2.2.1, x28.2.2.2.2.2.2.2.2.2.1, x28.2.2.2.2.2.2.2.2.2.2.1, x28.2.2.2.2.2.2.2.2.2.2.2.1, x28.2.2.2.2.2.2.2.2.2.2.2.2.1, x28.2.2.2.2.2.2.2.2.2.2.2.2.2.1, x28.2.2.2.2.2.2.2.2.2.2.2.2.2.2.1, x28.2.2.2.2.2.2.2.2.2.2.2.2.2.2.2)
    else
      k29 (x28.1, x28.2.1, x28.2.2.1, x28.2.2.2.1, x28.2.2.2.2.1, x28.2.2.2.2.2.1, x28.2.2.2.2.2.2.1, x28.2.2.2.2.2.2.2.1, x28.2.2.2.2.2.2.2.2.1, x28.2.2.2.2.2.2.2.2.2.1, x28.2.2.2.2.2.2.2.2.2.2.1, x28.2.2.2.2.2.2.2.2.2.2.2.1, x28.2.2.2.2.2.2.2.2.2.2.2.2.1, x28.2.2.2.2.2.2.2.2.2.2.2.2.2.1, x28.2.2.2.2.2.2.2.2.2.2.2.2.2.2.1, x28.2.2.2.2.2.2.2.2.2.2.2.2.2.2.2)
  else
    k29 (x28.1, x28.2.1, x28.2.2.1, x28.2.2.2.1, x28.2.2.2.2.1, x28.2.2.2.2.2.1, x28.2.2.2.2.2.2.1, x28.2.2.2.2.2.2.2.1, x28.2.2.2.2.2.2.2.2.1, x28.2.2.2.2.2.2.2.2.2.1, x28.2.2.2.2.2.2.2.2.2.2.1, x28.2.2.2.2.2.2.2.2.2.2.2.1, x28.2.2.2.2.2.2.2.2.2.2.2.2.1, x28.2.2.2.2.2.2.2.2.2.2.2.2.2.1, x28.2.2.2.2.2.2.2.2.2.2.2.2.2.2.1, x28.2.2.2.2.2.2.2.2.2.2.2.2.2.2.2)
def L02_ArenaPlays_R16 (k28 : (Int × Int × Int × Int × List Int × (List (Int × Int × Unit)) × Int × Int × Int × (List (Int × Bool × Int × Unit)) × Int × Int × Int × List Int × (List (Int × Int × Unit)) × List Int) → Option Bool) (x29 : Int × Int × Int × Int × List Int × (List (Int × Int × Unit)) × Int × Int × Int × (List (Int × Bool × Int × Unit)) × Int × Int × Int × List Int × (List (Int × Int × Unit)) × List Int) : Option Bool :=
  k28 (x29.1, x29.2.1, IntKind.i64.wrap (x29.2.2.1 + 1), x29.2.2.2.1, x29.2.2.2.2.1, x29.2.2.2.2.2.1, x29.2.2.2.2.2.2.1, x29.2.2.2.2.2.2.2.1, x29.2.2.2.2.2.2.2.2.1, x29.2.2.2.2.2.2.2.2.2.1, x29.2.2.2.2.2.2.2.2.2.2.1, x29.2.2.2.2.2.2.2.2.2.2.2.1, x29.2.2.2.2.2.2.2.2.2.2.2.2.1, x29.2.2.2.2.2.2.2.2.2.2.2.2.2.1, x29.2.2.2.2.2.2.2.2.2.2.2.2.2.2.1, x29.2.2.2.2.2.2.2.2.2.2.2.2.2.2.2)
def L02_ArenaPlays_L10 (k21 : (Bool × Int × List Int × (List (Int × Int × Unit)) × Int × Int × Int × (List (Int × Bool × Int × Unit)) × Int × Int) → Option Bool) (k28 : (Int × Int × Int × Int × List Int × (List (Int × Int × Unit)) × Int × Int × Int × (List (Int × Bool × Int × Unit)) × Int × Int × Int × List Int × (List (Int × Int × Unit)) × List Int) → Option Bool) (x28 : Int × Int × Int × Int × List Int × (List (Int × Int × Unit)) × Int × Int × Int × (List (Int × Bool × Int × Unit)) × Int × Int × Int × List Int × (List (Int × Int × Unit)) × List Int) : Option Bool :=
  bif decide (x28.2.2.1 < x28.2.1) then
    cutv 16 (L02_ArenaPlays_C16 x28) (L02_ArenaPlays_R16 k28)
  else
    L02_ArenaPlays_J11 k21 x28.1 x28.2.2.2.1 x28.2.2.2.2.1 x28.2.2.2.2.2.1 x28.2.2.2.2.2.2.1 x28.2.2.2.2.2.2.2.1 x28.2.2.2.2.2.2.2.2.1 x28.2.2.2.2.2.2.2.2.2.1 x28.2.2.2.2.2.2.2.2.2.2.1 x28.2.2.2.2.2.2.2.2.2.2.2.1 x28.2.2.2.2.2.2.2.2.2.2.2.2.1 x28.2.2.2.2.2.2.2.2.2.2.2.2.2.1 x28.2.2.2.2.2.2.2.2.2.2.2.2.2.2.1 x28.2.2.2.2.2.2.2.2.2.2.2.2.2.2.2
def L02_ArenaPlays_J12 (x20 : Int × Int × Int × Int × List Int × (List (Int × Int × Unit)) × Int × Int × Int × (List (Int × Bool × Int × Unit)) × Int × Int × Int × List Int × (List (Int × Int × Unit))) (k21 : (Bool × Int × List Int × (List (Int × Int × Unit)) × Int × Int × Int × (List (Int × Bool × Int × Unit)) × Int × Int) → Option Bool) (p84 : List Int) : Option Bool :=
  Option.bind (R02_Handles (x20.2.2.2.2.2.2.2.2.2.2.2.2.1, x20.2.2.2.2.2.2.2.2.2.2.2.2.2.1, x20.2.2.2.2.2.2.2.2.2.2.2.2.2.2, ())) fun r49 =>
  Option.bind (R02_Same p84 r49) fun r50 =>
  bif r50 then
    letv (decide ((x20.2.2.2.2.2.2.2.2.2.1.length : Int) > 0)) fun v29 =>
    bif !v29 then
      bif decide (0 = (x20.2.2.2.2.2.2.2.2.2.2.2.2.2.2.length : Int)) then
        letv (decide ((x20.2.2.2.2.2.2.2.2.2.1.length : Int) > 0)) fun v30 =>
        bif !v30 then
          Option.bind (R02_Free (x20.2.2.2.2.2.2.2.2.2.2.2.2.1, x20.2.2.2.2.2.2.2.2.2.2.2.2.2.1, x20.2.2.2.2.2.2.2.2.2.2.2.2.2.2, ())) fun r51 =>
          k21 (decide (0 = r51), x20.2.2.2.1, x20.2.2.2.2.1, x20.2.2.2.2.2.1, x20.2.2.2.2.2.2.1, x20.2.2.2.2.2.2.2.1, x20.2.2.2.2.2.2.2.2.1, x20.2.2.2.2.2.2.2.2.2.1, x20.2.2.2.2.2.2.2.2.2.2.1, x20.2.2.2.2.2.2.2.2.2.2.2.1)
        else
          loop (L02_ArenaPlays_L9 k21) (0, (x20.2.2.2.2.2.2.2.2.2.1.length : Int), 0, x20.2.2.2.1, x20.2.2.2.2.1, x20.2.2.2.2.2.1, x20.2.2.2.2.2.2.1, x20.2.2.2.2.2.2.2.1, x20.2.2.2.2.2.2.2.2.1, x20.2.2.2.2.2.2.2.2.2.1, x20.2.2.2.2.2.2.2.2.2.2.1, x20.2.2.2.2.2.2.2.2.2.2.2.1, x20.2.2.2.2.2.2.2.2.2.2.2.2.1, x20.2.2.2.2.2.2.2.2.2.2.2.2.2.1, x20.2.2.2.2.2.2.2.2.2.2.2.2.2.2, p84)
      else
        k21 (false, x20.2.2.2.1, x20.2.2.2.2.1, x20.2.2.2.2.2.1, x20.2.2.2.2.2.2.1, x20.2.2.2.2.2.2.2.1, x20.2.2.2.2.2.2.2.2.1, x20.2.2.2.2.2.2.2.2.2.1, x20.2.2.2.2.2.2.2.2.2.2.1, x20.2.2.2.2.2.2.2.2.2.2.2.1)
    else
      bif decide (x20.2.2.2.2.2.2.2.2.2.2.2.1 = (x20.2.2.2.2.2.2.2.2.2.2.2.2.2.2.length : Int)) then
        letv (decide ((x20.2.2.2.2.2.2.2.2.2.1.length : Int) > 0)) fun v32 =>
        bif !v32 then
          Option.bind (R02_Free (x20.2.2.2.2.2.2.2.2.2.2.2.2.1, x20.2.2.2.2.2.2.2.2.2.2.2.2.2.1, x20.2.2.2.2.2.2.2.2.2.2.2.2.2.2, ())) fun r53 =>
          k21 (decide (0 = r53), x20.2.2.2.1, x20.2.2.2.2.1, x20.2.2.2.2.2.1, x20.2.2.2.2.2.2.1, x20.2.2.2.2.2.2.2.1, x20.2.2.2.2.2.2.2.2.1, x20.2.2.2.2.2.2.2.2.2.1, x20.2.2.2.2.2.2.2.2.2.2.1, x20.2.2.2.2.2.2.2.2.2.2.2.1)
        else
          loop (L02_ArenaPlays_L10 k21) (0, (x20.2.2.2.2.2.2.2.2.2.1.length : Int), 0, x20.2.2.2.1, x20.2.2.2.2.1, x20.2.2.2.2.2.1, x20.2.2.2.2.2.2.1, x20.2.2.2.2.2.2.2.1, x20.2.2.2.2.2.2.2.2.1, x20.2.2.2.2.2.2.2.2.2.1, x20.2.2.2.2.2.2.2.2.2.2.1, x20.2.2.2.2.2.2.2.2.2.2.2.1, x20.2.2.2.2.2.2.2.2.2.2.2.2.1, x20.2.2.2.2.2.2.2.2.2.2.2.2.2.1, x20.2.2.2.2.2.2.2.2.2.2.2.2.2.2, p84)
      else
        k21 (false, x20.2.2.2.1, x20.2.2.2.2.1, x20.2.2.2.2.2.1, x20.2.2.2.2.2.2.1, x20.2.2.2.2.2.2.2.1, x20.2.2.2.2.2.2.2.2.1, x20.2.2.2.2.2.2.2.2.2.1, x20.2.2.2.2.2.2.2.2.2.2.1, x20.2.2.2.2.2.2.2.2.2.2.2.1)
  else
    k21 (false, x20.2.2.2.1, x20.2.2.2.2.1, x20.2.2.2.2.2.1, x20.2.2.2.2.2.2.1, x20.2.2.2.2.2.2.2.1, x20.2.2.2.2.2.2.2.2.1, x20.2.2.2.2.2.2.2.2.2.1, x20.2.2.2.2.2.2.2.2.2.2.1, x20.2.2.2.2.2.2.2.2.2.2.2.1)
def L02_ArenaPlays_L11 (p113 : Int) (x20 : Int × Int × Int × Int × List Int × (List (Int × Int × Unit)) × Int × Int × Int × (List (Int × Bool × Int × Unit)) × Int × Int × Int × List Int × (List (Int × Int × Unit))) (k21 : (Bool × Int × List Int × (List (Int × Int × Unit)) × Int × Int × Int × (List (Int × Bool × Int × Unit)) × Int × Int) → Option Bool) (k30 : (Int × List Int) → Option Bool) (x30 : Int × List Int) : Option Bool :=
  bif decide (x30.1 < p113) then
    chk (0 ≤ x30.1 ∧ x30.1 < (x20.2.2.2.2.2.2.2.2.2.1.length : Int)) <|
    bif (x20.2.2.2.2.2.2.2.2.2.1.getD x30.1.toNat (0, false, 0, ())).2.1 then
      Option.bind (handle_Make x30.1 (x20.2.2.2.2.2.2.2.2.2.1.getD x30.1.toNat (0, false, 0, ())).1) fun r55 =>
      chk (x30.2.length + ([r55.1] : List Int).length ≤ 4294967296) <|
      k30 (IntKind.i64.wrap (x30.1 + 1), x30.2 ++ [r55.1])
    else
      k30 (IntKind.i64.wrap (x30.1 + 1), x30.2)
  else
    L02_ArenaPlays_J12 x20 k21 x30.2
def L02_ArenaPlays_C17 (x20 : Int × Int × Int × Int × List Int × (List (Int × Int × Unit)) × Int × Int × Int × (List (Int × Bool × Int × Unit)) × Int × Int × Int × List Int × (List (Int × Int × Unit))) (r42 : Int × Int × Unit) (k21 : (Bool × Int × List Int × (List (Int × Int × Unit)) × Int × Int × Int × (List (Int × Bool × Int × Unit)) × Int × Int) → Option Bool) : Option Bool :=
  bif decide (x20.2.1 = r42.1) then
    bif decide (x20.2.2.1 = r42.2.1) then
      letv (decide ((x20.2.2.2.2.2.2.2.2.2.1.length : Int) > 0)) fun v23 =>
      bif !v23 then
        Option.bind (R02_Handles (x20.2.2.2.2.2.2.2.2.2.2.2.2.1, x20.2.2.2.2.2.2.2.2.2.2.2.2.2.1, x20.2.2.2.2.2.2.2.2.2.2.2.2.2.2, ())) fun r43 =>
        Option.bind (R02_Same [] r43) fun r44 =>
        bif r44 then
          letv (decide ((x20.2.2.2.2.2.2.2.2.2.1.length : Int) > 0)) fun v24 =>
          bif !v24 then
            bif decide (0 = (x20.2.2.2.2.2.2.2.2.2.2.2.2.2.2.length : Int)) then
              letv (decide ((x20.2.2.2.2.2.2.2.2.2.1.length : Int) > 0)) fun v25 =>
              bif !v25 then
                Option.bind (R02_Free (x20.2.2.2.2.2.2.2.2.2.2.2.2.1, x20.2.2.2.2.2.2.2.2.2.2.2.2.2.1, x20.2.2.2.2.2.2.2.2.2.2.2.2.2.2, ())) fun r45 =>
                k21 (decide (0 = r45), x20.2.2.2.1, x20.2.2.2.2.1, x20.2.2.2.2.2.1, x20.2.2.2.2.2.2.1, x20.2.2.2.2.2.2.2.1, x20.2.2.2.2.2.2.2.2.1, x20.2.2.2.2.2.2.2.2.2.1, x20.2.2.2.2.2.2.2.2.2.2.1, x20.2.2.2.2.2.2.2.2.2.2.2.1)
              else
                loop (L02_ArenaPlays_L7 k21) (0, (x20.2.2.2.2.2.2.2.2.2.1.length : Int), 0, x20.2.2.2.1, x20.2.2.2.2.1, x20.2.2.2.2.2.1, x20.2.2.2.2.2.2.1, x20.2.2.2.2.2.2.2.1, x20.2.2.2.2.2.2.2.2.1, x20.2.2.2.2.2.2.2.2.2.1, x20.2.2.2.2.2.2.2.2.2.2.1, x20.2.2.2.2.2.2.2.2.2.2.2.1, x20.2.2.2.2.2.2.2.2.2.2.2.2.1, x20.2.2.2.2.2.2.2.2.2.2.2.2.2.1, x20.2.2.2.2.2.2.2.2.2.2.2.2.2.2)
            else
              k21 (false, x20.2.2.2.1, x20.2.2.2.2.1, x20.2.2.2.2.2.1, x20.2.2.2.2.2.2.1, x20.2.2.2.2.2.2.2.1, x20.2.2.2.2.2.2.2.2.1, x20.2.2.2.2.2.2.2.2.2.1, x20.2.2.2.2.2.2.2.2.2.2.1, x20.2.2.2.2.2.2.2.2.2.2.2.1)
          else
            bif decide (x20.2.2.2.2.2.2.2.2.2.2.2.1 = (x20.2.2.2.2.2.2.2.2.2.2.2.2.2.2.length : Int)) then
              letv (decide ((x20.2.2.2.2.2.2.2.2.2.1.length : Int) > 0)) fun v27 =>
              bif !v27 then
                Option.bind (R02_Free (x20.2.2.2.2.2.2.2.2.2.2.2.2.1, x20.2.2.2.2.2.2.2.2.2.2.2.2.2.1, x20.2.2.2.2.2.2.2.2.2.2.2.2.2.2, ())) fun r47 =>
                k21 (decide (0 = r47), x20.2.2.2.1, x20.2.2.2.2.1, x20.2.2.2.2.2.1, x20.2.2.2.2.2.2.1, x20.2.2.2.2.2.2.2.1, x20.2.2.2.2.2.2.2.2.1, x20.2.2.2.2.2.2.2.2.2.1, x20.2.2.2.2.2.2.2.2.2.2.1, x20.2.2.2.2.2.2.2.2.2.2.2.1)
              else
                loop (L02_ArenaPlays_L8 k21) (0, (x20.2.2.2.2.2.2.2.2.2.1.length : Int), 0, x20.2.2.2.1, x20.2.2.2.2.1, x20.2.2.2.2.2.1, x20.2.2.2.2.2.2.1, x20.2.2.2.2.2.2.2.1, x20.2.2.2.2.2.2.2.2.1, x20.2.2.2.2.2.2.2.2.2.1, x20.2.2.2.2.2.2.2.2.2.2.1, x20.2.2.2.2.2.2.2.2.2.2.2.1, x20.2.2.2.2.2.2.2.2.2.2.2.2.1, x20.2.2.2.2.2.2.2.2.2.2.2.2.2.1, x20.2.2.2.2.2.2.2.2.2.2.2.2.2.2)
            else
              k21 (false, x20.2.2.2.1, x20.2.2.2.2.1, x20.2.2.2.2.2.1, x20.2.2.2.2.2.2.1, x20.2.2.2.2.2.2.2.1, x20.2.2.2.2.2.2.2.2.1, x20.2.2.2.2.2.2.2.2.2.1, x20.2.2.2.2.2.2.2.2.2.2.1, x20.2.2.2.2.2.2.2.2.2.2.2.1)
        else
          k21 (false, x20.2.2.2.1, x20.2.2.2.2.1, x20.2.2.2.2.2.1, x20.2.2.2.2.2.2.1, x20.2.2.2.2.2.2.2.1, x20.2.2.2.2.2.2.2.2.1, x20.2.2.2.2.2.2.2.2.2.1, x20.2.2.2.2.2.2.2.2.2.2.1, x20.2.2.2.2.2.2.2.2.2.2.2.1)
      else
        loop (L02_ArenaPlays_L11 (x20.2.2.2.2.2.2.2.2.2.1.length : Int) x20 k21) (0, [])
    else
      k21 (false, x20.2.2.2.1, x20.2.2.2.2.1, x20.2.2.2.2.2.1, x20.2.2.2.2.2.2.1, x20.2.2.2.2.2.2.2.1, x20.2.2.2.2.2.2.2.2.1, x20.2.2.2.2.2.2.2.2.2.1, x20.2.2.2.2.2.2.2.2.2.2.1, x20.2.2.2.2.2.2.2.2.2.2.2.1)
  else
    k21 (false, x20.2.2.2.1, x20.2.2.2.2.1, x20.2.2.2.2.2.1, x20.2.2.2.2.2.2.1, x20.2.2.2.2.2.2.2.1, x20.2.2.2.2.2.2.2.2.1, x20.2.2.2.2.2.2.2.2.2.1, x20.2.2.2.2.2.2.2.2.2.2.1, x20.2.2.2.2.2.2.2.2.2.2.2.1)
def L02_ArenaPlays_R17 (k19 : ((List (Int × Int × Int × Unit)) × Int × Int × Bool × Int × List Int × (List (Int × Int × Unit)) × (List (Int × Bool × Int × Unit)) × Int × Int) → Option Bool) (x13 : Int × Int × (List (Int × Int × Int × Unit)) × Int × Int × Int × List Int × (List (Int × Int × Unit)) × Int × Int × Int × (List (Int × Bool × Int × Unit)) × Int × Int) (x21 : Bool × Int × List Int × (List (Int × Int × Unit)) × Int × Int × Int × (List (Int × Bool × Int × Unit)) × Int × Int) : Option Bool :=
  k19 (x13.2.2.1, x13.2.2.2.1, x13.2.2.2.2.1, !x21.1, x21.2.1, x21.2.2.1, x21.2.2.2.1, x21.2.2.2.2.2.2.2.1, x21.2.2.2.2.2.2.2.2.1, x21.2.2.2.2.2.2.2.2.2)
def L02_ArenaPlays_R12 (k19 : ((List (Int × Int × Int × Unit)) × Int × Int × Bool × Int × List Int × (List (Int × Int × Unit)) × (List (Int × Bool × Int × Unit)) × Int × Int) → Option Bool) (x13 : Int × Int × (List (Int × Int × Int × Unit)) × Int × Int × Int × List Int × (List (Int × Int × Unit)) × Int × Int × Int × (List (Int × Bool × Int × Unit)) × Int × Int) (x20 : Int × Int × Int × Int × List Int × (List (Int × Int × Unit)) × Int × Int × Int × (List (Int × Bool × Int × Unit)) × Int × Int × Int × List Int × (List (Int × Int × Unit))) : Option Bool :=
  Option.bind (R02_Get (x20.2.2.2.2.2.2.2.2.2.2.2.2.1, x20.2.2.2.2.2.2.2.2.2.2.2.2.2.1, x20.2.2.2.2.2.2.2.2.2.2.2.2.2.2, ()) x20.1) fun r42 =>
  cutv 17 (L02_ArenaPlays_C17 x20 r42) (L02_ArenaPlays_R17 k19 x13)
def L02_ArenaPlays_C18 (x13 : Int × Int × (List (Int × Int × Int × Unit)) × Int × Int × Int × List Int × (List (Int × Int × Unit)) × Int × Int × Int × (List (Int × Bool × Int × Unit)) × Int × Int) (k19 : ((List (Int × Int × Int × Unit)) × Int × Int × Bool × Int × List Int × (List (Int × Int × Unit)) × (List (Int × Bool × Int × Unit)) × Int × Int) → Option Bool) : Option Bool :=
  bif !decide (x13.1 = x13.2.1) then
    k19 (x13.2.2.1, x13.2.2.2.1, x13.2.2.2.2.1, true, x13.2.2.2.2.2.1, x13.2.2.2.2.2.2.1, x13.2.2.2.2.2.2.2.1, x13.2.2.2.2.2.2.2.2.2.2.2.1, x13.2.2.2.2.2.2.2.2.2.2.2.2.1, x13.2.2.2.2.2.2.2.2.2.2.2.2.2)
  else
    cutv 12 (L02_ArenaPlays_C12 x13) (L02_ArenaPlays_R12 k19 x13)
def L02_ArenaPlays_R18 (k12 : ((List (Int × Int × Int × Unit)) × Int × Int × Int × List Int × (List (Int × Int × Unit)) × (List (Int × Bool × Int × Unit)) × Int × Int) → Option Bool) (x19 : (List (Int × Int × Int × Unit)) × Int × Int × Bool × Int × List Int × (List (Int × Int × Unit)) × (List (Int × Bool × Int × Unit)) × Int × Int) : Option Bool :=
  bif x19.2.2.2.1 then
    some false
  else
    k12 (x19.1, x19.2.1, IntKind.i64.wrap (x19.2.2.1 + 1), x19.2.2.2.2.1, x19.2.2.2.2.2.1, x19.2.2.2.2.2.2.1, x19.2.2.2.2.2.2.2.1, x19.2.2.2.2.2.2.2.2.1, x19.2.2.2.2.2.2.2.2.2)
def L02_ArenaPlays_R11 (k12 : ((List (Int × Int × Int × Unit)) × Int × Int × Int × List Int × (List (Int × Int × Unit)) × (List (Int × Bool × Int × Unit)) × Int × Int) → Option Bool) (x13 : Int × Int × (List (Int × Int × Int × Unit)) × Int × Int × Int × List Int × (List (Int × Int × Unit)) × Int × Int × Int × (List (Int × Bool × Int × Unit)) × Int × Int) : Option Bool :=
  cutv 18 (L02_ArenaPlays_C18 x13) (L02_ArenaPlays_R18 k12)
def L02_ArenaPlays_L12 (k12 : ((List (Int × Int × Int × Unit)) × Int × Int × Int × List Int × (List (Int × Int × Unit)) × (List (Int × Bool × Int × Unit)) × Int × Int) → Option Bool) (x12 : (List (Int × Int × Int × Unit)) × Int × Int × Int × List Int × (List (Int × Int × Unit)) × (List (Int × Bool × Int × Unit)) × Int × Int) : Option Bool :=
  bif decide (x12.2.2.1 < x12.2.1) then
    chk (0 ≤ x12.2.2.1 ∧ x12.2.2.1 < (x12.1.length : Int)) <|
    chk ((5 : Int) ≠ 0) <|
    cutv 11 (L02_ArenaPlays_C11 x12) (L02_ArenaPlays_R11 k12)
  else
    L02_ArenaPlays_J6 x12.2.2.2.1 x12.2.2.2.2.1 x12.2.2.2.2.2.1 x12.2.2.2.2.2.2.1 x12.2.2.2.2.2.2.2.1 x12.2.2.2.2.2.2.2.2
def L02_ArenaPlays_C19 (p117 : List (Int × Bool × Int × Unit)) (p114 : Int) (p115 : List Int) (p116 : List (Int × Int × Unit)) (p118 : Int) (p119 : Int) (k31 : (Int × Int × Int × List Int × (List (Int × Int × Unit)) × (List (Int × Bool × Int × Unit)) × Int × Int × Int × List Int × (List (Int × Int × Unit))) → Option Bool) : Option Bool :=
  bif !(decide ((p117.length : Int) > 0)) then
    k31 (0, 2, p114, p115, p116, p117, p118, p119, p114, p115, p116)
  else
    Option.bind (handle_Slot 4096) fun r66 =>
    bif decide (r66 < 0) then
      k31 (0, 8, p114, p115, p116, p117, p118, p119, p114, p115, p116)
    else
      bif decide (r66 ≥ (p117.length : Int)) then
        k31 (0, 8, p114, p115, p116, p117, p118, p119, p114, p115, p116)
      else
        chk (0 ≤ r66 ∧ r66 < (p117.length : Int)) <|
        bif !(p117.getD r66.toNat (0, false, 0, ())).2.1 then
          k31 (0, 9, p114, p115, p116, p117, p118, p119, p114, p115, p116)
        else
          Option.bind (handle_Gen 4096) fun r67 =>
          bif !decide ((p117.getD r66.toNat (0, false, 0, ())).1 = r67) then
            k31 (0, 9, p114, p115, p116, p117, p118, p119, p114, p115, p116)
          else
            letv ((p117.getD r66.toNat (0, false, 0, ())).2.2.1) fun v34 =>
            k31 (v34, 0, p114, p115, p116, p117, p118, p119, p114, p115, p116)
def L02_ArenaPlays_J13 (k32 : (Bool × Int × List Int × (List (Int × Int × Unit)) × (List (Int × Bool × Int × Unit)) × Int × Int) → Option Bool) (p120 : Int) (p121 : Int) (p122 : List Int) (p123 : List (Int × Int × Unit)) (p124 : List (Int × Bool × Int × Unit)) (p125 : Int) (p126 : Int) (p127 : Int) (p128 : List Int) (p129 : List (Int × Int × Unit)) : Option Bool :=
  Option.bind (R02_Free (p127, p128, p129, ())) fun r72 =>
  k32 (decide (p120 = r72), p121, p122, p123, p124, p125, p126)
def L02_ArenaPlays_C20 (x33 : Int × Int × Int × Int × List Int × (List (Int × Int × Unit)) × (List (Int × Bool × Int × Unit)) × Int × Int × Int × List Int × (List (Int × Int × Unit))) (k34 : (Int × Int × Int × Int × List Int × (List (Int × Int × Unit)) × (List (Int × Bool × Int × Unit)) × Int × Int × Int × List Int × (List (Int × Int × Unit))) → Option Bool) : Option Bool :=
  chk (0 ≤ x33.2.2.1 ∧ x33.2.2.1 < (x33.2.2.2.2.2.2.1.length : Int)) <|
  bif !(x33.2.2.2.2.2.2.1.getD x33.2.2.1.toNat (0, false, 0, ())).2.1 then
    chk (0 ≤ x33.2.2.1 ∧ x33.2.2.1 < (x33.2.2.2.2.2.2.1.length : Int)) <|
    letv (decide ((x33.2.2.2.2.2.2.1.getD x33.2.2.1.toNat (0, false, 0, ())).1 < x33.2.2.2.2.2.2.2.1)) fun v38 =>
    bif v38 then
      k34 (IntKind.i64.wrap (x33.1 + 1), x33.2.1, x33.2.2.1, x33.2.2.2.1, x33.2.2.2.2.1, x33.2.2.2.2.2.1, x33.2.2.2.2.2.2.1, x33.2.2.2.2.2.2.2.1, x33.2.2.2.2.2.2.2.2.1, x33.2.2.2.2.2.2.2.2.2.1, x33.2.2.2.2.2.2.2.2.2.2.1, x33.2.2.2.2.2.2.2.2.2.2.2)
    else
      k34 (x33.1, x33.2.1, x33.2.2.1, x33.2.2.2.1, x33.2.2.2.2.1, x33.2.2.2.2.2.1, x33.2.2.2.2.2.2.1, x33.2.2.2.2.2.2.2.1, x33.2.2.2.2.2.2.2.2.1, x33.2.2.2.2.2.2.2.2.2.1, x33.2.2.2.2.2.2.2.2.2.2.1, x33.2.2.2.2.2.2.2.2.2.2.2)
  else
    k34 (x33.1, x33.2.1, x33.2.2.1, x33.2.2.2.1, x33.2.2.2.2.1, x33.2.2.2.2.2.1, x33.2.2.2.2.2.2.1, x33.2.2.2.2.2.2.2.1, x33.2.2.2.2.2.2.2.2.1, x33.2.2.2.2.2.2.2.2.2.1, x33.2.2.2.2.2.2.2.2.2.2.1, x33.2.2.2.2.2.2.2.2.2.2.2)
def L02_ArenaPlays_R20 (k33 : (Int × Int × Int × Int × List Int × (List (Int × Int × Unit)) × (List (Int × Bool × Int × Unit)) × Int × Int × Int × List Int × (List (Int × Int × Unit))) → Option Bool) (x34 : Int × Int × Int × Int × List Int × (List (Int × Int × Unit)) × (List (Int × Bool × Int × Unit)) × Int × Int × Int × List Int × (List (Int × Int × Unit))) : Option Bool :=
  k33 (x34.1, x34.2.1, IntKind.i64.wrap (x34.2.2.1 + 1), x34.2.2.2.1, x34.2.2.2.2.1, x34.2.2.2.2.2.1, x34.2.2.2.2.2.2.1, x34.2.2.2.2.2.2.2.1, x34.2.2.2.2.2.2.2.2.1, x34.2.2.2.2.2.2.2.2.2.1, x34.2.2.2.2.2.2.2.2.2.2.1, x34.2.2.2.2.2.2.2.2.2.2.2)
def L02_ArenaPlays_L13 (k32 : (Bool × Int × List Int × (List (Int × Int × Unit)) × (List (Int × Bool × Int × Unit)) × Int × Int) → Option Bool) (k33 : (Int × Int × Int × Int × List Int × (List (Int × Int × Unit)) × (List (Int × Bool × Int × Unit)) × Int × Int × Int × List Int × (List (Int × Int × Unit))) → Option Bool) (x33 : Int × Int × Int × Int × List Int × (List (Int × Int × Unit)) × (List (Int × Bool × Int × Unit)) × Int × Int × Int × List Int × (List (Int × Int × Unit))) : Option Bool :=
  bif decide (x33.2.2.1 < x33.2.1) then
    cutv 20 (L02_ArenaPlays_C20 x33) (L02_ArenaPlays_R20 k33)
  else
    L02_ArenaPlays_J13 k32 x33.1 x33.2.2.2.1 x33.2.2.2.2.1 x33.2.2.2.2.2.1 x33.2.2.2.2.2.2.1 x33.2.2.2.2.2.2.2.1 x33.2.2.2.2.2.2.2.2.1 x33.2.2.2.2.2.2.2.2.2.1 x33.2.2.2.2.2.2.2.2.2.2.1 x33.2.2.2.2.2.2.2.2.2.2.2
def L02_ArenaPlays_J14 (k32 : (Bool × Int × List Int × (List (Int × Int × Unit)) × (List (Int × Bool × Int × Unit)) × Int × Int) → Option Bool) (p130 : Int) (p131 : Int) (p132 : List Int) (p133 : List (Int × Int × Unit)) (p134 : List (Int × Bool × Int × Unit)) (p135 : Int) (p136 : Int) (p137 : Int) (p138 : List Int) (p139 : List (Int × Int × Unit)) : Option Bool :=
  Option.bind (R02_Free (p137, p138, p139, ())) fun r74 =>
  k32 (decide (p130 = r74), p131, p132, p133, p134, p135, p136)
def L02_ArenaPlays_C21 (x35 : Int × Int × Int × Int × List Int × (List (Int × Int × Unit)) × (List (Int × Bool × Int × Unit)) × Int × Int × Int × List Int × (List (Int × Int × Unit))) (k36 : (Int × Int × Int × Int × List Int × (List (Int × Int × Unit)) × (List (Int × Bool × Int × Unit)) × Int × Int × Int × List Int × (List (Int × Int × Unit))) → Option Bool) : Option Bool :=
  chk (0 ≤ x35.2.2.1 ∧ x35.2.2.1 < (x35.2.2.2.2.2.2.1.length : Int)) <|
  bif !(x35.2.2.2.2.2.2.1.getD x35.2.2.1.toNat (0, false, 0, ())).2.1 then
    chk (0 ≤ x35.2.2.1 ∧ x35.2.2.1 < (x35.2.2.2.2.2.2.1.length : Int)) <|
    letv (decide ((x35.2.2.2.2.2.2.1.getD x35.2.2.1.toNat (0, false, 0, ())).1 < x35.2.2.2.2.2.2.2.1)) fun v40 =>
    bif v40 then
      k36 (IntKind.i64.wrap (x35.1 + 1), x35.2.1, x35.2.2.1, x35.2.2.2.1, x35.2.2.2.2.1, x35.2.2.2.2.2.1, x35.2.2.2.2.2.2.1, x35.2.2.2.2.2.2.2.1, x35.2.2.2.2.2.2.2.2.1, x35.2.2.2.2.2.2.2.2.2.1, x35.2.2.2.2.2.2.2.2.2.2.1, x35.2.2.2.2.2.2.2.2.2.2.2)
    else
      k36 (x35.1, x35.2.1, x35.2.2.1, x35.2.2.2.1, x35.2.2.2.2.1, x35.2.2.2.2.2.1, x35.2.2.2.2.2.2.1, x35.2.2.2.2.2.2.2.1, x35.2.2.2.2.2.2.2.2.1, x35.2.2.2.2.2.2.2.2.2.1, x35.2.2.2.2.2.2.2.2.2.2.1, x35.2.2.2.2.2.2.2.2.2.2.2)
  else
    k36 (x35.1, x35.2.1, x35.2.2.1, x35.2.2.2.1, x35.2.2.2.2.1, x35.2.2.2.2.2.1, x35.2.2.2.2.2.2.1, x35.2.2.2.2.2.2.2.1, x35.2.2.2.2.2.2.2.2.1, x35.2.2.2.2.2.2.2.2.2.1, x35.2.2.2.2.2.2.2.2.2.2.1, x35.2.2.2.2.2.2.2.2.2.2.2)
def L02_ArenaPlays_R21 (k35 : (Int × Int × Int × Int × List Int × (List (Int × Int × Unit)) × (List (Int × Bool × Int × Unit)) × Int × Int × Int × List Int × (List (Int × Int × Unit))) → Option Bool) (x36 : Int × Int × Int × Int × List Int × (List (Int × Int × Unit)) × (List (Int × Bool × Int × Unit)) × Int × Int × Int × List Int × (List (Int × Int × Unit))) : Option Bool :=
  k35 (x36.1, x36.2.1, IntKind.i64.wrap (x36.2.2.1 + 1), x36.2.2.2.1, x36.2.2.2.2.1, x36.2.2.2.2.2.1, x36.2.2.2.2.2.2.1, x36.2.2.2.2.2.2.2.1, x36.2.2.2.2.2.2.2.2.1, x36.2.2.2.2.2.2.2.2.2.1, x36.2.2.2.2.2.2.2.2.2.2.1, x36.2.2.2.2.2.2.2.2.2.2.2)
def L02_ArenaPlays_L14 (k32 : (Bool × Int × List Int × (List (Int × Int × Unit)) × (List (Int × Bool × Int × Unit)) × Int × Int) → Option Bool) (k35 : (Int × Int × Int × Int × List Int × (List (Int × Int × Unit)) × (List (Int × Bool × Int × Unit)) × Int × Int × Int × List Int × (List (Int × Int × Unit))) → Option Bool) (x35 : Int × Int × Int × Int × List Int × (List (Int × Int × Unit)) × (List (Int × Bool × Int × Unit)) × Int × Int × Int × List Int × (List (Int × Int × Unit))) : Option Bool :=
  bif decide (x35.2.2.1 < x35.2.1) then
    cutv 21 (L02_ArenaPlays_C21 x35) (L02_ArenaPlays_R21 k35)
  else
    L02_ArenaPlays_J14 k32 x35.1 x35.2.2.2.1 x35.2.2.2.2.1 x35.2.2.2.2.2.1 x35.2.2.2.2.2.2.1 x35.2.2.2.2.2.2.2.1 x35.2.2.2.2.2.2.2.2.1 x35.2.2.2.2.2.2.2.2.2.1 x35.2.2.2.2.2.2.2.2.2.2.1 x35.2.2.2.2.2.2.2.2.2.2.2
def L02_ArenaPlays_J15 (k32 : (Bool × Int × List Int × (List (Int × Int × Unit)) × (List (Int × Bool × Int × Unit)) × Int × Int) → Option Bool) (p141 : Int) (p142 : Int) (p143 : List Int) (p144 : List (Int × Int × Unit)) (p145 : List (Int × Bool × Int × Unit)) (p146 : Int) (p147 : Int) (p148 : Int) (p149 : List Int) (p150 : List (Int × Int × Unit)) (p151 : List Int) : Option Bool :=
  Option.bind (R02_Free (p148, p149, p150, ())) fun r78 =>
  k32 (decide (p141 = r78), p142, p143, p144, p145, p146, p147)
def L02_ArenaPlays_C22 (x37 : Int × Int × Int × Int × List Int × (List (Int × Int × Unit)) × (List (Int × Bool × Int × Unit)) × Int × Int × Int × List Int × (List (Int × Int × Unit)) × List Int) (k38 : (Int × Int × Int × Int × List Int × (List (Int × Int × Unit)) × (List (Int × Bool × Int × Unit)) × Int × Int × Int × List Int × (List (Int × Int × Unit)) × List Int) → Option Bool) : Option Bool :=
  chk (0 ≤ x37.2.2.1 ∧ x37.2.2.1 < (x37.2.2.2.2.2.2.1.length : Int)) <|
  bif !(x37.2.2.2.2.2.2.1.getD x37.2.2.1.toNat (0, false, 0, ())).2.1 then
    chk (0 ≤ x37.2.2.1 ∧ x37.2.2.1 < (x37.2.2.2.2.2.2.1.length : Int)) <|
    letv (decide ((x37.2.2.2.2.2.2.1.getD x37.2.2.1.toNat (0, false, 0, ())).1 < x37.2.2.2.2.2.2.2.1)) fun v43 =>
    bif v43 then
      k38 (IntKind.i64.wrap (x37.1 + 1), x37.2.1, x37.2.2.1, x37.2.2.2.1, x37.2.2.2.2.1, x37.2.2.2.2.2.1, x37.2.2.2.2.2.2.1, x37.2.2.2.2.2.2.2.1, x37.2.2.2.2.2.2.2.2.1, x37.2.2.2.2.2.2.2.2.2.1, x37.2.2.2.2.2.2.2.2.2.2.1, x37.2.2.2.2.2.2.2.2.2.2.2.1, x37.2.2.2.2.2.2.2.2.2.2.2.2)
    else
      k38 (x37.1, x37.2.1, x37.2.2.1, x37.2.2.2.1, x37.2.2.2.2.1, x37.2.2.2.2.2.1, x37.2.2.2.2.2.2.1, x37.2.2.2.2.2.2.2.1, x37.2.2.2.2.2.2.2.2.1, x37.2.2.2.2.2.2.2.2.2.1, x37.2.2.2.2.2.2.2.2.2.2.1, x37.2.2.2.2.2.2.2.2.2.2.2.1, x37.2.2.2.2.2.2.2.2.2.2.2.2)
  else
    k38 (x37.1, x37.2.1, x37.2.2.1, x37.2.2.2.1, x37.2.2.2.2.1, x37.2.2.2.2.2.1, x37.2.2.2.2.2.2.1, x37.2.2.2.2.2.2.2.1, x37.2.2.2.2.2.2.2.2.1, x37.2.2.2.2.2.2.2.2.2.1, x37.2.2.2.2.2.2.2.2.2.2.1, x37.2.2.2.2.2.2.2.2.2.2.2.1, x37.2.2.2.2.2.2.2.2.2.2.2.2)
def L02_ArenaPlays_R22 (k37 : (Int × Int × Int × Int × List Int × (List (Int × Int × Unit)) × (List (Int × Bool × Int × Unit)) × Int × Int × Int × List Int × (List (Int × Int × Unit)) × List Int) → Option Bool) (x38 : Int × Int × Int × Int × List Int × (List (Int × Int × Unit)) × (List (Int × Bool × Int × Unit)) × Int × Int × Int × List Int × (List (Int × Int × Unit)) × List Int) : Option Bool :=
  k37 (x38.1, x38.2.1, IntKind.i64.wrap (x38.2.2.1 + 1), x38.2.2.2.1, x38.2.2.2.2.1, x38.2.2.2.2.2.1, x38.2.2.2.2.2.2.1, x38.2.2.2.2.2.2.2.1, x38.2.2.2.2.2.2.2.2.1, x38.2.2.2.2.2.2.2.2.2.1, x38.2.2.2.2.2.2.2.2.2.2.1, x38.2.2.2.2.2.2.2.2.2.2.2.1, x38.2.2.2.2.2.2.2.2.2.2.2.2)
def L02_ArenaPlays_L15 (k32 : (Bool × Int × List Int × (List (Int × Int × Unit)) × (List (Int × Bool × Int × Unit)) × Int × Int) → Option Bool) (k37 : (Int × Int × Int × Int × List Int × (List (Int × Int × Unit)) × (List (Int × Bool × Int × Unit)) × Int × Int × Int × List Int × (List (Int × Int × Unit)) × List Int) → Option Bool) (x37 : Int × Int × Int × Int × List Int × (List (Int × Int × Unit)) × (List (Int × Bool × Int × Unit)) × Int × Int × Int × List Int × (List (Int × Int × Unit)) × List Int) : Option Bool :=
  bif decide (x37.2.2.1 < x37.2.1) then
    cutv 22 (L02_ArenaPlays_C22 x37) (L02_ArenaPlays_R22 k37)
  else
    L02_ArenaPlays_J15 k32 x37.1 x37.2.2.2.1 x37.2.2.2.2.1 x37.2.2.2.2.2.1 x37.2.2.2.2.2.2.1 x37.2.2.2.2.2.2.2.1 x37.2.2.2.2.2.2.2.2.1 x37.2.2.2.2.2.2.2.2.2.1 x37.2.2.2.2.2.2.2.2.2.2.1 x37.2.2.2.2.2.2.2.2.2.2.2.1 x37.2.2.2.2.2.2.2.2.2.2.2.2
def L02_ArenaPlays_J16 (k32 : (Bool × Int × List Int × (List (Int × Int × Unit)) × (List (Int × Bool × Int × Unit)) × Int × Int) → Option Bool) (p152 : Int) (p153 : Int) (p154 : List Int) (p155 : List (Int × Int × Unit)) (p156 : List (Int × Bool × Int × Unit)) (p157 : Int) (p158 : Int) (p159 : Int) (p160 : List Int) (p161 : List (Int × Int × Unit)) (p162 : List Int) : Option Bool :=
  Option.bind (R02_Free (p159, p160, p161, ())) fun r80 =>
  k32 (decide (p152 = r80), p153, p154, p155, p156, p157, p158)
def L02_ArenaPlays_C23 (x39 : Int × Int × Int × Int × List Int × (List (Int × Int × Unit)) × (List (Int × Bool × Int × Unit)) × Int × Int × Int × List Int × (List (Int × Int × Unit)) × List Int) (k40 : (Int × Int × Int × Int × List Int × (List (Int × Int × Unit)) × (List (Int × Bool × Int × Unit)) × Int × Int × Int × List Int × (List (Int × Int × Unit)) × List Int) → Option Bool) : Option Bool :=
  chk (0 ≤ x39.2.2.1 ∧ x39.2.2.1 < (x39.2.2.2.2.2.2.1.length : Int)) <|
  bif !(x39.2.2.2.2.2.2.1.getD x39.2.2.1.toNat (0, false, 0, ())).2.1 then
    chk (0 ≤ x39.2.2.1 ∧ x39.2.2.1 < (x39.2.2.2.2.2.2.1.length : Int)) <|
    letv (decide ((x39.2.2.2.2.2.2.1.getD x39.2.2.1.toNat (0, false, 0, ())).1 < x39.2.2.2.2.2.2.2.1)) fun v45 =>
    bif v45 then
      k40 (IntKind.i64.wrap (x39.1 + 1), x39.2.1, x39.2.2.1, x39.2.2.2.1, x39.2.2.2.2.1, x39.2.2.2.2.2.1, x39.2.2.2.2.2.2.1, x39.2.2.2.2.2.2.2.1, x39.2.2.2.2.2.2.2.2.1, x39.2.2.2.2.2.2.2.2.2.1, x39.2.2.2.2.2.2.2.2.2.2.1, x39.2.2.2.2.2.2.2.2.2.2.2.1, x39.2.2.2.2.2.2.2.2.2.2.2.2)
    else
      k40 (x39.1, x39.2.1, x39.2.2.1, x39.2.2.2.1, x39.2.2.2.2.1, x39.2.2.2.2.2.1, x39.2.2.2.2.2.2.1, x39.2.2.2.2.2.2.2.1, x39.2.2.2.2.2.2.2.2.1, x39.2.2.2.2.2.2.2.2.2.1, x39.2.2.2.2.2.2.2.2.2.2.1, x39.2.2.2.2.2.2.2.2.2.2.2.1, x39.2.2.2.2.2.2.2.2.2.2.2.2)
  else
    k40 (x39.1, x39.2.1, x39.2.2.1, x39.2.2.2.1, x39.2.2.2.2.1, x39.2.2.2.2.2.1, x39.2.2.2.2.2.2.1, x39.2.2.2.2.2.2.2.1, x39.2.2.2.2.2.2.2.2.1, x39.2.2.2.2.2.2.2.2.2.1, x39.2.2.2.2.2.2.2.2.2.2.1, x39.2.2.2.2.2.2.2.2.2.2.2.1, x39.2.2.2.2.2.2.2.2.2.2.2.2)
def L02_ArenaPlays_R23 (k39 : (Int × Int × Int × Int × List Int × (List (Int × Int × Unit)) × (List (Int × Bool × Int × Unit)) × Int × Int × Int × List Int × (List (Int × Int × Unit)) × List Int) → Option Bool) (x40 : Int × Int × Int × Int × List Int × (List (Int × Int × Unit)) × (List (Int × Bool × Int × Unit)) × Int × Int × Int × List Int × (List (Int × Int × Unit)) × List Int) : Option Bool :=
  k39 (x40.1, x40.2.1, IntKind.i64.wrap (x40.2.2.1 + 1), x40.2.2.2.1, x40.2.2.2.2.1, x40.2.2.2.2.2.1, x40.2.2.2.2.2.2.1, x40.2.2.2.2.2.2.2.1, x40.2.2.2.2.2.2.2.2.1, x40.2.2.2.2.2.2.2.2.2.1, x40.2.2.2.2.2.2.2.2.2.2.1, x40.2.2.2.2.2.2.2.2.2.2.2.1, x40.2.2.2.2.2.2.2.2.2.2.2.2)
def L02_ArenaPlays_L16 (k32 : (Bool × Int × List Int × (List (Int × Int × Unit)) × (List (Int × Bool × Int × Unit)) × Int × Int) → Option Bool) (k39 : (Int × Int × Int × Int × List Int × (List (Int × Int × Unit)) × (List (Int × Bool × Int × Unit)) × Int × Int × Int × List Int × (List (Int × Int × Unit)) × List Int) → Option Bool) (x39 : Int × Int × Int × Int × List Int × (List (Int × Int × Unit)) × (List (Int × Bool × Int × Unit)) × Int × Int × Int × List Int × (List (Int × Int × Unit)) × List Int) : Option Bool :=
  bif decide (x39.2.2.1 < x39.2.1) then
    cutv 23 (L02_ArenaPlays_C23 x39) (L02_ArenaPlays_R23 k39)
  else
    L02_ArenaPlays_J16 k32 x39.1 x39.2.2.2.1 x39.2.2.2.2.1 x39.2.2.2.2.2.1 x39.2.2.2.2.2.2.1 x39.2.2.2.2.2.2.2.1 x39.2.2.2.2.2.2.2.2.1 x39.2.2.2.2.2.2.2.2.2.1 x39.2.2.2.2.2.2.2.2.2.2.1 x39.2.2.2.2.2.2.2.2.2.2.2.1 x39.2.2.2.2.2.2.2.2.2.2.2.2
def L02_ArenaPlays_J17 (x31 : Int × Int × Int × List Int × (List (Int × Int × Unit)) × (List (Int × Bool × Int × Unit)) × Int × Int × Int × List Int × (List (Int × Int × Unit))) (k32 : (Bool × Int × List Int × (List (Int × Int × Unit)) × (List (Int × Bool × Int × Unit)) × Int × Int) → Option Bool) (p140 : List Int) : Option Bool :=
  Option.bind (R02_Handles (x31.2.2.2.2.2.2.2.2.1, x31.2.2.2.2.2.2.2.2.2.1, x31.2.2.2.2.2.2.2.2.2.2, ())) fun r75 =>
  Option.bind (R02_Same p140 r75) fun r76 =>
  bif r76 then
    letv (decide ((x31.2.2.2.2.2.1.length : Int) > 0)) fun v41 =>
    bif !v41 then
      bif decide (0 = (x31.2.2.2.2.2.2.2.2.2.2.length : Int)) then
        letv (decide ((x31.2.2.2.2.2.1.length : Int) > 0)) fun v42 =>
        bif !v42 then
          Option.bind (R02_Free (x31.2.2.2.2.2.2.2.2.1, x31.2.2.2.2.2.2.2.2.2.1, x31.2.2.2.2.2.2.2.2.2.2, ())) fun r77 =>
          k32 (decide (0 = r77), x31.2.2.1, x31.2.2.2.1, x31.2.2.2.2.1, x31.2.2.2.2.2.1, x31.2.2.2.2.2.2.1, x31.2.2.2.2.2.2.2.1)
        else
          loop (L02_ArenaPlays_L15 k32) (0, (x31.2.2.2.2.2.1.length : Int), 0, x31.2.2.1, x31.2.2.2.1, x31.2.2.2.2.1, x31.2.2.2.2.2.1, x31.2.2.2.2.2.2.1, x31.2.2.2.2.2.2.2.1, x31.2.2.2.2.2.2.2.2.1, x31.2.2.2.2.2.2.2.2.2.1, x31.2.2.2.2.2.2.2.2.2.2, p140)
      else
        k32 (false, x31.2.2.1, x31.2.2.2.1, x31.2.2.2.2.1, x31.2.2.2.2.2.1, x31.2.2.2.2.2.2.1, x31.2.2.2.2.2.2.2.1)
    else
      bif decide (x31.2.2.2.2.2.2.2.1 = (x31.2.2.2.2.2.2.2.2.2.2.length : Int)) then
        letv (decide ((x31.2.2.2.2.2.1.length : Int) > 0)) fun v44 =>
        bif !v44 then
          Option.bind (R02_Free (x31.2.2.2.2.2.2.2.2.1, x31.2.2.2.2.2.2.2.2.2.1, x31.2.2.2.2.2.2.2.2.2.2, ())) fun r79 =>
          k32 (decide (0 = r79), x31.2.2.1, x31.2.2.2.1, x31.2.2.2.2.1, x31.2.2.2.2.2.1, x31.2.2.2.2.2.2.1, x31.2.2.2.2.2.2.2.1)
        else
          loop (L02_ArenaPlays_L16 k32) (0, (x31.2.2.2.2.2.1.length : Int), 0, x31.2.2.1, x31.2.2.2.1, x31.2.2.2.2.1, x31.2.2.2.2.2.1, x31.2.2.2.2.2.2.1, x31.2.2.2.2.2.2.2.1, x31.2.2.2.2.2.2.2.2.1, x31.2.2.2.2.2.2.2.2.2.1, x31.2.2.2.2.2.2.2.2.2.2, p140)
      else
        k32 (false, x31.2.2.1, x31.2.2.2.1, x31.2.2.2.2.1, x31.2.2.2.2.2.1, x31.2.2.2.2.2.2.1, x31.2.2.2.2.2.2.2.1)
  else
    k32 (false, x31.2.2.1, x31.2.2.2.1, x31.2.2.2.2.1, x31.2.2.2.2.2.1, x31.2.2.2.2.2.2.1, x31.2.2.2.2.2.2.2.1)
def L02_ArenaPlays_L17 (p163 : Int) (x31 : Int × Int × Int × List Int × (List (Int × Int × Unit)) × (List (Int × Bool × Int × Unit)) × Int × Int × Int × List Int × (List (Int × Int × Unit))) (k32 : (Bool × Int × List Int × (List (Int × Int × Unit)) × (List (Int × Bool × Int × Unit)) × Int × Int) → Option Bool) (k41 : (Int × List Int) → Option Bool) (x41 : Int × List Int) : Option Bool :=
  bif decide (x41.1 < p163) then
    chk (0 ≤ x41.1 ∧ x41.1 < (x31.2.2.2.2.2.1.length : Int)) <|
    bif (x31.2.2.2.2.2.1.getD x41.1.toNat (0, false, 0, ())).2.1 then
      Option.bind (handle_Make x41.1 (x31.2.2.2.2.2.1.getD x41.1.toNat (0, false, 0, ())).1) fun r81 =>
      chk (x41.2.length + ([r81.1] : List Int).length ≤ 4294967296) <|
      k41 (IntKind.i64.wrap (x41.1 + 1), x41.2 ++ [r81.1])
    else
      k41 (IntKind.i64.wrap (x41.1 + 1), x41.2)
  else
    L02_ArenaPlays_J17 x31 k32 x41.2
def L02_ArenaPlays_C24 (x31 : Int × Int × Int × List Int × (List (Int × Int × Unit)) × (List (Int × Bool × Int × Unit)) × Int × Int × Int × List Int × (List (Int × Int × Unit))) (r68 : Int × Int × Unit) (k32 : (Bool × Int × List Int × (List (Int × Int × Unit)) × (List (Int × Bool × Int × Unit)) × Int × Int) → Option Bool) : Option Bool :=
  bif decide (x31.1 = r68.1) then
    bif decide (x31.2.1 = r68.2.1) then
      letv (decide ((x31.2.2.2.2.2.1.length : Int) > 0)) fun v35 =>
      bif !v35 then
        Option.bind (R02_Handles (x31.2.2.2.2.2.2.2.2.1, x31.2.2.2.2.2.2.2.2.2.1, x31.2.2.2.2.2.2.2.2.2.2, ())) fun r69 =>
        Option.bind (R02_Same [] r69) fun r70 =>
        bif r70 then
          letv (decide ((x31.2.2.2.2.2.1.length : Int) > 0)) fun v36 =>
          bif !v36 then
            bif decide (0 = (x31.2.2.2.2.2.2.2.2.2.2.length : Int)) then
              letv (decide ((x31.2.2.2.2.2.1.length : Int) > 0)) fun v37 =>
              bif !v37 then
                Option.bind (R02_Free (x31.2.2.2.2.2.2.2.2.1, x31.2.2.2.2.2.2.2.2.2.1, x31.2.2.2.2.2.2.2.2.2.2, ())) fun r71 =>
                k32 (decide (0 = r71), x31.2.2.1, x31.2.2.2.1, x31.2.2.2.2.1, x31.2.2.2.2.2.1, x31.2.2.2.2.2.2.1, x31.2.2.2.2.2.2.2.1)
              else
                loop (L02_ArenaPlays_L13 k32) (0, (x31.2.2.2.2.2.1.length : Int), 0, x31.2.2.1, x31.2.2.2.1, x31.2.2.2.2.1, x31.2.2.2.2.2.1, x31.2.2.2.2.2.2.1, x31.2.2.2.2.2.2.2.1, x31.2.2.2.2.2.2.2.2.1, x31.2.2.2.2.2.2.2.2.2.1, x31.2.2.2.2.2.2.2.2.2.2)
            else
              k32 (false, x31.2.2.1, x31.2.2.2.1, x31.2.2.2.2.1, x31.2.2.2.2.2.1, x31.2.2.2.2.2.2.1, x31.2.2.2.2.2.2.2.1)
          else
            bif decide (x31.2.2.2.2.2.2.2.1 = (x31.2.2.2.2.2.2.2.2.2.2.length : Int)) then
              letv (decide ((x31.2.2.2.2.2.1.length : Int) > 0)) fun v39 =>
              bif !v39 then
                Option.bind (R02_Free (x31.2.2.2.2.2.2.2.2.1, x31.2.2.2.2.2.2.2.2.2.1, x31.2.2.2.2.2.2.2.2.2.2, ())) fun r73 =>
                k32 (decide (0 = r73), x31.2.2.1, x31.2.2.2.1, x31.2.2.2.2.1, x31.2.2.2.2.2.1, x31.2.2.2.2.2.2.1, x31.2.2.2.2.2.2.2.1)
              else
                loop (L02_ArenaPlays_L14 k32) (0, (x31.2.2.2.2.2.1.length : Int), 0, x31.2.2.1, x31.2.2.2.1, x31.2.2.2.2.1, x31.2.2.2.2.2.1, x31.2.2.2.2.2.2.1, x31.2.2.2.2.2.2.2.1, x31.2.2.2.2.2.2.2.2.1, x31.2.2.2.2.2.2.2.2.2.1, x31.2.2.2.2.2.2.2.2.2.2)
            else
              k32 (false, x31.2.2.1, x31.2.2.2.1, x31.2.2.2.2.1, x31.2.2.2.2.2.1, x31.2.2.2.2.2.2.1, x31.2.2.2.2.2.2.2.1)
        else
          k32 (false, x31.2.2.1, x31.2.2.2.1, x31.2.2.2.2.1, x31.2.2.2.2.2.1, x31.2.2.2.2.2.2.1, x31.2.2.2.2.2.2.2.1)
      else
        loop (L02_ArenaPlays_L17 (x31.2.2.2.2.2.1.length : Int) x31 k32) (0, [])
    else
      k32 (false, x31.2.2.1, x31.2.2.2.1, x31.2.2.2.2.1, x31.2.2.2.2.2.1, x31.2.2.2.2.2.2.1, x31.2.2.2.2.2.2.2.1)
  else
    k32 (false, x31.2.2.1, x31.2.2.2.1, x31.2.2.2.2.1, x31.2.2.2.2.2.1, x31.2.2.2.2.2.2.1, x31.2.2.2.2.2.2.2.1)
def L02_ArenaPlays_R24 (x32 : Bool × Int × List Int × (List (Int × Int × Unit)) × (List (Int × Bool × Int × Unit)) × Int × Int) : Option Bool :=
  bif x32.1 then
    Option.bind (L02_alive) fun r82 =>
    some r82
  else
    some false
def L02_ArenaPlays_R19 (x31 : Int × Int × Int × List Int × (List (Int × Int × Unit)) × (List (Int × Bool × Int × Unit)) × Int × Int × Int × List Int × (List (Int × Int × Unit))) : Option Bool :=
  Option.bind (R02_Get (x31.2.2.2.2.2.2.2.2.1, x31.2.2.2.2.2.2.2.2.2.1, x31.2.2.2.2.2.2.2.2.2.2, ()) 4096) fun r68 =>
  cutv 24 (L02_ArenaPlays_C24 x31 r68) L02_ArenaPlays_R24
def L02_ArenaPlays_J18 (p114 : Int) (p115 : List Int) (p116 : List (Int × Int × Unit)) (p117 : List (Int × Bool × Int × Unit)) (p118 : Int) (p119 : Int) : Option Bool :=
  cutv 19 (L02_ArenaPlays_C19 p117 p114 p115 p116 p118 p119) L02_ArenaPlays_R19
def L02_ArenaPlays_C25 (x42 : (List (Int × Int × Int × Unit)) × Int × Int × Int × List Int × (List (Int × Int × Unit)) × (List (Int × Bool × Int × Unit)) × Int × Int) (k44 : (Int × (List (Int × Int × Int × Unit)) × Int × Int × Int × List Int × (List (Int × Int × Unit)) × Int × Int × Int × (List (Int × Bool × Int × Unit)) × Int × Int) → Option Bool) : Option Bool :=
  letv (decide ((x42.2.2.2.2.2.2.1.length : Int) > 0)) fun v47 =>
  bif !v47 then
    k44 (2, x42.1, x42.2.1, x42.2.2.1, x42.2.2.2.1, x42.2.2.2.2.1, x42.2.2.2.2.2.1, (x42.1.getD x42.2.2.1.toNat (0, 0, 0, ())).1, (x42.1.getD x42.2.2.1.toNat (0, 0, 0, ())).2.1, (x42.1.getD x42.2.2.1.toNat (0, 0, 0, ())).2.2.1, x42.2.2.2.2.2.2.1, x42.2.2.2.2.2.2.2.1, x42.2.2.2.2.2.2.2.2)
  else
    Option.bind (handle_Slot (x42.1.getD x42.2.2.1.toNat (0, 0, 0, ())).2.1) fun r83 =>
    bif decide (r83 < 0) then
      k44 (8, x42.1, x42.2.1, x42.2.2.1, x42.2.2.2.1, x42.2.2.2.2.1, x42.2.2.2.2.2.1, (x42.1.getD x42.2.2.1.toNat (0, 0, 0, ())).1, (x42.1.getD x42.2.2.1.toNat (0, 0, 0, ())).2.1, (x42.1.getD x42.2.2.1.toNat (0, 0, 0, ())).2.2.1, x42.2.2.2.2.2.2.1, x42.2.2.2.2.2.2.2.1, x42.2.2.2.2.2.2.2.2)
    else
      bif decide (r83 ≥ (x42.2.2.2.2.2.2.1.length : Int)) then
        k44 (8, x42.1, x42.2.1, x42.2.2.1, x42.2.2.2.1, x42.2.2.2.2.1, x42.2.2.2.2.2.1, (x42.1.getD x42.2.2.1.toNat (0, 0, 0, ())).1, (x42.1.getD x42.2.2.1.toNat (0, 0, 0, ())).2.1, (x42.1.getD x42.2.2.1.toNat (0, 0, 0, ())).2.2.1, x42.2.2.2.2.2.2.1, x42.2.2.2.2.2.2.2.1, x42.2.2.2.2.2.2.2.2)
      else
        chk (0 ≤ r83 ∧ r83 < (x42.2.2.2.2.2.2.1.length : Int)) <|
        bif !(x42.2.2.2.2.2.2.1.getD r83.toNat (0, false, 0, ())).2.1 then
          k44 (9, x42.1, x42.2.1, x42.2.2.1, x42.2.2.2.1, x42.2.2.2.2.1, x42.2.2.2.2.2.1, (x42.1.getD x42.2.2.1.toNat (0, 0, 0, ())).1, (x42.1.getD x42.2.2.1.toNat (0, 0, 0, ())).2.1, (x42.1.getD x42.2.2.1.toNat (0, 0, 0, ())).2.2.1, x42.2.2.2.2.2.2.1, x42.2.2.2.2.2.2.2.1, x42.2.2.2.2.2.2.2.2)
        else
          Option.bind (handle_Gen (x42.1.getD x42.2.2.1.toNat (0, 0, 0, ())).2.1) fun r84 =>
          bif !decide ((x42.2.2.2.2.2.2.1.getD r83.toNat (0, false, 0, ())).1 = r84) then
            k44 (9, x42.1, x42.2.1, x42.2.2.1, x42.2.2.2.1, x42.2.2.2.2.1, x42.2.2.2.2.2.1, (x42.1.getD x42.2.2.1.toNat (0, 0, 0, ())).1, (x42.1.getD x42.2.2.1.toNat (0, 0, 0, ())).2.1, (x42.1.getD x42.2.2.1.toNat (0, 0, 0, ())).2.2.1, x42.2.2.2.2.2.2.1, x42.2.2.2.2.2.2.2.1, x42.2.2.2.2.2.2.2.2)
          else
            letv (x42.2.2.2.2.2.2.1.set r83.toNat ((x42.2.2.2.2.2.2.1.getD r83.toNat (0, false, 0, ())).1, (x42.2.2.2.2.2.2.1.getD r83.toNat (0, false, 0, ())).2.1, (x42.1.getD x42.2.2.1.toNat (0, 0, 0, ())).2.2.1, ())) fun l11 =>
            k44 (0, x42.1, x42.2.1, x42.2.2.1, x42.2.2.2.1, x42.2.2.2.2.1, x42.2.2.2.2.2.1, (x42.1.getD x42.2.2.1.toNat (0, 0, 0, ())).1, (x42.1.getD x42.2.2.1.toNat (0, 0, 0, ())).2.1, (x42.1.getD x42.2.2.1.toNat (0, 0, 0, ())).2.2.1, l11, x42.2.2.2.2.2.2.2.1, x42.2.2.2.2.2.2.2.2)
def L02_ArenaPlays_R25 (k43 : (Int × Int × (List (Int × Int × Int × Unit)) × Int × Int × Int × List Int × (List (Int × Int × Unit)) × Int × Int × Int × (List (Int × Bool × Int × Unit)) × Int × Int) → Option Bool) (x44 : Int × (List (Int × Int × Int × Unit)) × Int × Int × Int × List Int × (List (Int × Int × Unit)) × Int × Int × Int × (List (Int × Bool × Int × Unit)) × Int × Int) : Option Bool :=
  Option.bind (R02_Set (x44.2.2.2.2.1, x44.2.2.2.2.2.1, x44.2.2.2.2.2.2.1, ()) x44.2.2.2.2.2.2.2.2.1 x44.2.2.2.2.2.2.2.2.2.1) fun r85 =>
  k43 (x44.1, r85.2.1, x44.2.1, x44.2.2.1, x44.2.2.2.1, r85.1.1, r85.1.2.1, r85.1.2.2.1, x44.2.2.2.2.2.2.2.1, x44.2.2.2.2.2.2.2.2.1, x44.2.2.2.2.2.2.2.2.2.1, x44.2.2.2.2.2.2.2.2.2.2.1, x44.2.2.2.2.2.2.2.2.2.2.2.1, x44.2.2.2.2.2.2.2.2.2.2.2.2)
def L02_ArenaPlays_C26 (x42 : (List (Int × Int × Int × Unit)) × Int × Int × Int × List Int × (List (Int × Int × Unit)) × (List (Int × Bool × Int × Unit)) × Int × Int) (k45 : (Int × (List (Int × Int × Int × Unit)) × Int × Int × Int × List Int × (List (Int × Int × Unit)) × Int × Int × Int × (List (Int × Bool × Int × Unit)) × Int × Int) → Option Bool) : Option Bool :=
  letv (decide ((x42.2.2.2.2.2.2.1.length : Int) > 0)) fun v49 =>
  bif !v49 then
    k45 (2, x42.1, x42.2.1, x42.2.2.1, x42.2.2.2.1, x42.2.2.2.2.1, x42.2.2.2.2.2.1, (x42.1.getD x42.2.2.1.toNat (0, 0, 0, ())).1, (x42.1.getD x42.2.2.1.toNat (0, 0, 0, ())).2.1, (x42.1.getD x42.2.2.1.toNat (0, 0, 0, ())).2.2.1, x42.2.2.2.2.2.2.1, x42.2.2.2.2.2.2.2.1, x42.2.2.2.2.2.2.2.2)
  else
    Option.bind (handle_Slot (x42.1.getD x42.2.2.1.toNat (0, 0, 0, ())).2.1) fun r86 =>
    bif decide (r86 < 0) then
      k45 (8, x42.1, x42.2.1, x42.2.2.1, x42.2.2.2.1, x42.2.2.2.2.1, x42.2.2.2.2.2.1, (x42.1.getD x42.2.2.1.toNat (0, 0, 0, ())).1, (x42.1.getD x42.2.2.1.toNat (0, 0, 0, ())).2.1, (x42.1.getD x42.2.2.1.toNat (0, 0, 0, ())).2.2.1, x42.2.2.2.2.2.2.1, x42.2.2.2.2.2.2.2.1, x42.2.2.2.2.2.2.2.2)
    else
      bif decide (r86 ≥ (x42.2.2.2.2.2.2.1.length : Int)) then
        k45 (8, x42.1, x42.2.1, x42.2.2.1, x42.2.2.2.1, x42.2.2.2.2.1, x42.2.2.2.2.2.1, (x42.1.getD x42.2.2.1.toNat (0, 0, 0, ())).1, (x42.1.getD x42.2.2.1.toNat (0, 0, 0, ())).2.1, (x42.1.getD x42.2.2.1.toNat (0, 0, 0, ())).2.2.1, x42.2.2.2.2.2.2.1, x42.2.2.2.2.2.2.2.1, x42.2.2.2.2.2.2.2.2)
      else
        chk (0 ≤ r86 ∧ r86 < (x42.2.2.2.2.2.2.1.length : Int)) <|
        bif !(x42.2.2.2.2.2.2.1.getD r86.toNat (0, false, 0, ())).2.1 then
          k45 (9, x42.1, x42.2.1, x42.2.2.1, x42.2.2.2.1, x42.2.2.2.2.1, x42.2.2.2.2.2.1, (x42.1.getD x42.2.2.1.toNat (0, 0, 0, ())).1, (x42.1.getD x42.2.2.1.toNat (0, 0, 0, ())).2.1, (x42.1.getD x42.2.2.1.toNat (0, 0, 0, ())).2.2.1, x42.2.2.2.2.2.2.1, x42.2.2.2.2.2.2.2.1, x42.2.2.2.2.2.2.2.2)
        else
          Option.bind (handle_Gen (x42.1.getD x42.2.2.1.toNat (0, 0, 0, ())).2.1) fun r87 =>
          bif !decide ((x42.2.2.2.2.2.2.1.getD r86.toNat (0, false, 0, ())).1 = r87) then
            k45 (9, x42.1, x42.2.1, x42.2.2.1, x42.2.2.2.1, x42.2.2.2.2.1, x42.2.2.2.2.2.1, (x42.1.getD x42.2.2.1.toNat (0, 0, 0, ())).1, (x42.1.getD x42.2.2.1.toNat (0, 0, 0, ())).2.1, (x42.1.getD x42.2.2.1.toNat (0, 0, 0, ())).2.2.1, x42.2.2.2.2.2.2.1, x42.2.2.2.2.2.2.2.1, x42.2.2.2.2.2.2.2.2)
          else
            letv (x42.2.2.2.2.2.2.1.set r86.toNat ((x42.2.2.2.2.2.2.1.getD r86.toNat (0, false, 0, ())).1, false, (x42.2.2.2.2.2.2.1.getD r86.toNat (0, false, 0, ())).2.2.1, ())) fun l12 =>
            letv (l12.set r86.toNat ((l12.getD r86.toNat (0, false, 0, ())).1, (l12.getD r86.toNat (0, false, 0, ())).2.1, 0, ())) fun l13 =>
            k45 (0, x42.1, x42.2.1, x42.2.2.1, x42.2.2.2.1, x42.2.2.2.2.1, x42.2.2.2.2.2.1, (x42.1.getD x42.2.2.1.toNat (0, 0, 0, ())).1, (x42.1.getD x42.2.2.1.toNat (0, 0, 0, ())).2.1, (x42.1.getD x42.2.2.1.toNat (0, 0, 0, ())).2.2.1, l13, x42.2.2.2.2.2.2.2.1, IntKind.i64.wrap (x42.2.2.2.2.2.2.2.2 - 1))
def L02_ArenaPlays_R26 (k43 : (Int × Int × (List (Int × Int × Int × Unit)) × Int × Int × Int × List Int × (List (Int × Int × Unit)) × Int × Int × Int × (List (Int × Bool × Int × Unit)) × Int × Int) → Option Bool) (x45 : Int × (List (Int × Int × Int × Unit)) × Int × Int × Int × List Int × (List (Int × Int × Unit)) × Int × Int × Int × (List (Int × Bool × Int × Unit)) × Int × Int) : Option Bool :=
  Option.bind (R02_Drop (x45.2.2.2.2.1, x45.2.2.2.2.2.1, x45.2.2.2.2.2.2.1, ()) x45.2.2.2.2.2.2.2.2.1) fun r88 =>
  k43 (x45.1, r88.2.1, x45.2.1, x45.2.2.1, x45.2.2.2.1, r88.1.1, r88.1.2.1, r88.1.2.2.1, x45.2.2.2.2.2.2.2.1, x45.2.2.2.2.2.2.2.2.1, x45.2.2.2.2.2.2.2.2.2.1, x45.2.2.2.2.2.2.2.2.2.2.1, x45.2.2.2.2.2.2.2.2.2.2.2.1, x45.2.2.2.2.2.2.2.2.2.2.2.2)
def L02_ArenaPlays_C27 (x42 : (List (Int × Int × Int × Unit)) × Int × Int × Int × List Int × (List (Int × Int × Unit)) × (List (Int × Bool × Int × Unit)) × Int × Int) (k46 : (Int × (List (Int × Int × Int × Unit)) × Int × Int × Int × List Int × (List (Int × Int × Unit)) × Int × Int × Int × (List (Int × Bool × Int × Unit)) × Int × Int) → Option Bool) : Option Bool :=
  letv (decide ((x42.2.2.2.2.2.2.1.length : Int) > 0)) fun v51 =>
  bif !v51 then
    k46 (2, x42.1, x42.2.1, x42.2.2.1, x42.2.2.2.1, x42.2.2.2.2.1, x42.2.2.2.2.2.1, (x42.1.getD x42.2.2.1.toNat (0, 0, 0, ())).1, (x42.1.getD x42.2.2.1.toNat (0, 0, 0, ())).2.1, (x42.1.getD x42.2.2.1.toNat (0, 0, 0, ())).2.2.1, x42.2.2.2.2.2.2.1, x42.2.2.2.2.2.2.2.1, x42.2.2.2.2.2.2.2.2)
  else
    Option.bind (handle_Slot (x42.1.getD x42.2.2.1.toNat (0, 0, 0, ())).2.1) fun r89 =>
    bif decide (r89 < 0) then
      k46 (8, x42.1, x42.2.1, x42.2.2.1, x42.2.2.2.1, x42.2.2.2.2.1, x42.2.2.2.2.2.1, (x42.1.getD x42.2.2.1.toNat (0, 0, 0, ())).1, (x42.1.getD x42.2.2.1.toNat (0, 0, 0, ())).2.1, (x42.1.getD x42.2.2.1.toNat (0, 0, 0, ())).2.2.1, x42.2.2.2.2.2.2.1, x42.2.2.2.2.2.2.2.1, x42.2.2.2.2.2.2.2.2)
    else
      bif decide (r89 ≥ (x42.2.2.2.2.2.2.1.length : Int)) then
        k46 (8, x42.1, x42.2.1, x42.2.2.1, x42.2.2.2.1, x42.2.2.2.2.1, x42.2.2.2.2.2.1, (x42.1.getD x42.2.2.1.toNat (0, 0, 0, ())).1, (x42.1.getD x42.2.2.1.toNat (0, 0, 0, ())).2.1, (x42.1.getD x42.2.2.1.toNat (0, 0, 0, ())).2.2.1, x42.2.2.2.2.2.2.1, x42.2.2.2.2.2.2.2.1, x42.2.2.2.2.2.2.2.2)
      else
        chk (0 ≤ r89 ∧ r89 < (x42.2.2.2.2.2.2.1.length : Int)) <|
        bif !(x42.2.2.2.2.2.2.1.getD r89.toNat (0, false, 0, ())).2.1 then
          k46 (9, x42.1, x42.2.1, x42.2.2.1, x42.2.2.2.1, x42.2.2.2.2.1, x42.2.2.2.2.2.1, (x42.1.getD x42.2.2.1.toNat (0, 0, 0, ())).1, (x42.1.getD x42.2.2.1.toNat (0, 0, 0, ())).2.1, (x42.1.getD x42.2.2.1.toNat (0, 0, 0, ())).2.2.1, x42.2.2.2.2.2.2.1, x42.2.2.2.2.2.2.2.1, x42.2.2.2.2.2.2.2.2)
        else
          Option.bind (handle_Gen (x42.1.getD x42.2.2.1.toNat (0, 0, 0, ())).2.1) fun r90 =>
          bif !decide ((x42.2.2.2.2.2.2.1.getD r89.toNat (0, false, 0, ())).1 = r90) then
            k46 (9, x42.1, x42.2.1, x42.2.2.1, x42.2.2.2.1, x42.2.2.2.2.1, x42.2.2.2.2.2.1, (x42.1.getD x42.2.2.1.toNat (0, 0, 0, ())).1, (x42.1.getD x42.2.2.1.toNat (0, 0, 0, ())).2.1, (x42.1.getD x42.2.2.1.toNat (0, 0, 0, ())).2.2.1, x42.2.2.2.2.2.2.1, x42.2.2.2.2.2.2.2.1, x42.2.2.2.2.2.2.2.2)
          else
            letv (x42.2.2.2.2.2.2.1.set r89.toNat ((x42.2.2.2.2.2.2.1.getD r89.toNat (0, false, 0, ())).1, false, (x42.2.2.2.2.2.2.1.getD r89.toNat (0, false, 0, ())).2.2.1, ())) fun l14 =>
            letv (l14.set r89.toNat ((l14.getD r89.toNat (0, false, 0, ())).1, (l14.getD r89.toNat (0, false, 0, ())).2.1, 0, ())) fun l15 =>
            k46 (0, x42.1, x42.2.1, x42.2.2.1, x42.2.2.2.1, x42.2.2.2.2.1, x42.2.2.2.2.2.1, (x42.1.getD x42.2.2.1.toNat (0, 0, 0, ())).1, (x42.1.getD x42.2.2.1.toNat (0, 0, 0, ())).2.1, (x42.1.getD x42.2.2.1.toNat (0, 0, 0, ())).2.2.1, l15, x42.2.2.2.2.2.2.2.1, IntKind.i64.wrap (x42.2.2.2.2.2.2.2.2 - 1))
def L02_ArenaPlays_R27 (k43 : (Int × Int × (List (Int × Int × Int × Unit)) × Int × Int × Int × List Int × (List (Int × Int × Unit)) × Int × Int × Int × (List (Int × Bool × Int × Unit)) × Int × Int) → Option Bool) (x46 : Int × (List (Int × Int × Int × Unit)) × Int × Int × Int × List Int × (List (Int × Int × Unit)) × Int × Int × Int × (List (Int × Bool × Int × Unit)) × Int × Int) : Option Bool :=
  Option.bind (R02_Drop (x46.2.2.2.2.1, x46.2.2.2.2.2.1, x46.2.2.2.2.2.2.1, ()) x46.2.2.2.2.2.2.2.2.1) fun r91 =>
  k43 (x46.1, r91.2.1, x46.2.1, x46.2.2.1, x46.2.2.2.1, r91.1.1, r91.1.2.1, r91.1.2.2.1, x46.2.2.2.2.2.2.2.1, x46.2.2.2.2.2.2.2.2.1, x46.2.2.2.2.2.2.2.2.2.1, x46.2.2.2.2.2.2.2.2.2.2.1, x46.2.2.2.2.2.2.2.2.2.2.2.1, x46.2.2.2.2.2.2.2.2.2.2.2.2)
def L02_ArenaPlays_J19 (k47 : (Int × Int × (List (Int × Int × Int × Unit)) × Int × Int × Int × List Int × (List (Int × Int × Unit)) × Int × Int × Int × (List (Int × Bool × Int × Unit)) × Int × Int) → Option Bool) (x42 : (List (Int × Int × Int × Unit)) × Int × Int × Int × List Int × (List (Int × Int × Unit)) × (List (Int × Bool × Int × Unit)) × Int × Int) (p164 : Int) (p165 : Int) (p166 : Int) : Option Bool :=
  k47 (10, 0, x42.1, x42.2.1, x42.2.2.1, x42.2.2.2.1, x42.2.2.2.2.1, x42.2.2.2.2.2.1, p164, p165, p166, x42.2.2.2.2.2.2.1, x42.2.2.2.2.2.2.2.1, x42.2.2.2.2.2.2.2.2)
def L02_ArenaPlays_L18 (p168 : Int) (x42 : (List (Int × Int × Int × Unit)) × Int × Int × Int × List Int × (List (Int × Int × Unit)) × (List (Int × Bool × Int × Unit)) × Int × Int) (p167 : Int) (k47 : (Int × Int × (List (Int × Int × Int × Unit)) × Int × Int × Int × List Int × (List (Int × Int × Unit)) × Int × Int × Int × (List (Int × Bool × Int × Unit)) × Int × Int) → Option Bool) (p169 : Int) (p170 : Int) (k48 : Int → Option Bool) (x48 : Int) : Option Bool :=
  bif decide (x48 < p168) then
    chk (0 ≤ x48 ∧ x48 < (x42.2.2.2.2.2.2.1.length : Int)) <|
    bif !(x42.2.2.2.2.2.2.1.getD x48.toNat (0, false, 0, ())).2.1 then
      chk (0 ≤ x48 ∧ x48 < (x42.2.2.2.2.2.2.1.length : Int)) <|
      letv (decide ((x42.2.2.2.2.2.2.1.getD x48.toNat (0, false, 0, ())).1 < x42.2.2.2.2.2.2.2.1)) fun v53 =>
      bif v53 then
        chk (0 ≤ x48 ∧ x48 < (x42.2.2.2.2.2.2.1.length : Int)) <|
        letv (x42.2.2.2.2.2.2.1.set x48.toNat (IntKind.i64.wrap ((x42.2.2.2.2.2.2.1.getD x48.toNat (0, false, 0, ())).1 + 1), (x42.2.2.2.2.2.2.1.getD x48.toNat (0, false, 0, ())).2.1, (x42.2.2.2.2.2.2.1.getD x48.toNat (0, false, 0, ())).2.2.1, ())) fun l16 =>
        letv (l16.set x48.toNat ((l16.getD x48.toNat (0, false, 0, ())).1, true, (l16.getD x48.toNat (0, false, 0, ())).2.2.1, ())) fun l17 =>
        letv (l17.set x48.toNat ((l17.getD x48.toNat (0, false, 0, ())).1, (l17.getD x48.toNat (0, false, 0, ())).2.1, p167, ())) fun l18 =>
        Option.bind (handle_Make x48 (l18.getD x48.toNat (0, false, 0, ())).1) fun r92 =>
        k47 (r92.2.1, r92.1, x42.1, x42.2.1, x42.2.2.1, x42.2.2.2.1, x42.2.2.2.2.1, x42.2.2.2.2.2.1, p169, p170, p167, l18, x42.2.2.2.2.2.2.2.1, IntKind.i64.wrap (x42.2.2.2.2.2.2.2.2 + 1))
      else
        k48 (IntKind.i64.wrap (x48 + 1))
    else
      k48 (IntKind.i64.wrap (x48 + 1))
  else
    L02_ArenaPlays_J19 k47 x42 p169 p170 p167
def L02_ArenaPlays_C28 (x42 : (List (Int × Int × Int × Unit)) × Int × Int × Int × List Int × (List (Int × Int × Unit)) × (List (Int × Bool × Int × Unit)) × Int × Int) (k47 : (Int × Int × (List (Int × Int × Int × Unit)) × Int × Int × Int × List Int × (List (Int × Int × Unit)) × Int × Int × Int × (List (Int × Bool × Int × Unit)) × Int × Int) → Option Bool) : Option Bool :=
  letv (decide ((x42.2.2.2.2.2.2.1.length : Int) > 0)) fun v52 =>
  bif !v52 then
    k47 (2, 0, x42.1, x42.2.1, x42.2.2.1, x42.2.2.2.1, x42.2.2.2.2.1, x42.2.2.2.2.2.1, (x42.1.getD x42.2.2.1.toNat (0, 0, 0, ())).1, (x42.1.getD x42.2.2.1.toNat (0, 0, 0, ())).2.1, (x42.1.getD x42.2.2.1.toNat (0, 0, 0, ())).2.2.1, x42.2.2.2.2.2.2.1, x42.2.2.2.2.2.2.2.1, x42.2.2.2.2.2.2.2.2)
  else
    loop (L02_ArenaPlays_L18 (x42.2.2.2.2.2.2.1.length : Int) x42 (x42.1.getD x42.2.2.1.toNat (0, 0, 0, ())).2.2.1 k47 (x42.1.getD x42.2.2.1.toNat (0, 0, 0, ())).1 (x42.1.getD x42.2.2.1.toNat (0, 0, 0, ())).2.1) 0
def L02_ArenaPlays_R28 (k43 : (Int × Int × (List (Int × Int × Int × Unit)) × Int × Int × Int × List Int × (List (Int × Int × Unit)) × Int × Int × Int × (List (Int × Bool × Int × Unit)) × Int × Int) → Option Bool) (x47 : Int × Int × (List (Int × Int × Int × Unit)) × Int × Int × Int × List Int × (List (Int × Int × Unit)) × Int × Int × Int × (List (Int × Bool × Int × Unit)) × Int × Int) : Option Bool :=
  Option.bind (R02_Add (x47.2.2.2.2.2.1, x47.2.2.2.2.2.2.1, x47.2.2.2.2.2.2.2.1, ()) x47.2.2.2.2.2.2.2.2.2.2.1) fun r93 =>
  bif !decide (x47.2.1 = r93.2.1) then
    some false
  else
    k43 (x47.1, r93.2.2.1, x47.2.2.1, x47.2.2.2.1, x47.2.2.2.2.1, r93.1.1, r93.1.2.1, r93.1.2.2.1, x47.2.2.2.2.2.2.2.2.1, x47.2.2.2.2.2.2.2.2.2.1, x47.2.2.2.2.2.2.2.2.2.2.1, x47.2.2.2.2.2.2.2.2.2.2.2.1, x47.2.2.2.2.2.2.2.2.2.2.2.2.1, x47.2.2.2.2.2.2.2.2.2.2.2.2.2)
def L02_ArenaPlays_C29 (x42 : (List (Int × Int × Int × Unit)) × Int × Int × Int × List Int × (List (Int × Int × Unit)) × (List (Int × Bool × Int × Unit)) × Int × Int) (k43 : (Int × Int × (List (Int × Int × Int × Unit)) × Int × Int × Int × List Int × (List (Int × Int × Unit)) × Int × Int × Int × (List (Int × Bool × Int × Unit)) × Int × Int) → Option Bool) : Option Bool :=
  letv (decide ((Int.tmod (x42.1.getD x42.2.2.1.toNat (0, 0, 0, ())).1 5) = 0)) fun v46 =>
  bif v46 then
    cutv 25 (L02_ArenaPlays_C25 x42) (L02_ArenaPlays_R25 k43)
  else
    letv (decide ((Int.tmod (x42.1.getD x42.2.2.1.toNat (0, 0, 0, ())).1 5) = 1)) fun v48 =>
    bif v48 then
      cutv 26 (L02_ArenaPlays_C26 x42) (L02_ArenaPlays_R26 k43)
    else
      letv (decide ((Int.tmod (x42.1.getD x42.2.2.1.toNat (0, 0, 0, ())).1 5) = 2)) fun v50 =>
      bif v50 then
        cutv 27 (L02_ArenaPlays_C27 x42) (L02_ArenaPlays_R27 k43)
      else
        cutv 28 (L02_ArenaPlays_C28 x42) (L02_ArenaPlays_R28 k43)
def L02_ArenaPlays_C30 (x43 : Int × Int × (List (Int × Int × Int × Unit)) × Int × Int × Int × List Int × (List (Int × Int × Unit)) × Int × Int × Int × (List (Int × Bool × Int × Unit)) × Int × Int) (k50 : (Int × Int × Int × Int × List Int × (List (Int × Int × Unit)) × Int × Int × Int × (List (Int × Bool × Int × Unit)) × Int × Int × Int × List Int × (List (Int × Int × Unit))) → Option Bool) : Option Bool :=
  letv (decide ((x43.2.2.2.2.2.2.2.2.2.2.2.1.length : Int) > 0)) fun v54 =>
  bif !v54 then
    k50 (x43.2.2.2.2.2.2.2.2.2.1, 0, 2, x43.2.2.2.2.2.1, x43.2.2.2.2.2.2.1, x43.2.2.2.2.2.2.2.1, x43.2.2.2.2.2.2.2.2.1, x43.2.2.2.2.2.2.2.2.2.1, x43.2.2.2.2.2.2.2.2.2.2.1, x43.2.2.2.2.2.2.2.2.2.2.2.1, x43.2.2.2.2.2.2.2.2.2.2.2.2.1, x43.2.2.2.2.2.2.2.2.2.2.2.2.2, x43.2.2.2.2.2.1, x43.2.2.2.2.2.2.1, x43.2.2.2.2.2.2.2.1)
  else
    Option.bind (handle_Slot x43.2.2.2.2.2.2.2.2.2.1) fun r94 =>
    bif decide (r94 < 0) then
      k50 (x43.2.2.2.2.2.2.2.2.2.1, 0, 8, x43.2.2.2.2.2.1, x43.2.2.2.2.2.2.1, x43.2.2.2.2.2.2.2.1, x43.2.2.2.2.2.2.2.2.1, x43.2.2.2.2.2.2.2.2.2.1, x43.2.2.2.2.2.2.2.2.2.2.1, x43.2.2.2.2.2.2.2.2.2.2.2.1, x43.2.2.2.2.2.2.2.2.2.2.2.2.1, x43.2.2.2.2.2.2.2.2.2.2.2.2.2, x43.2.2.2.2.2.1, x43.2.2.2.2.2.2.1, x43.2.2.2.2.2.2.2.1)
    else
      bif decide (r94 ≥ (x43.2.2.2.2.2.2.2.2.2.2.2.1.length : Int)) then
        k50 (x43.2.2.2.2.2.2.2.2.2.1, 0, 8, x43.2.2.2.2.2.1, x43.2.2.2.2.2.2.1, x43.2.2.2.2.2.2.2.1, x43.2.2.2.2.2.2.2.2.1, x43.2.2.2.2.2.2.2.2.2.1, x43.2.2.2.2.2.2.2.2.2.2.1, x43.2.2.2.2.2.2.2.2.2.2.2.1, x43.2.2.2.2.2.2.2.2.2.2.2.2.1, x43.2.2.2.2.2.2.2.2.2.2.2.2.2, x43.2.2.2.2.2.1, x43.2.2.2.2.2.2.1, x43.2.2.2.2.2.2.2.1)
      else
        chk (0 ≤ r94 ∧ r94 < (x43.2.2.2.2.2.2.2.2.2.2.2.1.length : Int)) <|
        bif !(x43.2.2.2.2.2.2.2.2.2.2.2.1.getD r94.toNat (0, false, 0, ())).2.1 then
          k50 (x43.2.2.2.2.2.2.2.2.2.1, 0, 9, x43.2.2.2.2.2.1, x43.2.2.2.2.2.2.1, x43.2.2.2.2.2.2.2.1, x43.2.2.2.2.2.2.2.2.1, x43.2.2.2.2.2.2.2.2.2.1, x43.2.2.2.2.2.2.2.2.2.2.1, x43.2.2.2.2.2.2.2.2.2.2.2.1, x43.2.2.2.2.2.2.2.2.2.2.2.2.1, x43.2.2.2.2.2.2.2.2.2.2.2.2.2, x43.2.2.2.2.2.1, x43.2.2.2.2.2.2.1, x43.2.2.2.2.2.2.2.1)
        else
          Option.bind (handle_Gen x43.2.2.2.2.2.2.2.2.2.1) fun r95 =>
          bif !decide ((x43.2.2.2.2.2.2.2.2.2.2.2.1.getD r94.toNat (0, false, 0, ())).1 = r95) then
            k50 (x43.2.2.2.2.2.2.2.2.2.1, 0, 9, x43.2.2.2.2.2.1, x43.2.2.2.2.2.2.1, x43.2.2.2.2.2.2.2.1, x43.2.2.2.2.2.2.2.2.1, x43.2.2.2.2.2.2.2.2.2.1, x43.2.2.2.2.2.2.2.2.2.2.1, x43.2.2.2.2.2.2.2.2.2.2.2.1, x43.2.2.2.2.2.2.2.2.2.2.2.2.1, x43.2.2.2.2.2.2.2.2.2.2.2.2.2, x43.2.2.2.2.2.1, x43.2.2.2.2.2.2.1, x43.2.2.2.2.2.2.2.1)
          else
            letv ((x43.2.2.2.2.2.2.2.2.2.2.2.1.getD r94.toNat (0, false, 0, ())).2.2.1) fun v55 =>
            k50 (x43.2.2.2.2.2.2.2.2.2.1, v55, 0, x43.2.2.2.2.2.1, x43.2.2.2.2.2.2.1, x43.2.2.2.2.2.2.2.1, x43.2.2.2.2.2.2.2.2.1, x43.2.2.2.2.2.2.2.2.2.1, x43.2.2.2.2.2.2.2.2.2.2.1, x43.2.2.2.2.2.2.2.2.2.2.2.1, x43.2.2.2.2.2.2.2.2.2.2.2.2.1, x43.2.2.2.2.2.2.2.2.2.2.2.2.2, x43.2.2.2.2.2.1, x43.2.2.2.2.2.2.1, x43.2.2.2.2.2.2.2.1)
def L02_ArenaPlays_J20 (k51 : (Bool × Int × List Int × (List (Int × Int × Unit)) × Int × Int × Int × (List (Int × Bool × Int × Unit)) × Int × Int) → Option Bool) (p171 : Int) (p172 : Int) (p173 : List Int) (p174 : List (Int × Int × Unit)) (p175 : Int) (p176 : Int) (p177 : Int) (p178 : List (Int × Bool × Int × Unit)) (p179 : Int) (p180 : Int) (p181 : Int) (p182 : List Int) (p183 : List (Int × Int × Unit)) : Option Bool :=
  Option.bind (R02_Free (p181, p182, p183, ())) fun r100 =>
  k51 (decide (p171 = r100), p172, p173, p174, p175, p176, p177, p178, p179, p180)
def L02_ArenaPlays_C31 (x52 : Int × Int × Int × Int × List Int × (List (Int × Int × Unit)) × Int × Int × Int × (List (Int × Bool × Int × Unit)) × Int × Int × Int × List Int × (List (Int × Int × Unit))) (k53 : (Int × Int × Int × Int × List Int × (List (Int × Int × Unit)) × Int × Int × Int × (List (Int × Bool × Int × Unit)) × Int × Int × Int × List Int × (List (Int × Int × Unit))) → Option Bool) : Option Bool :=
  chk (0 ≤ x52.2.2.1 ∧ x52.2.2.1 < (x52.2.2.2.2.2.2.2.2.2.1.length : Int)) <|
  bif !(x52.2.2.2.2.2.2.2.2.2.1.getD x52.2.2.1.toNat (0, false, 0, ())).2.1 then
    chk (0 ≤ x52.2.2.1 ∧ x52.2.2.1 < (x52.2.2.2.2.2.2.2.2.2.1.length : Int)) <|
    letv (decide ((x52.2.2.2.2.2.2.2.2.2.1.getD x52.2.2.1.toNat (0, false, 0, ())).1 < x52.2.2.2.2.2.2.2.2.2.2.1)) fun v59 =>
    bif v59 then
      k53 (IntKind.i64.wrap (x52.1 + 1), x52.2.1, x52.2.2.1, x52.2.2.2.1, x52.2.2.2.2.1, x52.2.2.2.2.2.1, x52.2.2.2.2.2.2.1, x52.2.2.2.2.2.2.2.1, x52.2.2.2.2.2.2.2.2.1, x52.2.2.2.2.2.2.2.2.2.1, x52.2.2.2.2.2.2.2.2.2.2.1, x52.2.2.2.2.2.2.2.2.2.2.2.1, x52.2.2.2.2.2.2.2.2.2.2.2.2.1, x52.2.2.2.2.2.2.2.2.2.2.2.2.2.1, x52.2.2.2.2.2.2.2.2.2.2.2.2.2.2)
    else
      k53 (x52.1, x52.2.1, x52.2.2.1, x52.2.2.2.1, x52.2.2.2.2.1, x52.2.2.2.2.2.1, x52.2.2.2.2.2.2.1, x52.2.2.2.2.2.2.2.1, x52.2.2.2.2.2.2.2.2.1, x52.2.2.2.2.2.2.2.2.2.1, x52.2.2.2.2.2.2.2.2.2.2.1, x52.2.2.2.2.2.2.2.2.2.2.2.1, x52.2.2.2.2.2.2.2.2.2.2.2.2.1, x52.2.2.2.2.2.2.2.2.2.2.2.2.2.1, x52.2.2.2.2.2.2.2.2.2.2.2.2.2.2)
  else
    k53 (x52.1, x52.2.1, x52.2.2.1, x52.2.2.2.1, x52.2.2.2.2.1, x52.2.2.2.2.2.1, x52.2.2.2.2.2.2.1, x52.2.2.2.2.2.2.2.1, x52.2.2.2.2.2.2.2.2.1, x52.2.2.2.2.2.2.2.2.2.1, x52.2.2.2.2.2.2.2.2.2.2.1, x52.2.2.2.2.2.2.2.2.2.2.2.1, x52.2.2.2.2.2.2.2.2.2.2.2.2.1, x52.2.2.2.2.2.2.2.2.2.2.2.2.2.1, x52.2.2.2.2.2.2.2.2.2.2.2.2.2.2)
def L02_ArenaPlays_R31 (k52 : (Int × Int × Int × Int × List Int × (List (Int × Int × Unit)) × Int × Int × Int × (List (Int × Bool × Int × Unit)) × Int × Int × Int × List Int × (List (Int × Int × Unit))) → Option Bool) (x53 : Int × Int × Int × Int × List Int × (List (Int × Int × Unit)) × Int × Int × Int × (List (Int × Bool × Int × Unit)) × Int × Int × Int × List Int × (List (Int × Int × Unit))) : Option Bool :=
  k52 (x53.1, x53.2.1, IntKind.i64.wrap (x53.2.2.1 + 1), x53.2.2.2.1, x53.2.2.2.2.1, x53.2.2.2.2.2.1, x53.2.2.2.2.2.2.1, x53.2.2.2.2.2.2.2.1, x53.2.2.2.2.2.2.2.2.1, x53.2.2.2.2.2.2.2.2.2.1, x53.2.2.2.2.2.2.2.2.2.2.1, x53.2.2.2.2.2.2.2.2.2.2.2.1, x53.2.2.2.2.2.2.2.2.2.2.2.2.1, x53.2.2.2.2.2.2.2.2.2.2.2.2.2.1, x53.2.2.2.2.2.2.2.2.2.2.2.2.2.2)
def L02_ArenaPlays_L19 (k51 : (Bool × Int × List Int × (List (Int × Int × Unit)) × Int × Int × Int × (List (Int × Bool × Int × Unit)) × Int × Int) → Option Bool) (k52 : (Int × Int × Int × Int × List Int × (List (Int × Int × Unit)) × Int × Int × Int × (List (Int × Bool × Int × Unit)) × Int × Int × Int × List Int × (List (Int × Int × Unit))) → Option Bool) (x52 : Int × Int × Int × Int × List Int × (List (Int × Int × Unit)) × Int × Int × Int × (List (Int × Bool × Int × Unit)) × Int × Int × Int × List Int × (List (Int × Int × Unit))) : Option Bool :=
  bif decide (x52.2.2.1 < x52.2.1) then
    cutv 31 (L02_ArenaPlays_C31 x52) (L02_ArenaPlays_R31 k52)
  else
    L02_ArenaPlays_J20 k51 x52.1 x52.2.2.2.1 x52.2.2.2.2.1 x52.2.2.2.2.2.1 x52.2.2.2.2.2.2.1 x52.2.2.2.2.2.2.2.1 x52.2.2.2.2.2.2.2.2.1 x52.2.2.2.2.2.2.2.2.2.1 x52.2.2.2.2.2.2.2.2.2.2.1 x52.2.2.2.2.2.2.2.2.2.2.2.1 x52.2.2.2.2.2.2.2.2.2.2.2.2.1 x52.2.2.2.2.2.2.2.2.2.2.2.2.2.1 x52.2.2.2.2.2.2.2.2.2.2.2.2.2.2
def L02_ArenaPlays_J21 (k51 : (Bool × Int × List Int × (List (Int × Int × Unit)) × Int × Int × Int × (List (Int × Bool × Int × Unit)) × Int × Int) → Option Bool) (p184 : Int) (p185 : Int) (p186 : List Int) (p187 : List (Int × Int × Unit)) (p188 : Int) (p189 : Int) (p190 : Int) (p191 : List (Int × Bool × Int × Unit)) (p192 : Int) (p193 : Int) (p194 : Int) (p195 : List Int) (p196 : List (Int × Int × Unit)) : Option Bool :=
  Option.bind (R02_Free (p194, p195, p196, ())) fun r102 =>
  k51 (decide (p184 = r102), p185, p186, p187, p188, p189, p190, p191, p192, p193)
def L02_ArenaPlays_C32 (x54 : Int × Int × Int × Int × List Int × (List (Int × Int × Unit)) × Int × Int × Int × (List (Int × Bool × Int × Unit)) × Int × Int × Int × List Int × (List (Int × Int × Unit))) (k55 : (Int × Int × Int × Int × List Int × (List (Int × Int × Unit)) × Int × Int × Int × (List (Int × Bool × Int × Unit)) × Int × Int × Int × List Int × (List (Int × Int × Unit))) → Option Bool) : Option Bool :=
  chk (0 ≤ x54.2.2.1 ∧ x54.2.2.1 < (x54.2.2.2.2.2.2.2.2.2.1.length : Int)) <|
  bif !(x54.2.2.2.2.2.2.2.2.2.1.getD x54.2.2.1.toNat (0, false, 0, ())).2.1 then
    chk (0 ≤ x54.2.2.1 ∧ x54.2.2.1 < (x54.2.2.2.2.2.2.2.2.2.1.length : Int)) <|
    letv (decide ((x54.2.2.2.2.2.2.2.2.2.1.getD x54.2.2.1.toNat (0, false, 0, ())).1 < x54.2.2.2.2.2.2.2.2.2.2.1)) fun v61 =>
    bif v61 then
      k55 (IntKind.i64.wrap (x54.1 + 1), x54.2.1, x54.2.2.1, x54.2.2.2.1, x54.2.2.2.2.1, x54.2.2.2.2.2.1, x54.2.2.2.2.2.2.1, x54.2.2.2.2.2.2.2.1, x54.2.2.2.2.2.2.2.2.1, x54.2.2.2.2.2.2.2.2.2.1, x54.2.2.2.2.2.2.2.2.2.2.1, x54.2.2.2.2.2.2.2.2.2.2.2.1, x54.2.2.2.2.2.2.2.2.2.2.2.2.1, x54.2.2.2.2.2.2.2.2.2.2.2.2.2.1, x54.2.2.2.2.2.2.2.2.2.2.2.2.2.2)
    else
      k55 (x54.1, x54.2.1, x54.2.2.1, x54.2.2.2.1, x54.2.2.2.2.1, x54.2.2.2.2.2.1, x54.2.2.2.2.2.2.1, x54.2.2.2.2.2.2.2.1, x54.2.2.2.2.2.2.2.2.1, x54.2.2.2.2.2.2.2.2.2.1, x54.2.2.2.2.2.2.2.2.2.2.1, x54.2.2.2.2.2.2.2.2.2.2.2.1, x54.2.2.2.2.2.2.2.2.2.2.2.2.1, x54.2.2.2.2.2.2.2.2.2.2.2.2.2.1, x54.2.2.2.2.2.2.2.2.2.2.2.2.2.2)
  else
    k55 (x54.1, x54.2.1, x54.2.2.1, x54.2.2.2.1, x54.2.2.2.2.1, x54.2.2.2.2.2.1, x54.2.2.2.2.2.2.1, x54.2.2.2.2.2.2.2.1, x54.2.2.2.2.2.2.2.2.1, x54.2.2.2.2.2.2.2.2.2.1, x54.2.2.2.2.2.2.2.2.2.2.1, x54.2.2.2.2.2.2.2.2.2.2.2.1, x54.2.2.2.2.2.2.2.2.2.2.2.2.1, x54.2.2.2.2.2.2.2.2.2.2.2.2.2.1, x54.2.2.2.2.2.2.2.2.2.2.2.2.2.2)
def L02_ArenaPlays_R32 (k54 : (Int × Int × Int × Int × List Int × (List (Int × Int × Unit)) × Int × Int × Int × (List (Int × Bool × Int × Unit)) × Int × Int × Int × List Int × (List (Int × Int × Unit))) → Option Bool) (x55 : Int × Int × Int × Int × List Int × (List (Int × Int × Unit)) × Int × Int × Int × (List (Int × Bool × Int × Unit)) × Int × Int × Int × List Int × (List (Int × Int × Unit))) : Option Bool :=
  k54 (x55.1, x55.2.1, IntKind.i64.wrap (x55.2.2.1 + 1), x55.2.2.2.1, x55.2.2.2.2.1, x55.2.2.2.2.2.1, x55.2.2.2.2.2.2.1, x55.2.2.2.2.2.2.2.1, x55.2.2.2.2.2.2.2.2.1, x55.2.2.2.2.2.2.2.2.2.1, x55.2.2.2.2.2.2.2.2.2.2.1, x55.2.2.2.2.2.2.2.2.2.2.2.1, x55.2.2.2.2.2.2.2.2.2.2.2.2.1, x55.2.2.2.2.2.2.2.2.2.2.2.2.2.1, x55.2.2.2.2.2.2.2.2.2.2.2.2.2.2)
def L02_ArenaPlays_L20 (k51 : (Bool × Int × List Int × (List (Int × Int × Unit)) × Int × Int × Int × (List (Int × Bool × Int × Unit)) × Int × Int) → Option Bool) (k54 : (Int × Int × Int × Int × List Int × (List (Int × Int × Unit)) × Int × Int × Int × (List (Int × Bool × Int × Unit)) × Int × Int × Int × List Int × (List (Int × Int × Unit))) → Option Bool) (x54 : Int × Int × Int × Int × List Int × (List (Int × Int × Unit)) × Int × Int × Int × (List (Int × Bool × Int × Unit)) × Int × Int × Int × List Int × (List (Int × Int × Unit))) : Option Bool :=
  bif decide (x54.2.2.1 < x54.2.1) then
    cutv 32 (L02_ArenaPlays_C32 x54) (L02_ArenaPlays_R32 k54)
  else
    L02_ArenaPlays_J21 k51 x54.1 x54.2.2.2.1 x54.2.2.2.2.1 x54.2.2.2.2.2.1 x54.2.2.2.2.2.2.1 x54.2.2.2.2.2.2.2.1 x54.2.2.2.2.2.2.2.2.1 x54.2.2.2.2.2.2.2.2.2.1 x54.2.2.2.2.2.2.2.2.2.2.1 x54.2.2.2.2.2.2.2.2.2.2.2.1 x54.2.2.2.2.2.2.2.2.2.2.2.2.1 x54.2.2.2.2.2.2.2.2.2.2.2.2.2.1 x54.2.2.2.2.2.2.2.2.2.2.2.2.2.2
def L02_ArenaPlays_J22 (k51 : (Bool × Int × List Int × (List (Int × Int × Unit)) × Int × Int × Int × (List (Int × Bool × Int × Unit)) × Int × Int) → Option Bool) (p198 : Int) (p199 : Int) (p200 : List Int) (p201 : List (Int × Int × Unit)) (p202 : Int) (p203 : Int) (p204 : Int) (p205 : List (Int × Bool × Int × Unit)) (p206 : Int) (p207 : Int) (p208 : Int) (p209 : List Int) (p210 : List (Int × Int × Unit)) (p211 : List Int) : Option Bool :=
  Option.bind (R02_Free (p208, p209, p210, ())) fun r106 =>
  k51 (decide (p198 = r106), p199, p200, p201, p202, p203, p204, p205, p206, p207)
def L02_ArenaPlays_C33 (x56 : Int × Int × Int × Int × List Int × (List (Int × Int × Unit)) × Int × Int × Int × (List (Int × Bool × Int × Unit)) × Int × Int × Int × List Int × (List (Int × Int × Unit)) × List Int) (k57 : (Int × Int × Int × Int × List Int × (List (Int × Int × Unit)) × Int × Int × Int × (List (Int × Bool × Int × Unit)) × Int × Int × Int × List Int × (List (Int × Int × Unit)) × List Int) → Option Bool) : Option Bool :=
  chk (0 ≤ x56.2.2.1 ∧ x56.2.2.1 < (x56.2.2.2.2.2.2.2.2.2.1.length : Int)) <|
  bif !(x56.2.2.2.2.2.2.2.2.2.1.getD x56.2.2.1.toNat (0, false, 0, ())).2.1 then
    chk (0 ≤ x56.2.2.1 ∧ x56.2.2.1 < (x56.2.2.2.2.2.2.2.2.2.1.length : Int)) <|
    letv (decide ((x56.2.2.2.2.2.2.2.2.2.1.getD x56.2.2.1.toNat (0, false, 0, ())).1 < x56.2.2.2.2.2.2.2.2.2.2.1)) fun v64 =>
    bif v64 then
      k57 (IntKind.i64.wrap (x56.1 + 1), x56.2.1, x56.2.2.1, x56.2.2.2.1, x56.2.2.2.2.1, x56.2.2.2.2.2.1, x56.2.2.2.2.2.2.1, x56.2.2.2.2.2.2.2.1, x56.2.2.2.2.2.2.2.2.1, x56.2.2.2.2.2.2.2.2.2.1, x56.2.2.2.2.2.2.2.2.2.2.1, x56.2.2.2.2.2.2.2.2.2.2.2.1, x56.2.2.2.2.2.2.2.2.2.2.2.2.1, x56.2.2.2.2.2.2.2.2.2.2.2.2.2.1, x56.2.2.2.2.2.2.2.2.2.2.2.2.2.2.1, x56.2.2.2.2.2.2.2.2.2.2.2.2.2.2.2)
    else
      k57 (x56.1, x56.2.1, x56.2.2.1, x56.2.2.2.1, x56.2.2.2.2.1, x56.2.2.2.2.2.1, x56.2.2.2.2.2.2.1, x56.2.2.2.2.2.2.2.1, x56.2.2.2.2.2.2.2.2.1, x56.2.2.2.2.2.2.2.2.2.1, x56.2.2.2.2.2.2.2.2.2.2.1, x56.2.2.2.2.2.2.2.2.2.2.2.1, x56.2.2.2.2.2.2.2.2.2.2.2.2.1, x56.2.2.2.2.2.2.2.2.2.2.2.2.2.1, x56.2.2.2.2.2.2.2.2.2.2.2.2.2.2.1, x56.2.2.2.2.2.2.2.2.2.2.2.2.2.2.2)
  else
    k57 (x56.1, x56.2.1, x56.2.2.1, x56.2.2.2.1, x56.2.2.2.2.1, x56.2.2.2.2.2.1, x56.2.2.2.2.2.2.1, x56.2.2.2.2.2.2.2.1, x56.2.2.2.2.2.2.2.2.1, x56.2.2.2.2.2.2.2.2.2.1, x56.2.2.2.2.2.2.2.2.2.2.1, x56.2.2.2.2.2.2.2.2.2.2.2.1, x56.2.2.2.2.2.2.2.2.2.2.2.2.1, x56.2.2.2.2.2.2.2.2.2.2.2.2.2.1, x56.2.2.2.2.2.2.2.2.2.2.2.2.2.2.1, x56.2.2.2.2.2.2.2.2.2.2.2.2.2.2.2)
def L02_ArenaPlays_R33 (k56 : (Int × Int × Int × Int × List Int × (List (Int × Int × Unit)) × Int × Int × Int × (List (Int × Bool × Int × Unit)) × Int × Int × Int × List Int × (List (Int × Int × Unit)) × List Int) → Option Bool) (x57 : Int × Int × Int × Int × List Int × (List (Int × Int × Unit)) × Int × Int × Int × (List (Int × Bool × Int × Unit)) × Int × Int × Int × List Int × (List (Int × Int × Unit)) × List Int) : Option Bool :=
  k56 (x57.1, x57.2.1, IntKind.i64.wrap (x57.2.2.1 + 1), x57.2.2.2.1, x57.2.2.2.2.1, x57.2.2.2.2.2.1, x57.2.2.2.2.2.2.1, x57.2.2.2.2.2.2.2.1, x57.2.2.2.2.2.2.2.2.1, x57.2.2.2.2.2.2.2.2.2.1, x57.2.2.2.2.2.2.2.2.2.2.1, x57.2.2.2.2.2.2.2.2.2.2.2.1, x57.2.2.2.2.2.2.2.2.2.2.2.2.1, x57.2.2.2.2.2.2.2.2.2.2.2.2.2.1, x57.2.2.2.2.2.2.2.2.2.2.2.2.2.2.1, x57.2.2.2.2.2.2.2.2.2.2.2.2.2.2.2)
def L02_ArenaPlays_L21 (k51 : (Bool × Int × List Int × (List (Int × Int × Unit)) × Int × Int × Int × (List (Int × Bool × Int × Unit)) × Int × Int) → Option Bool) (k56 : (Int × Int × Int × Int × List Int × (List (Int × Int × Unit)) × Int × Int × Int × (List (Int × Bool × Int × Unit)) × Int × Int × Int × List Int × (List (Int × Int × Unit)) × List Int) → Option Bool) (x56 : Int × Int × Int × Int × List Int × (List (Int × Int × Unit)) × Int × Int × Int × (List (Int × Bool × Int × Unit)) × Int × Int × Int × List Int × (List (Int × Int × Unit)) × List Int) : Option Bool :=
  bif decide (x56.2.2.1 < x56.2.1) then
    cutv 33 (L02_ArenaPlays_C33 x56) (L02_ArenaPlays_R33 k56)
  else
    L02_ArenaPlays_J22 k51 x56.1 x56.2.2.2.1 x56.2.2.2.2.1 x56.2.2.2.2.2.1 x56.2.2.2.2.2.2.1 x56.2.2.2.2.2.2.2.1 x56.2.2.2.2.2.2.2.2.1 x56.2.2.2.2.2.2.2.2.2.1 x56.2.2.2.2.2.2.2.2.2.2.1 x56.2.2.2.2.2.2.2.2.2.2.2.1 x56.2.2.2.2.2.2.2.2.2.2.2.2.1 x56.2.2.2.2.2.2.2.2.2.2.2.2.2.1 x56.2.2.2.2.2.2.2.2.2.2.2.2.2.2.1 x56.2.2.2.2.2.2.2.2.2.2.2.2.2.2.2
def L02_ArenaPlays_J23 (k51 : (Bool × Int × List Int × (List (Int × Int × Unit)) × Int × Int × Int × (List (Int × Bool × Int × Unit)) × Int × Int) → Option Bool) (p212 : Int) (p213 : Int) (p214 : List Int) (p215 : List (Int × Int × Unit)) (p216 : Int) (p217 : Int) (p218 : Int) (p219 : List (Int × Bool × Int × Unit)) (p220 : Int) (p221 : Int) (p222 : Int) (p223 : List Int) (p224 : List (Int × Int × Unit)) (p225 : List Int) : Option Bool :=
  Option.bind (R02_Free (p222, p223, p224, ())) fun r108 =>
  k51 (decide (p212 = r108), p213, p214, p215, p216, p217, p218, p219, p220, p221)
def L02_ArenaPlays_C34 (x58 : Int × Int × Int × Int × List Int × (List (Int × Int × Unit)) × Int × Int × Int × (List (Int × Bool × Int × Unit)) × Int × Int × Int × List Int × (List (Int × Int × Unit)) × List Int) (k59 : (Int × Int × Int × Int × List Int × (List (Int × Int × Unit)) × Int × Int × Int × (List (Int × Bool × Int × Unit)) × Int × Int × Int × List Int × (List (Int × Int × Unit)) × List Int) → Option Bool) : Option Bool :=
  chk (0 ≤ x58.2.2.1 ∧ x58.2.2.1 < (x58.2.2.2.2.2.2.2.2.2.1.length : Int)) <|
  bif !(x58.2.2.2.2.2.2.2.2.2.1.getD x58.2.2.1.toNat (0, false, 0, ())).2.1 then
    chk (0 ≤ x58.2.2.1 ∧ x58.2.2.1 < (x58.2.2.2.2.2.2.2.2.2.1.length : Int)) <|
    letv (decide ((x58.2.2.2.2.2.2.2.2.2.1.getD x58.2.2.1.toNat (0, false, 0, ())).1 < x58.2.2.2.2.2.2.2.2.2.2.1)) fun v66 =>
    bif v66 then
      k59 (IntKind.i64.wrap (x58.1 + 1), x58.2.1, x58.2.2.1, x58.2.2.2.1, x58.2.2.2.2.1, x58.2.2.2.2.2.1, x58.2.2.2.2.2.2.1, x58.2.2.2.2.2.2.2.1, x58.2.2.2.2.2.2.2.2.1, x58.2.2.2.2.2.2.2.2.2.1, x58.2.2.2.2.2.2.2.2.2.2.1, x58.2.2.2.2.2.2.2.2.2.2.2.1, x58.2.2.2.2.2.2.2.2.2.2.2.2.1, x58.2.2.2.2.2.2.2.2.2.2.2.2.2.1, x58.2.2.2.2.2.2.2.2.2.2.2.2.2.2.1, x58.2.2.2.2.2.2.2.2.2.2.2.2.2.2.2)
    else
      k59 (x58.1, x58.2.1, x58.2.2.1, x58.2.2.2.1, x58.2.2.2.2.1, x58.2.2.2.2.2.1, x58.2.2.2.2.2.2.1, x58.2.2.2.2.2.2.2.1, x58.2.2.2.2.2.2.2.2.1, x58.2.2.2.2.2.2.2.2.2.1, x58.2.2.2.2.2.2.2.2.2.2.1, x58.2.2.2.2.2.2.2.2.2.2.2.1, x58.2.2.2.2.2.2.2.2.2.2.2.2.1, x58.2.2.2.2.2.2.2.2.2.2.2.2.2.1, x58.2.2.2.2.2.2.2.2.2.2.2.2.2.2.1, x58.2.2.2.2.2.2.2.2.2.2.2.2.2.2.2)
  else
    k59 (x58.1, x58.2.1, x58.2.2.1, x58.2.2.2.1, x58.2.2.2.2.1, x58.2.2.2.2.2.1, x58.2.2.2.2.2.2.1, x58.2.2.2.2.2.2.2.1, x58.2.2.2.2.2.2.2.2.1, x58.2.2.2.2.2.2.2.2.2.1, x58.2.2.2.2.2.2.2.2.2.2.1, x58.2.2.2.2.2.2.2.2.2.2.2.1, x58.2.2.2.2.2.2.2.2.2.2.2.2.1, x58.2.2.2.2.2.2.2.2.2.2.2.2.2.1, x58.2.2.2.2.2.2.2.2.2.2.2.2.2.2.1, x58.2.2.2.2.2.2.2.2.2.2.2.2.2.2.2)
def L02_ArenaPlays_R34 (k58 : (Int × Int × Int × Int × List Int × (List (Int × Int × Unit)) × Int × Int × Int × (List (Int × Bool × Int × Unit)) × Int × Int × Int × List Int × (List (Int × Int × Unit)) × List Int) → Option Bool) (x59 : Int × Int × Int × Int × List Int × (List (Int × Int × Unit)) × Int × Int × Int × (List (Int × Bool × Int × Unit)) × Int × Int × Int × List Int × (List (Int × Int × Unit)) × List Int) : Option Bool :=
  k58 (x59.1, x59.2.1, IntKind.i64.wrap (x59.2.2.1 + 1), x59.2.2.2.1, x59.2.2.2.2.1, x59.2.2.2.2.2.1, x59.2.2.2.2.2.2.1, x59.2.2.2.2.2.2.2.1, x59.2.2.2.2.2.2.2.2.1, x59.2.2.2.2.2.2.2.2.2.1, x59.2.2.2.2.2.2.2.2.2.2.1, x59.2.2.2.2.2.2.2.2.2.2.2.1, x59.2.2.2.2.2.2.2.2.2.2.2.2.1, x59.2.2.2.2.2.2.2.2.2.2.2.2.2.1, x59.2.2.2.2.2.2.2.2.2.2.2.2.2.2.1, x59.2.2.2.2.2.2.2.2.2.2.2.2.2.2.2)
def L02_ArenaPlays_L22 (k51 : (Bool × Int × List Int × (List (Int × Int × Unit)) × Int × Int × Int × (List (Int × Bool × Int × Unit)) × Int × Int) → Option Bool) (k58 : (Int × Int × Int × Int × List Int × (List (Int × Int × Unit)) × Int × Int × Int × (List (Int × Bool × Int × Unit)) × Int × Int × Int × List Int × (List (Int × Int × Unit)) × List Int) → Option Bool) (x58 : Int × Int × Int × Int × List Int × (List (Int × Int × Unit)) × Int × Int × Int × (List (Int × Bool × Int × Unit)) × Int × Int × Int × List Int × (List (Int × Int × Unit)) × List Int) : Option Bool :=
  bif decide (x58.2.2.1 < x58.2.1) then
    cutv 34 (L02_ArenaPlays_C34 x58) (L02_ArenaPlays_R34 k58)
  else
    L02_ArenaPlays_J23 k51 x58.1 x58.2.2.2.1 x58.2.2.2.2.1 x58.2.2.2.2.2.1 x58.2.2.2.2.2.2.1 x58.2.2.2.2.2.2.2.1 x58.2.2.2.2.2.2.2.2.1 x58.2.2.2.2.2.2.2.2.2.1 x58.2.2.2.2.2.2.2.2.2.2.1 x58.2.2.2.2.2.2.2.2.2.2.2.1 x58.2.2.2.2.2.2.2.2.2.2.2.2.1 x58.2.2.2.2.2.2.2.2.2.2.2.2.2.1 x58.2.2.2.2.2.2.2.2.2.2.2.2.2.2.1 x58.2.2.2.2.2.2.2.2.2.2.2.2.2.2.2
def L02_ArenaPlays_J24 (x50 : Int × Int × Int × Int × List Int × (List (Int × Int × Unit)) × Int × Int × Int × (List (Int × Bool × Int × Unit)) × Int × Int × Int × List Int × (List (Int × Int × Unit))) (k51 : (Bool × Int × List Int × (List (Int × Int × Unit)) × Int × Int × Int × (List (Int × Bool × Int × Unit)) × Int × Int) → Option Bool) (p197 : List Int) : Option Bool :=
  Option.bind (R02_Handles (x50.2.2.2.2.2.2.2.2.2.2.2.2.1, x50.2.2.2.2.2.2.2.2.2.2.2.2.2.1, x50.2.2.2.2.2.2.2.2.2.2.2.2.2.2, ())) fun r103 =>
  Option.bind (R02_Same p197 r103) fun r104 =>
  bif r104 then
    letv (decide ((x50.2.2.2.2.2.2.2.2.2.1.length : Int) > 0)) fun v62 =>
    bif !v62 then
      bif decide (0 = (x50.2.2.2.2.2.2.2.2.2.2.2.2.2.2.length : Int)) then
        letv (decide ((x50.2.2.2.2.2.2.2.2.2.1.length : Int) > 0)) fun v63 =>
        bif !v63 then
          Option.bind (R02_Free (x50.2.2.2.2.2.2.2.2.2.2.2.2.1, x50.2.2.2.2.2.2.2.2.2.2.2.2.2.1, x50.2.2.2.2.2.2.2.2.2.2.2.2.2.2, ())) fun r105 =>
          k51 (decide (0 = r105), x50.2.2.2.1, x50.2.2.2.2.1, x50.2.2.2.2.2.1, x50.2.2.2.2.2.2.1, x50.2.2.2.2.2.2.2.1, x50.2.2.2.2.2.2.2.2.1, x50.2.2.2.2.2.2.2.2.2.1, x50.2.2.2.2.2.2.2.2.2.2.1, x50.2.2.2.2.2.2.2.2.2.2.2.1)
        else
          loop (L02_ArenaPlays_L21 k51) (0, (x50.2.2.2.2.2.2.2.2.2.1.length : Int), 0, x50.2.2.2.1, x50.2.2.2.2.1, x50.2.2.2.2.2.1, x50.2.2.2.2.2.2.1, x50.2.2.2.2.2.2.2.1, x50.2.2.2.2.2.2.2.2.1, x50.2.2.2.2.2.2.2.2.2.1, x50.2.2.2.2.2.2.2.2.2.2.1, x50.2.2.2.2.2.2.2.2.2.2.2.1, x50.2.2.2.2.2.2.2.2.2.2.2.2.1, x50.2.2.2.2.2.2.2.2.2.2.2.2.2.1, x50.2.2.2.2.2.2.2.2.2.2.2.2.2.2, p197)
      else
        k51 (false, x50.2.2.2.1, x50.2.2.2.2.1, x50.2.2.2.2.2.1, x50.2.2.2.2.2.2.1, x50.2.2.2.2.2.2.2.1, x50.2.2.2.2.2.2.2.2.1, x50.2.2.2.2.2.2.2.2.2.1, x50.2.2.2.2.2.2.2.2.2.2.1, x50.2.2.2.2.2.2.2.2.2.2.2.1)
    else
      bif decide (x50.2.2.2.2.2.2.2.2.2.2.2.1 = (x50.2.2.2.2.2.2.2.2.2.2.2.2.2.2.length : Int)) then
        letv (decide ((x50.2.2.2.2.2.2.2.2.2.1.length : Int) > 0)) fun v65 =>
        bif !v65 then
          Option.bind (R02_Free (x50.2.2.2.2.2.2.2.2.2.2.2.2.1, x50.2.2.2.2.2.2.2.2.2.2.2.2.2.1, x50.2.2.2.2.2.2.2.2.2.2.2.2.2.2, ())) fun r107 =>
          k51 (decide (0 = r107), x50.2.2.2.1, x50.2.2.2.2.1, x50.2.2.2.2.2.1, x50.2.2.2.2.2.2.1, x50.2.2.2.2.2.2.2.1, x50.2.2.2.2.2.2.2.2.1, x50.2.2.2.2.2.2.2.2.2.1, x50.2.2.2.2.2.2.2.2.2.2.1, x50.2.2.2.2.2.2.2.2.2.2.2.1)
        else
          loop (L02_ArenaPlays_L22 k51) (0, (x50.2.2.2.2.2.2.2.2.2.1.length : Int), 0, x50.2.2.2.1, x50.2.2.2.2.1, x50.2.2.2.2.2.1, x50.2.2.2.2.2.2.1, x50.2.2.2.2.2.2.2.1, x50.2.2.2.2.2.2.2.2.1, x50.2.2.2.2.2.2.2.2.2.1, x50.2.2.2.2.2.2.2.2.2.2.1, x50.2.2.2.2.2.2.2.2.2.2.2.1, x50.2.2.2.2.2.2.2.2.2.2.2.2.1, x50.2.2.2.2.2.2.2.2.2.2.2.2.2.1, x50.2.2.2.2.2.2.2.2.2.2.2.2.2.2, p197)
      else
        k51 (false, x50.2.2.2.1, x50.2.2.2.2.1, x50.2.2.2.2.2.1, x50.2.2.2.2.2.2.1, x50.2.2.2.2.2.2.2.1, x50.2.2.2.2.2.2.2.2.1, x50.2.2.2.2.2.2.2.2.2.1, x50.2.2.2.2.2.2.2.2.2.2.1, x50.2.2.2.2.2.2.2.2.2.2.2.1)
  else
    k51 (false, x50.2.2.2.1, x50.2.2.2.2.1, x50.2.2.2.2.2.1, x50.2.2.2.2.2.2.1, x50.2.2.2.2.2.2.2.1, x50.2.2.2.2.2.2.2.2.1, x50.2.2.2.2.2.2.2.2.2.1, x50.2.2.2.2.2.2.2.2.2.2.1, x50.2.2.2.2.2.2.2.2.2.2.2.1)
def L02_ArenaPlays_L23 (p226 : Int) (x50 : Int × Int × Int × Int × List Int × (List (Int × Int × Unit)) × Int × Int × Int × (List (Int × Bool × Int × Unit)) × Int × Int × Int × List Int × (List (Int × Int × Unit))) (k51 : (Bool × Int × List Int × (List (Int × Int × Unit)) × Int × Int × Int × (List (Int × Bool × Int × Unit)) × Int × Int) → Option Bool) (k60 : (Int × List Int) → Option Bool) (x60 : Int × List Int) : Option Bool :=
  bif decide (x60.1 < p226) then
    chk (0 ≤ x60.1 ∧ x60.1 < (x50.2.2.2.2.2.2.2.2.2.1.length : Int)) <|
    bif (x50.2.2.2.2.2.2.2.2.2.1.getD x60.1.toNat (0, false, 0, ())).2.1 then
      Option.bind (handle_Make x60.1 (x50.2.2.2.2.2.2.2.2.2.1.getD x60.1.toNat (0, false, 0, ())).1) fun r109 =>
      chk (x60.2.length + ([r109.1] : List Int).length ≤ 4294967296) <|
      k60 (IntKind.i64.wrap (x60.1 + 1), x60.2 ++ [r109.1])
    else
      k60 (IntKind.i64.wrap (x60.1 + 1), x60.2)
  else
    L02_ArenaPlays_J24 x50 k51 x60.2
def L02_ArenaPlays_C35 (x50 : Int × Int × Int × Int × List Int × (List (Int × Int × Unit)) × Int × Int × Int × (List (Int × Bool × Int × Unit)) × Int × Int × Int × List Int × (List (Int × Int × Unit))) (r96 : Int × Int × Unit) (k51 : (Bool × Int × List Int × (List (Int × Int × Unit)) × Int × Int × Int × (List (Int × Bool × Int × Unit)) × Int × Int) → Option Bool) : Option Bool :=
  bif decide (x50.2.1 = r96.1) then
    bif decide (x50.2.2.1 = r96.2.1) then
      letv (decide ((x50.2.2.2.2.2.2.2.2.2.1.length : Int) > 0)) fun v56 =>
      bif !v56 then
        Option.bind (R02_Handles (x50.2.2.2.2.2.2.2.2.2.2.2.2.1, x50.2.2.2.2.2.2.2.2.2.2.2.2.2.1, x50.2.2.2.2.2.2.2.2.2.2.2.2.2.2, ())) fun r97 =>
        Option.bind (R02_Same [] r97) fun r98 =>
        bif r98 then
          letv (decide ((x50.2.2.2.2.2.2.2.2.2.1.length : Int) > 0)) fun v57 =>
          bif !v57 then
            bif decide (0 = (x50.2.2.2.2.2.2.2.2.2.2.2.2.2.2.length : Int)) then
              letv (decide ((x50.2.2.2.2.2.2.2.2.2.1.length : Int) > 0)) fun v58 =>
              bif !v58 then
                Option.bind (R02_Free (x50.2.2.2.2.2.2.2.2.2.2.2.2.1, x50.2.2.2.2.2.2.2.2.2.2.2.2.2.1, x50.2.2.2.2.2.2.2.2.2.2.2.2.2.2, ())) fun r99 =>
                k51 (decide (0 = r99), x50.2.2.2.1, x50.2.2.2.2.1, x50.2.2.2.2.2.1, x50.2.2.2.2.2.2.1, x50.2.2.2.2.2.2.2.1, x50.2.2.2.2.2.2.2.2.1, x50.2.2.2.2.2.2.2.2.2.1, x50.2.2.2.2.2.2.2.2.2.2.1, x50.2.2.2.2.2.2.2.2.2.2.2.1)
              else
                loop (L02_ArenaPlays_L19 k51) (0, (x50.2.2.2.2.2.2.2.2.2.1.length : Int), 0, x50.2.2.2.1, x50.2.2.2.2.1, x50.2.2.2.2.2.1, x50.2.2.2.2.2.2.1, x50.2.2.2.2.2.2.2.1, x50.2.2.2.2.2.2.2.2.1, x50.2.2.2.2.2.2.2.2.2.1, x50.2.2.2.2.2.2.2.2.2.2.1, x50.2.2.2.2.2.2.2.2.2.2.2.1, x50.2.2.2.2.2.2.2.2.2.2.2.2.1, x50.2.2.2.2.2.2.2.2.2.2.2.2.2.1, x50.2.2.2.2.2.2.2.2.2.2.2.2.2.2)
            else
              k51 (false, x50.2.2.2.1, x50.2.2.2.2.1, x50.2.2.2.2.2.1, x50.2.2.2.2.2.2.1, x50.2.2.2.2.2.2.2.1, x50.2.2.2.2.2.2.2.2.1, x50.2.2.2.2.2.2.2.2.2.1, x50.2.2.2.2.2.2.2.2.2.2.1, x50.2.2.2.2.2.2.2.2.2.2.2.1)
          else
            bif decide (x50.2.2.2.2.2.2.2.2.2.2.2.1 = (x50.2.2.2.2.2.2.2.2.2.2.2.2.2.2.length : Int)) then
              letv (decide ((x50.2.2.2.2.2.2.2.2.2.1.length : Int) > 0)) fun v60 =>
              bif !v60 then
                Option.bind (R02_Free (x50.2.2.2.2.2.2.2.2.2.2.2.2.1, x50.2.2.2.2.2.2.2.2.2.2.2.2.2.1, x50.2.2.2.2.2.2.2.2.2.2.2.2.2.2, ())) fun r101 =>
                k51 (decide (0 = r101), x50.2.2.2.1, x50.2.2.2.2.1, x50.2.2.2.2.2.1, x50.2.2.2.2.2.2.1, x50.2.2.2.2.2.2.2.1, x50.2.2.2.2.2.2.2.2.1, x50.2.2.2.2.2.2.2.2.2.1, x50.2.2.2.2.2.2.2.2.2.2.1, x50.2.2.2.2.2.2.2.2.2.2.2.1)
              else
                loop (L02_ArenaPlays_L20 k51) (0, (x50.2.2.2.2.2.2.2.2.2.1.length : Int), 0, x50.2.2.2.1, x50.2.2.2.2.1, x50.2.2.2.2.2.1, x50.2.2.2.2.2.2.1, x50.2.2.2.2.2.2.2.1, x50.2.2.2.2.2.2.2.2.1, x50.2.2.2.2.2.2.2.2.2.1, x50.2.2.2.2.2.2.2.2.2.2.1, x50.2.2.2.2.2.2.2.2.2.2.2.1, x50.2.2.2.2.2.2.2.2.2.2.2.2.1, x50.2.2.2.2.2.2.2.2.2.2.2.2.2.1, x50.2.2.2.2.2.2.2.2.2.2.2.2.2.2)
            else
              k51 (false, x50.2.2.2.1, x50.2.2.2.2.1, x50.2.2.2.2.2.1, x50.2.2.2.2.2.2.1, x50.2.2.2.2.2.2.2.1, x50.2.2.2.2.2.2.2.2.1, x50.2.2.2.2.2.2.2.2.2.1, x50.2.2.2.2.2.2.2.2.2.2.1, x50.2.2.2.2.2.2.2.2.2.2.2.1)
        else
          k51 (false, x50.2.2.2.1, x50.2.2.2.2.1, x50.2.2.2.2.2.1, x50.2.2.2.2.2.2.1, x50.2.2.2.2.2.2.2.1, x50.2.2.2.2.2.2.2.2.1, x50.2.2.2.2.2.2.2.2.2.1, x50.2.2.2.2.2.2.2.2.2.2.1, x50.2.2.2.2.2.2.2.2.2.2.2.1)
      else
        loop (L02_ArenaPlays_L23 (x50.2.2.2.2.2.2.2.2.2.1.length : Int) x50 k51) (0, [])
    else
      k51 (false, x50.2.2.2.1, x50.2.2.2.2.1, x50.2.2.2.2.2.1, x50.2.2.2.2.2.2.1, x50.2.2.2.2.2.2.2.1, x50.2.2.2.2.2.2.2.2.1, x50.2.2.2.2.2.2.2.2.2.1, x50.2.2.2.2.2.2.2.2.2.2.1, x50.2.2.2.2.2.2.2.2.2.2.2.1)
  else
    k51 (false, x50.2.2.2.1, x50.2.2.2.2.1, x50.2.2.2.2.2.1, x50.2.2.2.2.2.2.1, x50.2.2.2.2.2.2.2.1, x50.2.2.2.2.2.2.2.2.1, x50.2.2.2.2.2.2.2.2.2.1, x50.2.2.2.2.2.2.2.2.2.2.1, x50.2.2.2.2.2.2.2.2.2.2.2.1)
def L02_ArenaPlays_R35 (k49 : ((List (Int × Int × Int × Unit)) × Int × Int × Bool × Int × List Int × (List (Int × Int × Unit)) × (List (Int × Bool × Int × Unit)) × Int × Int) → Option Bool) (x43 : Int × Int × (List (Int × Int × Int × Unit)) × Int × Int × Int × List Int × (List (Int × Int × Unit)) × Int × Int × Int × (List (Int × Bool × Int × Unit)) × Int × Int) (x51 : Bool × Int × List Int × (List (Int × Int × Unit)) × Int × Int × Int × (List (Int × Bool × Int × Unit)) × Int × Int) : Option Bool :=
  k49 (x43.2.2.1, x43.2.2.2.1, x43.2.2.2.2.1, !x51.1, x51.2.1, x51.2.2.1, x51.2.2.2.1, x51.2.2.2.2.2.2.2.1, x51.2.2.2.2.2.2.2.2.1, x51.2.2.2.2.2.2.2.2.2)
def L02_ArenaPlays_R30 (k49 : ((List (Int × Int × Int × Unit)) × Int × Int × Bool × Int × List Int × (List (Int × Int × Unit)) × (List (Int × Bool × Int × Unit)) × Int × Int) → Option Bool) (x43 : Int × Int × (List (Int × Int × Int × Unit)) × Int × Int × Int × List Int × (List (Int × Int × Unit)) × Int × Int × Int × (List (Int × Bool × Int × Unit)) × Int × Int) (x50 : Int × Int × Int × Int × List Int × (List (Int × Int × Unit)) × Int × Int × Int × (List (Int × Bool × Int × Unit)) × Int × Int × Int × List Int × (List (Int × Int × Unit))) : Option Bool :=
  Option.bind (R02_Get (x50.2.2.2.2.2.2.2.2.2.2.2.2.1, x50.2.2.2.2.2.2.2.2.2.2.2.2.2.1, x50.2.2.2.2.2.2.2.2.2.2.2.2.2.2, ()) x50.1) fun r96 =>
  cutv 35 (L02_ArenaPlays_C35 x50 r96) (L02_ArenaPlays_R35 k49 x43)
def L02_ArenaPlays_C36 (x43 : Int × Int × (List (Int × Int × Int × Unit)) × Int × Int × Int × List Int × (List (Int × Int × Unit)) × Int × Int × Int × (List (Int × Bool × Int × Unit)) × Int × Int) (k49 : ((List (Int × Int × Int × Unit)) × Int × Int × Bool × Int × List Int × (List (Int × Int × Unit)) × (List (Int × Bool × Int × Unit)) × Int × Int) → Option Bool) : Option Bool :=
  bif !decide (x43.1 = x43.2.1) then
    k49 (x43.2.2.1, x43.2.2.2.1, x43.2.2.2.2.1, true, x43.2.2.2.2.2.1, x43.2.2.2.2.2.2.1, x43.2.2.2.2.2.2.2.1, x43.2.2.2.2.2.2.2.2.2.2.2.1, x43.2.2.2.2.2.2.2.2.2.2.2.2.1, x43.2.2.2.2.2.2.2.2.2.2.2.2.2)
  else
    cutv 30 (L02_ArenaPlays_C30 x43) (L02_ArenaPlays_R30 k49 x43)
def L02_ArenaPlays_R36 (k42 : ((List (Int × Int × Int × Unit)) × Int × Int × Int × List Int × (List (Int × Int × Unit)) × (List (Int × Bool × Int × Unit)) × Int × Int) → Option Bool) (x49 : (List (Int × Int × Int × Unit)) × Int × Int × Bool × Int × List Int × (List (Int × Int × Unit)) × (List (Int × Bool × Int × Unit)) × Int × Int) : Option Bool :=
  bif x49.2.2.2.1 then
    some false
  else
    k42 (x49.1, x49.2.1, IntKind.i64.wrap (x49.2.2.1 + 1), x49.2.2.2.2.1, x49.2.2.2.2.2.1, x49.2.2.2.2.2.2.1, x49.2.2.2.2.2.2.2.1, x49.2.2.2.2.2.2.2.2.1, x49.2.2.2.2.2.2.2.2.2)
def L02_ArenaPlays_R29 (k42 : ((List (Int × Int × Int × Unit)) × Int × Int × Int × List Int × (List (Int × Int × Unit)) × (List (Int × Bool × Int × Unit)) × Int × Int) → Option Bool) (x43 : Int × Int × (List (Int × Int × Int × Unit)) × Int × Int × Int × List Int × (List (Int × Int × Unit)) × Int × Int × Int × (List (Int × Bool × Int × Unit)) × Int × Int) : Option Bool :=
  cutv 36 (L02_ArenaPlays_C36 x43) (L02_ArenaPlays_R36 k42)
def L02_ArenaPlays_L24 (k42 : ((List (Int × Int × Int × Unit)) × Int × Int × Int × List Int × (List (Int × Int × Unit)) × (List (Int × Bool × Int × Unit)) × Int × Int) → Option Bool) (x42 : (List (Int × Int × Int × Unit)) × Int × Int × Int × List Int × (List (Int × Int × Unit)) × (List (Int × Bool × Int × Unit)) × Int × Int) : Option Bool :=
  bif decide (x42.2.2.1 < x42.2.1) then
    chk (0 ≤ x42.2.2.1 ∧ x42.2.2.1 < (x42.1.length : Int)) <|
    chk ((5 : Int) ≠ 0) <|
    cutv 29 (L02_ArenaPlays_C29 x42) (L02_ArenaPlays_R29 k42)
  else
    L02_ArenaPlays_J18 x42.2.2.2.1 x42.2.2.2.2.1 x42.2.2.2.2.2.1 x42.2.2.2.2.2.2.1 x42.2.2.2.2.2.2.2.1 x42.2.2.2.2.2.2.2.2
def L02_ArenaPlays (a0 : Int) (a1 : Int) (a2 : List (Int × Int × Int × Unit)) : Option Bool :=
  bif decide (a0 > 30) then
    bif decide (a0 ≤ 4096) then
      Option.bind (L02_alive) fun r1 =>
      some r1
    else
      bif decide ((a2.length : Int) > 100) then
        Option.bind (L02_alive) fun r2 =>
        some r2
      else
        bif decide (a0 < 1) then
          Option.bind (R02_New a0 a1) fun r3 =>
          bif !decide (r3.2.1 = 0) then
            bif decide (1 = r3.2.1) then
              Option.bind (L02_alive) fun r4 =>
              some r4
            else
              some false
          else
            some false
        else
          bif decide (a0 > 4096) then
            Option.bind (R02_New a0 a1) fun r5 =>
            bif !decide (r5.2.1 = 0) then
              bif decide (1 = r5.2.1) then
                Option.bind (L02_alive) fun r6 =>
                some r6
              else
                some false
            else
              some false
          else
            bif decide (a1 < 1) then
              Option.bind (R02_New a0 a1) fun r7 =>
              bif !decide (r7.2.1 = 0) then
                bif decide (1 = r7.2.1) then
                  Option.bind (L02_alive) fun r8 =>
                  some r8
                else
                  some false
              else
                some false
            else
              bif decide (a1 > 65535) then
                Option.bind (R02_New a0 a1) fun r9 =>
                bif !decide (r9.2.1 = 0) then
                  bif decide (1 = r9.2.1) then
                    Option.bind (L02_alive) fun r10 =>
                    some r10
                  else
                    some false
                else
                  some false
              else
                chk (a0 = a0 ∧ 0 ≤ a0 ∧ a0 ≤ 4294967296) <|
                letv (List.replicate a0.toNat (0, false, 0, ())) fun l1 =>
                Option.bind (R02_New a0 a1) fun r11 =>
                bif !decide (r11.2.1 = 0) then
                  some false
                else
                  loop L02_ArenaPlays_L12 (a2, (a2.length : Int), 0, r11.1.1, r11.1.2.1, r11.1.2.2.1, l1, a1, 0)
  else
    bif decide ((a2.length : Int) > 100) then
      Option.bind (L02_alive) fun r56 =>
      some r56
    else
      bif decide (a0 < 1) then
        Option.bind (R02_New a0 a1) fun r57 =>
        bif !decide (r57.2.1 = 0) then
          bif decide (1 = r57.2.1) then
            Option.bind (L02_alive) fun r58 =>
            some r58
          else
            some false
        else
          some false
      else
        bif decide (a0 > 4096) then
          Option.bind (R02_New a0 a1) fun r59 =>
          bif !decide (r59.2.1 = 0) then
            bif decide (1 = r59.2.1) then
              Option.bind (L02_alive) fun r60 =>
              some r60
            else
              some false
          else
            some false
        else
          bif decide (a1 < 1) then
            Option.bind (R02_New a0 a1) fun r61 =>
            bif !decide (r61.2.1 = 0) then
              bif decide (1 = r61.2.1) then
                Option.bind (L02_alive) fun r62 =>
                some r62
              else
                some false
            else
              some false
          else
            bif decide (a1 > 65535) then
              Option.bind (R02_New a0 a1) fun r63 =>
              bif !decide (r63.2.1 = 0) then
                bif decide (1 = r63.2.1) then
                  Option.bind (L02_alive) fun r64 =>
                  some r64
                else
                  some false
              else
                some false
            else
              chk (a0 = a0 ∧ 0 ≤ a0 ∧ a0 ≤ 4294967296) <|
              letv (List.replicate a0.toNat (0, false, 0, ())) fun l10 =>
              Option.bind (R02_New a0 a1) fun r65 =>
              bif !decide (r65.2.1 = 0) then
                some false
              else
                loop L02_ArenaPlays_L24 (a2, (a2.length : Int), 0, r65.1.1, r65.1.2.1, r65.1.2.2.1, l10, a1, 0)
end Go.Proofs.YtiicmhholjpcbaaV
