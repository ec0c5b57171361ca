import Derived.Test.YtiicmhholjpcbaaVcG1
import Derived.Test.YtiicmhholjpcbaaDhandle
namespace Go.Proofs.YtiicmhholjpcbaaV
set_option linter.unusedVariables false
def L02_alive_C1 (k1 : ((List (Int × Bool × Int × Unit))) → Option Bool) : Option Bool :=
  chk ((1 : Int) = (1 : Int) ∧ 0 ≤ (1 : Int) ∧ (1 : Int) ≤ 4294967296) <|
  letv (List.replicate (1 : Int).toNat (0, false, 0, ())) fun l1 =>
  k1 l1
def L02_alive_J1 (k2 : (Int × Int × (List (Int × Bool × Int × Unit)) × Int) → Option Bool) (x1 : (List (Int × Bool × Int × Unit))) : Option Bool :=
  k2 (0, 10, x1, 0)
def L02_alive_L1 (p1 : Int) (x1 : (List (Int × Bool × Int × Unit))) (k2 : (Int × Int × (List (Int × Bool × Int × Unit)) × Int) → Option Bool) (k3 : Int → Option Bool) (x3 : Int) : Option Bool :=
  bif decide (x3 < p1) then
    chk (0 ≤ x3 ∧ x3 < (x1.length : Int)) <|
    bif !(x1.getD x3.toNat (0, false, 0, ())).2.1 then
      chk (0 ≤ x3 ∧ x3 < (x1.length : Int)) <|
      letv (decide ((x1.getD x3.toNat (0, false, 0, ())).1 < 2)) fun v1 =>
      bif v1 then
        chk (0 ≤ x3 ∧ x3 < (x1.length : Int)) <|
        letv (x1.set x3.toNat (IntKind.i64.wrap ((x1.getD x3.toNat (0, false, 0, ())).1 + 1), (x1.getD x3.toNat (0, false, 0, ())).2.1, (x1.getD x3.toNat (0, false, 0, ())).2.2.1, ())) fun l2 =>
        letv (l2.set x3.toNat ((l2.getD x3.toNat (0, false, 0, ())).1, true, (l2.getD x3.toNat (0, false, 0, ())).2.2.1, ())) fun l3 =>
        letv (l3.set x3.toNat ((l3.getD x3.toNat (0, false, 0, ())).1, (l3.getD x3.toNat (0, false, 0, ())).2.1, 5, ())) fun l4 =>
        Option.bind (handle_Make x3 (l4.getD x3.toNat (0, false, 0, ())).1) fun r1 =>
        k2 (r1.1, r1.2.1, l4, 1)
      else
        k3 (IntKind.i64.wrap (x3 + 1))
    else
      k3 (IntKind.i64.wrap (x3 + 1))
  else
    L02_alive_J1 k2 x1
def L02_alive_C2 (x1 : (List (Int × Bool × Int × Unit))) (k2 : (Int × Int × (List (Int × Bool × Int × Unit)) × Int) → Option Bool) : Option Bool :=
  bif !(decide ((x1.length : Int) > 0)) then
    k2 (0, 2, x1, 0)
  else
    loop (L02_alive_L1 (x1.length : Int) x1 k2) 0
def L02_alive_C3 (x2 : Int × Int × (List (Int × Bool × Int × Unit)) × Int) (k4 : (Int × Int × Int × (List (Int × Bool × Int × Unit)) × Int) → Option Bool) : Option Bool :=
  bif !(decide ((x2.2.2.1.length : Int) > 0)) then
    k4 (x2.1, x2.2.1, 2, x2.2.2.1, x2.2.2.2)
  else
    Option.bind (handle_Slot x2.1) fun r2 =>
    bif decide (r2 < 0) then
      k4 (x2.1, x2.2.1, 8, x2.2.2.1, x2.2.2.2)
    else
      bif decide (r2 ≥ (x2.2.2.1.length : Int)) then
        k4 (x2.1, x2.2.1, 8, x2.2.2.1, x2.2.2.2)
      else
        chk (0 ≤ r2 ∧ r2 < (x2.2.2.1.length : Int)) <|
        bif !(x2.2.2.1.getD r2.toNat (0, false, 0, ())).2.1 then
          k4 (x2.1, x2.2.1, 9, x2.2.2.1, x2.2.2.2)
        else
          Option.bind (handle_Gen x2.1) fun r3 =>
          bif !decide ((x2.2.2.1.getD r2.toNat (0, false, 0, ())).1 = r3) then
            k4 (x2.1, x2.2.1, 9, x2.2.2.1, x2.2.2.2)
          else
            letv (x2.2.2.1.set r2.toNat ((x2.2.2.1.getD r2.toNat (0, false, 0, ())).1, false, (x2.2.2.1.getD r2.toNat (0, false, 0, ())).2.2.1, ())) fun l5 =>
            letv (l5.set r2.toNat ((l5.getD r2.toNat (0, false, 0, ())).1, (l5.getD r2.toNat (0, false, 0, ())).2.1, 0, ())) fun l6 =>
            k4 (x2.1, x2.2.1, 0, l6, IntKind.i64.wrap (x2.2.2.2 - 1))
def L02_alive_J2 (k5 : (Int × Int × Int × Int × Int × (List (Int × Bool × Int × Unit)) × Int) → Option Bool) (x4 : Int × Int × Int × (List (Int × Bool × Int × Unit)) × Int) : Option Bool :=
  k5 (x4.1, x4.2.1, x4.2.2.1, 0, 10, x4.2.2.2.1, x4.2.2.2.2)
def L02_alive_L2 (p2 : Int) (x4 : Int × Int × Int × (List (Int × Bool × Int × Unit)) × Int) (k5 : (Int × Int × Int × Int × Int × (List (Int × Bool × Int × Unit)) × Int) → Option Bool) (k6 : Int → Option Bool) (x6 : Int) : Option Bool :=
  bif decide (x6 < p2) then
    chk (0 ≤ x6 ∧ x6 < (x4.2.2.2.1.length : Int)) <|
    bif !(x4.2.2.2.1.getD x6.toNat (0, false, 0, ())).2.1 then
      chk (0 ≤ x6 ∧ x6 < (x4.2.2.2.1.length : Int)) <|
      letv (decide ((x4.2.2.2.1.getD x6.toNat (0, false, 0, ())).1 < 2)) fun v2 =>
      bif v2 then
        chk (0 ≤ x6 ∧ x6 < (x4.2.2.2.1.length : Int)) <|
        letv (x4.2.2.2.1.set x6.toNat (IntKind.i64.wrap ((x4.2.2.2.1.getD x6.toNat (0, false, 0, ())).1 + 1), (x4.2.2.2.1.getD x6.toNat (0, false, 0, ())).2.1, (x4.2.2.2.1.getD x6.toNat (0, false, 0, ())).2.2.1, ())) fun l7 =>
        letv (l7.set x6.toNat ((l7.getD x6.toNat (0, false, 0, ())).1, true, (l7.getD x6.toNat (0, false, 0, ())).2.2.1, ())) fun l8 =>
        letv (l8.set x6.toNat ((l8.getD x6.toNat (0, false, 0, ())).1, (l8.getD x6.toNat (0, false, 0, ())).2.1, 6, ())) fun l9 =>
        Option.bind (handle_Make x6 (l9.getD x6.toNat (0, false, 0, ())).1) fun r4 =>
        k5 (x4.1, x4.2.1, x4.2.2.1, r4.1, r4.2.1, l9, IntKind.i64.wrap (x4.2.2.2.2 + 1))
      else
        k6 (IntKind.i64.wrap (x6 + 1))
    else
      k6 (IntKind.i64.wrap (x6 + 1))
  else
    L02_alive_J2 k5 x4
def L02_alive_C4 (x4 : Int × Int × Int × (List (Int × Bool × Int × Unit)) × Int) (k5 : (Int × Int × Int × Int × Int × (List (Int × Bool × Int × Unit)) × Int) → Option Bool) : Option Bool :=
  bif !(decide ((x4.2.2.2.1.length : Int) > 0)) then
    k5 (x4.1, x4.2.1, x4.2.2.1, 0, 2, x4.2.2.2.1, x4.2.2.2.2)
  else
    loop (L02_alive_L2 (x4.2.2.2.1.length : Int) x4 k5) 0
def L02_alive_C5 (x5 : Int × Int × Int × Int × Int × (List (Int × Bool × Int × Unit)) × Int) (k7 : (Int × Int × Int × Int × Int × Int × Int × (List (Int × Bool × Int × Unit)) × Int) → Option Bool) : Option Bool :=
  letv (decide ((x5.2.2.2.2.2.1.length : Int) > 0)) fun v3 =>
  bif !v3 then
    k7 (x5.1, x5.2.1, x5.2.2.1, x5.2.2.2.1, x5.2.2.2.2.1, 0, 2, x5.2.2.2.2.2.1, x5.2.2.2.2.2.2)
  else
    Option.bind (handle_Slot x5.2.2.2.1) fun r5 =>
    bif decide (r5 < 0) then
      k7 (x5.1, x5.2.1, x5.2.2.1, x5.2.2.2.1, x5.2.2.2.2.1, 0, 8, x5.2.2.2.2.2.1, x5.2.2.2.2.2.2)
    else
      bif decide (r5 ≥ (x5.2.2.2.2.2.1.length : Int)) then
        k7 (x5.1, x5.2.1, x5.2.2.1, x5.2.2.2.1, x5.2.2.2.2.1, 0, 8, x5.2.2.2.2.2.1, x5.2.2.2.2.2.2)
      else
        chk (0 ≤ r5 ∧ r5 < (x5.2.2.2.2.2.1.length : Int)) <|
        bif !(x5.2.2.2.2.2.1.getD r5.toNat (0, false, 0, ())).2.1 then
          k7 (x5.1, x5.2.1, x5.2.2.1, x5.2.2.2.1, x5.2.2.2.2.1, 0, 9, x5.2.2.2.2.2.1, x5.2.2.2.2.2.2)
        else
          Option.bind (handle_Gen x5.2.2.2.1) fun r6 =>
          bif !decide ((x5.2.2.2.2.2.1.getD r5.toNat (0, false, 0, ())).1 = r6) then
            k7 (x5.1, x5.2.1, x5.2.2.1, x5.2.2.2.1, x5.2.2.2.2.1, 0, 9, x5.2.2.2.2.2.1, x5.2.2.2.2.2.2)
          else
            letv ((x5.2.2.2.2.2.1.getD r5.toNat (0, false, 0, ())).2.2.1) fun v4 =>
            k7 (x5.1, x5.2.1, x5.2.2.1, x5.2.2.2.1, x5.2.2.2.2.1, v4, 0, x5.2.2.2.2.2.1, x5.2.2.2.2.2.2)
def L02_alive_C6 (x7 : Int × Int × Int × Int × Int × Int × Int × (List (Int × Bool × Int × Unit)) × Int) (k8 : (Int × Int × Int × Int × Int × Int × Int × Int × Int × (List (Int × Bool × Int × Unit)) × Int) → Option Bool) : Option Bool :=
  letv (decide ((x7.2.2.2.2.2.2.2.1.length : Int) > 0)) fun v5 =>
  bif !v5 then
    k8 (x7.1, x7.2.1, x7.2.2.1, x7.2.2.2.1, x7.2.2.2.2.1, x7.2.2.2.2.2.1, x7.2.2.2.2.2.2.1, 0, 2, x7.2.2.2.2.2.2.2.1, x7.2.2.2.2.2.2.2.2)
  else
    Option.bind (handle_Slot x7.1) fun r7 =>
    bif decide (r7 < 0) then
      k8 (x7.1, x7.2.1, x7.2.2.1, x7.2.2.2.1, x7.2.2.2.2.1, x7.2.2.2.2.2.1, x7.2.2.2.2.2.2.1, 0, 8, x7.2.2.2.2.2.2.2.1, x7.2.2.2.2.2.2.2.2)
    else
      bif decide (r7 ≥ (x7.2.2.2.2.2.2.2.1.length : Int)) then
        k8 (x7.1, x7.2.1, x7.2.2.1, x7.2.2.2.1, x7.2.2.2.2.1, x7.2.2.2.2.2.1, x7.2.2.2.2.2.2.1, 0, 8, x7.2.2.2.2.2.2.2.1, x7.2.2.2.2.2.2.2.2)
      else
        chk (0 ≤ r7 ∧ r7 < (x7.2.2.2.2.2.2.2.1.length : Int)) <|
        bif !(x7.2.2.2.2.2.2.2.1.getD r7.toNat (0, false, 0, ())).2.1 then
          k8 (x7.1, x7.2.1, x7.2.2.1, x7.2.2.2.1, x7.2.2.2.2.1, x7.2.2.2.2.2.1, x7.2.2.2.2.2.2.1, 0, 9, x7.2.2.2.2.2.2.2.1, x7.2.2.2.2.2.2.2.2)
        else
          Option.bind (handle_Gen x7.1) fun r8 =>
          bif !decide ((x7.2.2.2.2.2.2.2.1.getD r7.toNat (0, false, 0, ())).1 = r8) then
            k8 (x7.1, x7.2.1, x7.2.2.1, x7.2.2.2.1, x7.2.2.2.2.1, x7.2.2.2.2.2.1, x7.2.2.2.2.2.2.1, 0, 9, x7.2.2.2.2.2.2.2.1, x7.2.2.2.2.2.2.2.2)
          else
            letv ((x7.2.2.2.2.2.2.2.1.getD r7.toNat (0, false, 0, ())).2.2.1) fun v6 =>
            k8 (x7.1, x7.2.1, x7.2.2.1, x7.2.2.2.1, x7.2.2.2.2.1, x7.2.2.2.2.2.1, x7.2.2.2.2.2.2.1, v6, 0, x7.2.2.2.2.2.2.2.1, x7.2.2.2.2.2.2.2.2)
def L02_alive_C7 (x8 : Int × Int × Int × Int × Int × Int × Int × Int × Int × (List (Int × Bool × Int × Unit)) × Int) (k9 : (Int × Int × Int × Int × Int × Int × Int × Int × Int × (List (Int × Bool × Int × Unit)) × Int) → Option Bool) : Option Bool :=
  letv (decide ((x8.2.2.2.2.2.2.2.2.2.1.length : Int) > 0)) fun v7 =>
  bif !v7 then
    k9 (x8.1, x8.2.1, x8.2.2.1, x8.2.2.2.1, x8.2.2.2.2.1, x8.2.2.2.2.2.1, x8.2.2.2.2.2.2.1, x8.2.2.2.2.2.2.2.2.1, 2, x8.2.2.2.2.2.2.2.2.2.1, x8.2.2.2.2.2.2.2.2.2.2)
  else
    Option.bind (handle_Slot x8.2.2.2.1) fun r9 =>
    bif decide (r9 < 0) then
      k9 (x8.1, x8.2.1, x8.2.2.1, x8.2.2.2.1, x8.2.2.2.2.1, x8.2.2.2.2.2.1, x8.2.2.2.2.2.2.1, x8.2.2.2.2.2.2.2.2.1, 8, x8.2.2.2.2.2.2.2.2.2.1, x8.2.2.2.2.2.2.2.2.2.2)
    else
      bif decide (r9 ≥ (x8.2.2.2.2.2.2.2.2.2.1.length : Int)) then
        k9 (x8.1, x8.2.1, x8.2.2.1, x8.2.2.2.1, x8.2.2.2.2.1, x8.2.2.2.2.2.1, x8.2.2.2.2.2.2.1, x8.2.2.2.2.2.2.2.2.1, 8, x8.2.2.2.2.2.2.2.2.2.1, x8.2.2.2.2.2.2.2.2.2.2)
      else
        chk (0 ≤ r9 ∧ r9 < (x8.2.2.2.2.2.2.2.2.2.1.length : Int)) <|
        bif !(x8.2.2.2.2.2.2.2.2.2.1.getD r9.toNat (0, false, 0, ())).2.1 then
          k9 (x8.1, x8.2.1, x8.2.2.1, x8.2.2.2.1, x8.2.2.2.2.1, x8.2.2.2.2.2.1, x8.2.2.2.2.2.2.1, x8.2.2.2.2.2.2.2.2.1, 9, x8.2.2.2.2.2.2.2.2.2.1, x8.2.2.2.2.2.2.2.2.2.2)
        else
          Option.bind (handle_Gen x8.2.2.2.1) fun r10 =>
          bif !decide ((x8.2.2.2.2.2.2.2.2.2.1.getD r9.toNat (0, false, 0, ())).1 = r10) then
            k9 (x8.1, x8.2.1, x8.2.2.1, x8.2.2.2.1, x8.2.2.2.2.1, x8.2.2.2.2.2.1, x8.2.2.2.2.2.2.1, x8.2.2.2.2.2.2.2.2.1, 9, x8.2.2.2.2.2.2.2.2.2.1, x8.2.2.2.2.2.2.2.2.2.2)
          else
            letv (x8.2.2.2.2.2.2.2.2.2.1.set r9.toNat ((x8.2.2.2.2.2.2.2.2.2.1.getD r9.toNat (0, false, 0, ())).1, false, (x8.2.2.2.2.2.2.2.2.2.1.getD r9.toNat (0, false, 0, ())).2.2.1, ())) fun l10 =>
            letv (l10.set r9.toNat ((l10.getD r9.toNat (0, false, 0, ())).1, (l10.getD r9.toNat (0, false, 0, ())).2.1, 0, ())) fun l11 =>
            k9 (x8.1, x8.2.1, x8.2.2.1, x8.2.2.2.1, x8.2.2.2.2.1, x8.2.2.2.2.2.1, x8.2.2.2.2.2.2.1, x8.2.2.2.2.2.2.2.2.1, 0, l11, IntKind.i64.wrap (x8.2.2.2.2.2.2.2.2.2.2 - 1))
def L02_alive_J3 (k10 : (Int × Int × Int × Int × Int × Int × Int × Int × Int × Int × (List (Int × Bool × Int × Unit)) × Int) → Option Bool) (x9 : Int × Int × Int × Int × Int × Int × Int × Int × Int × (List (Int × Bool × Int × Unit)) × Int) : Option Bool :=
  k10 (x9.1, x9.2.1, x9.2.2.1, x9.2.2.2.1, x9.2.2.2.2.1, x9.2.2.2.2.2.1, x9.2.2.2.2.2.2.1, x9.2.2.2.2.2.2.2.1, 0, 10, x9.2.2.2.2.2.2.2.2.2.1, x9.2.2.2.2.2.2.2.2.2.2)
def L02_alive_L3 (p3 : Int) (x9 : Int × Int × Int × Int × Int × Int × Int × Int × Int × (List (Int × Bool × Int × Unit)) × Int) (k10 : (Int × Int × Int × Int × Int × Int × Int × Int × Int × Int × (List (Int × Bool × Int × Unit)) × Int) → Option Bool) (k11 : Int → Option Bool) (x11 : Int) : Option Bool :=
  bif decide (x11 < p3) then
    chk (0 ≤ x11 ∧ x11 < (x9.2.2.2.2.2.2.2.2.2.1.length : Int)) <|
    bif !(x9.2.2.2.2.2.2.2.2.2.1.getD x11.toNat (0, false, 0, ())).2.1 then
      chk (0 ≤ x11 ∧ x11 < (x9.2.2.2.2.2.2.2.2.2.1.length : Int)) <|
      letv (decide ((x9.2.2.2.2.2.2.2.2.2.1.getD x11.toNat (0, false, 0, ())).1 < 2)) fun v9 =>
      bif v9 then
        chk (0 ≤ x11 ∧ x11 < (x9.2.2.2.2.2.2.2.2.2.1.length : Int)) <|
        letv (x9.2.2.2.2.2.2.2.2.2.1.set x11.toNat (IntKind.i64.wrap ((x9.2.2.2.2.2.2.2.2.2.1.getD x11.toNat (0, false, 0, ())).1 + 1), (x9.2.2.2.2.2.2.2.2.2.1.getD x11.toNat (0, false, 0, ())).2.1, (x9.2.2.2.2.2.2.2.2.2.1.getD x11.toNat (0, false, 0, ())).2.2.1, ())) fun l12 =>
        letv (l12.set x11.toNat ((l12.getD x11.toNat (0, false, 0, ())).1, true, (l12.getD x11.toNat (0, false, 0, ())).2.2.1, ())) fun l13 =>
        letv (l13.set x11.toNat ((l13.getD x11.toNat (0, false, 0, ())).1, (l13.getD x11.toNat (0, false, 0, ())).2.1, 7, ())) fun l14 =>
        Option.bind (handle_Make x11 (l14.getD x11.toNat (0, false, 0, ())).1) fun r11 =>
        k10 (x9.1, x9.2.1, x9.2.2.1, x9.2.2.2.1, x9.2.2.2.2.1, x9.2.2.2.2.2.1, x9.2.2.2.2.2.2.1, x9.2.2.2.2.2.2.2.1, r11.1, r11.2.1, l14, IntKind.i64.wrap (x9.2.2.2.2.2.2.2.2.2.2 + 1))
      else
        k11 (IntKind.i64.wrap (x11 + 1))
    else
      k11 (IntKind.i64.wrap (x11 + 1))
  else
    L02_alive_J3 k10 x9
def L02_alive_C8 (x9 : Int × Int × Int × Int × Int × Int × Int × Int × Int × (List (Int × Bool × Int × Unit)) × Int) (k10 : (Int × Int × Int × Int × Int × Int × Int × Int × Int × Int × (List (Int × Bool × Int × Unit)) × Int) → Option Bool) : Option Bool :=
  letv (decide ((x9.2.2.2.2.2.2.2.2.2.1.length : Int) > 0)) fun v8 =>
  bif !v8 then
    k10 (x9.1, x9.2.1, x9.2.2.1, x9.2.2.2.1, x9.2.2.2.2.1, x9.2.2.2.2.2.1, x9.2.2.2.2.2.2.1, x9.2.2.2.2.2.2.2.1, 0, 2, x9.2.2.2.2.2.2.2.2.2.1, x9.2.2.2.2.2.2.2.2.2.2)
  else
    loop (L02_alive_L3 (x9.2.2.2.2.2.2.2.2.2.1.length : Int) x9 k10) 0
def L02_alive_C9 (x10 : Int × Int × Int × Int × Int × Int × Int × Int × Int × Int × (List (Int × Bool × Int × Unit)) × Int) (k13 : (Int × (List (Int × Bool × Int × Unit)) × Int) → Option Bool) : Option Bool :=
  letv (decide ((x10.2.2.2.2.2.2.2.2.2.2.1.length : Int) > 0)) fun v10 =>
  bif !v10 then
    k13 (0, x10.2.2.2.2.2.2.2.2.2.2.1, x10.2.2.2.2.2.2.2.2.2.2.2)
  else
    k13 (x10.2.2.2.2.2.2.2.2.2.2.2, x10.2.2.2.2.2.2.2.2.2.2.1, x10.2.2.2.2.2.2.2.2.2.2.2)
def L02_alive_J4 (k14 : (Int × (List (Int × Bool × Int × Unit)) × Int) → Option Bool) (p4 : Int) (p5 : List (Int × Bool × Int × Unit)) (p6 : Int) : Option Bool :=
  k14 (p4, p5, p6)
def L02_alive_C10 (x15 : Int × Int × Int × (List (Int × Bool × Int × Unit)) × Int) (k16 : (Int × Int × Int × (List (Int × Bool × Int × Unit)) × Int) → Option Bool) : Option Bool :=
  chk (0 ≤ x15.2.2.1 ∧ x15.2.2.1 < (x15.2.2.2.1.length : Int)) <|
  bif !(x15.2.2.2.1.getD x15.2.2.1.toNat (0, false, 0, ())).2.1 then
    chk (0 ≤ x15.2.2.1 ∧ x15.2.2.1 < (x15.2.2.2.1.length : Int)) <|
    letv (decide ((x15.2.2.2.1.getD x15.2.2.1.toNat (0, false, 0, ())).1 < 2)) fun v11 =>
    bif v11 then
      k16 (IntKind.i64.wrap (x15.1 + 1), x15.2.1, x15.2.2.1, x15.2.2.2.1, x15.2.2.2.2)
    else
      k16 (x15.1, x15.2.1, x15.2.2.1, x15.2.2.2.1, x15.2.2.2.2)
  else
    k16 (x15.1, x15.2.1, x15.2.2.1, x15.2.2.2.1, x15.2.2.2.2)
def L02_alive_R10 (k15 : (Int × Int × Int × (List (Int × Bool × Int × Unit)) × Int) → Option Bool) (x16 : Int × Int × Int × (List (Int × Bool × Int × Unit)) × Int) : Option Bool :=
  k15 (x16.1, x16.2.1, IntKind.i64.wrap (x16.2.2.1 + 1), x16.2.2.2.1, x16.2.2.2.2)
def L02_alive_L4 (k14 : (Int × (List (Int × Bool × Int × Unit)) × Int) → Option Bool) (k15 : (Int × Int × Int × (List (Int × Bool × Int × Unit)) × Int) → Option Bool) (x15 : Int × Int × Int × (List (Int × Bool × Int × Unit)) × Int) : Option Bool :=
  bif decide (x15.2.2.1 < x15.2.1) then
    cutv 10 (L02_alive_C10 x15) (L02_alive_R10 k15)
  else
    L02_alive_J4 k14 x15.1 x15.2.2.2.1 x15.2.2.2.2
def L02_alive_C11 (x13 : Int × (List (Int × Bool × Int × Unit)) × Int) (k14 : (Int × (List (Int × Bool × Int × Unit)) × Int) → Option Bool) : Option Bool :=
  bif !(decide ((x13.2.1.length : Int) > 0)) then
    k14 (0, x13.2.1, x13.2.2)
  else
    loop (L02_alive_L4 k14) (0, (x13.2.1.length : Int), 0, x13.2.1, x13.2.2)
def L02_alive_J5 (k12 : Bool → Option Bool) (p7 : List Int) : Option Bool :=
  k12 (decide ((p7.length : Int) = 0))
def L02_alive_L5 (p8 : Int) (x14 : Int × (List (Int × Bool × Int × Unit)) × Int) (k12 : Bool → Option Bool) (k17 : (Int × List Int) → Option Bool) (x17 : Int × List Int) : Option Bool :=
  bif decide (x17.1 < p8) then
    chk (0 ≤ x17.1 ∧ x17.1 < (x14.2.1.length : Int)) <|
    bif (x14.2.1.getD x17.1.toNat (0, false, 0, ())).2.1 then
      Option.bind (handle_Make x17.1 (x14.2.1.getD x17.1.toNat (0, false, 0, ())).1) fun r12 =>
      chk (x17.2.length + ([r12.1] : List Int).length ≤ 4294967296) <|
      k17 (IntKind.i64.wrap (x17.1 + 1), x17.2 ++ [r12.1])
    else
      k17 (IntKind.i64.wrap (x17.1 + 1), x17.2)
  else
    L02_alive_J5 k12 x17.2
def L02_alive_R11 (k12 : Bool → Option Bool) (x14 : Int × (List (Int × Bool × Int × Unit)) × Int) : Option Bool :=
  bif decide (x14.1 = 0) then
    bif !(decide ((x14.2.1.length : Int) > 0)) then
      k12 true
    else
      loop (L02_alive_L5 (x14.2.1.length : Int) x14 k12) (0, [])
  else
    k12 false
def L02_alive_R9 (k12 : Bool → Option Bool) (x13 : Int × (List (Int × Bool × Int × Unit)) × Int) : Option Bool :=
  bif decide (x13.1 = 0) then
    cutv 11 (L02_alive_C11 x13) (L02_alive_R11 k12)
  else
    k12 false
def L02_alive_C12 (x10 : Int × Int × Int × Int × Int × Int × Int × Int × Int × Int × (List (Int × Bool × Int × Unit)) × Int) (k12 : Bool → Option Bool) : Option Bool :=
  bif decide (x10.1 = 4096) then
    bif decide (x10.2.1 = 0) then
      bif decide (x10.2.2.1 = 0) then
        bif decide (x10.2.2.2.1 = 8192) then
          bif decide (x10.2.2.2.2.1 = 0) then
            bif decide (x10.2.2.2.2.2.1 = 6) then
              bif decide (x10.2.2.2.2.2.2.1 = 0) then
                bif decide (x10.2.2.2.2.2.2.2.1 = 9) then
                  bif decide (x10.2.2.2.2.2.2.2.2.2.1 = 10) then
                    cutv 9 (L02_alive_C9 x10) (L02_alive_R9 k12)
                  else
                    k12 false
                else
                  k12 false
              else
                k12 false
            else
              k12 false
          else
            k12 false
        else
          k12 false
      else
        k12 false
    else
      k12 false
  else
    k12 false
def L02_alive_R12 (x12 : Bool) : Option Bool :=
  some x12
def L02_alive_R8 (x10 : Int × Int × Int × Int × Int × Int × Int × Int × Int × Int × (List (Int × Bool × Int × Unit)) × Int) : Option Bool :=
  cutv 12 (L02_alive_C12 x10) L02_alive_R12
def L02_alive_R7 (x9 : Int × Int × Int × Int × Int × Int × Int × Int × Int × (List (Int × Bool × Int × Unit)) × Int) : Option Bool :=
  cutv 8 (L02_alive_C8 x9) L02_alive_R8
def L02_alive_R6 (x8 : Int × Int × Int × Int × Int × Int × Int × Int × Int × (List (Int × Bool × Int × Unit)) × Int) : Option Bool :=
  cutv 7 (L02_alive_C7 x8) L02_alive_R7
def L02_alive_R5 (x7 : Int × Int × Int × Int × Int × Int × Int × (List (Int × Bool × Int × Unit)) × Int) : Option Bool :=
  cutv 6 (L02_alive_C6 x7) L02_alive_R6
def L02_alive_R4 (x5 : Int × Int × Int × Int × Int × (List (Int × Bool × Int × Unit)) × Int) : Option Bool :=
  cutv 5 (L02_alive_C5 x5) L02_alive_R5
def L02_alive_R3 (x4 : Int × Int × Int × (List (Int × Bool × Int × Unit)) × Int) : Option Bool :=
  cutv 4 (L02_alive_C4 x4) L02_alive_R4
def L02_alive_R2 (x2 : Int × Int × (List (Int × Bool × Int × Unit)) × Int) : Option Bool :=
  cutv 3 (L02_alive_C3 x2) L02_alive_R3
def L02_alive_R1 (x1 : (List (Int × Bool × Int × Unit))) : Option Bool :=
  cutv 2 (L02_alive_C2 x1) L02_alive_R2
def L02_alive : Option Bool :=
  cutv 1 L02_alive_C1 L02_alive_R1
end Go.Proofs.YtiicmhholjpcbaaV
