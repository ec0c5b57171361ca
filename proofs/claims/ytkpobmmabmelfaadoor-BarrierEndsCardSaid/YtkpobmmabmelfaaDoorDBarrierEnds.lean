import Derived.Test.YtkpobmmabmelfaaDoorVcG1
import Derived.Test.YtkpobmmabmelfaaDoorDL22
import Derived.Test.YtkpobmmabmelfaaDoorDbarrier
import Derived.Test.YtkpobmmabmelfaaDoorDbitset
namespace Go.Proofs.YtkpobmmabmelfaaDoorV
set_option linter.unusedVariables false
def L22_BarrierEnds_J1 (p1 : Int) (p2 : Bool) (p3 : Int) (p4 : List Int) (p5 : List Int) (p6 : Int) : Option Bool :=
  bif decide (p6 = p1) then
    bif decide (p1 ≤ p3) then
      Option.bind (barrier_Fine ((p2, p3, ()), (p4, p5, ()), p6, ())) fun r4 =>
      bif r4 then
        Option.bind (L22_alive) fun r5 =>
        some r5
      else
        some false
    else
      some false
  else
    some false
def L22_BarrierEnds_C1 (x1 : Int × List (List Int) × Int × Int × Bool × Int × List Int × List Int × Int × List Bool) (v1 : Int) (k3 : (Int × Int × List (List Int) × Int × Int × Bool × Int × List Int × List Int × Int × List Bool × Bool × Int × List Int × List Int × Int) → Option Bool) : Option Bool :=
  letv (decide ((Int.tmod ((x1.2.1.getD x1.2.2.2.1.toNat (List.replicate 2 0)).getD (1 : Int).toNat 0) 5) = 0)) fun v2 =>
  bif v2 then
    Option.bind (barrier_Enrol ((x1.2.2.2.2.1, x1.2.2.2.2.2.1, ()), (x1.2.2.2.2.2.2.1, x1.2.2.2.2.2.2.2.1, ()), x1.2.2.2.2.2.2.2.2.1, ()) v1) fun r6 =>
    k3 (x1.1, r6.2.1, x1.2.1, x1.2.2.1, x1.2.2.2.1, x1.2.2.2.2.1, x1.2.2.2.2.2.1, x1.2.2.2.2.2.2.1, x1.2.2.2.2.2.2.2.1, x1.2.2.2.2.2.2.2.2.1, x1.2.2.2.2.2.2.2.2.2, r6.1.1.1, r6.1.1.2.1, r6.1.2.1.1, r6.1.2.1.2.1, r6.1.2.2.1)
  else
    letv (decide ((Int.tmod ((x1.2.1.getD x1.2.2.2.1.toNat (List.replicate 2 0)).getD (1 : Int).toNat 0) 5) = 1)) fun v3 =>
    bif v3 then
      Option.bind (barrier_Resign ((x1.2.2.2.2.1, x1.2.2.2.2.2.1, ()), (x1.2.2.2.2.2.2.1, x1.2.2.2.2.2.2.2.1, ()), x1.2.2.2.2.2.2.2.2.1, ()) v1) fun r7 =>
      chk (0 ≤ v1 ∧ v1 < (16 : Int)) <|
      k3 (x1.1, r7.2.1, x1.2.1, x1.2.2.1, x1.2.2.2.1, x1.2.2.2.2.1, x1.2.2.2.2.2.1, x1.2.2.2.2.2.2.1, x1.2.2.2.2.2.2.2.1, x1.2.2.2.2.2.2.2.2.1, x1.2.2.2.2.2.2.2.2.2.set v1.toNat false, r7.1.1.1, r7.1.1.2.1, r7.1.2.1.1, r7.1.2.1.2.1, r7.1.2.2.1)
    else
      chk (0 ≤ (1 : Int) ∧ (1 : Int) < (2 : Int)) <|
      chk ((2 : Int) ≠ 0) <|
      Option.bind (barrier_Offer ((x1.2.2.2.2.1, x1.2.2.2.2.2.1, ()), (x1.2.2.2.2.2.2.1, x1.2.2.2.2.2.2.2.1, ()), x1.2.2.2.2.2.2.2.2.1, ()) v1 (decide ((Int.tmod ((x1.2.1.getD x1.2.2.2.1.toNat (List.replicate 2 0)).getD (1 : Int).toNat 0) 2) = 0))) fun r8 =>
      bif decide (r8.2.1 = 0) then
        chk (0 ≤ v1 ∧ v1 < (16 : Int)) <|
        k3 (x1.1, r8.2.1, x1.2.1, x1.2.2.1, x1.2.2.2.1, x1.2.2.2.2.1, x1.2.2.2.2.2.1, x1.2.2.2.2.2.2.1, x1.2.2.2.2.2.2.2.1, x1.2.2.2.2.2.2.2.2.1, x1.2.2.2.2.2.2.2.2.2.set v1.toNat true, r8.1.1.1, r8.1.1.2.1, r8.1.2.1.1, r8.1.2.1.2.1, r8.1.2.2.1)
      else
        k3 (x1.1, r8.2.1, x1.2.1, x1.2.2.1, x1.2.2.2.1, x1.2.2.2.2.1, x1.2.2.2.2.2.1, x1.2.2.2.2.2.2.1, x1.2.2.2.2.2.2.2.1, x1.2.2.2.2.2.2.2.2.1, x1.2.2.2.2.2.2.2.2.2, r8.1.1.1, r8.1.1.2.1, r8.1.2.1.1, r8.1.2.1.2.1, r8.1.2.2.1)
def L22_BarrierEnds_J2 (k2 : (Int × List (List Int) × Int × Int × Bool × Int × List Int × List Int × Int × List Bool) → Option Bool) (x3 : Int × Int × List (List Int) × Int × Int × Bool × Int × List Int × List Int × Int × List Bool × Bool × Int × List Int × List Int × Int) (r10 : ((Bool × Int × Unit) × ((List Int) × (List Int) × Unit) × Int × Unit) × (List Int) × Int × Unit) (p7 : List Bool) : Option Bool :=
  k2 (IntKind.i64.wrap (x3.1 + 1), x3.2.2.1, x3.2.2.2.1, x3.2.2.2.2.1, r10.1.1.1, r10.1.1.2.1, r10.1.2.1.1, r10.1.2.1.2.1, r10.1.2.2.1, p7)
def L22_BarrierEnds_L1 (p8 : Int) (r10 : ((Bool × Int × Unit) × ((List Int) × (List Int) × Unit) × Int × Unit) × (List Int) × Int × Unit) (x3 : Int × Int × List (List Int) × Int × Int × Bool × Int × List Int × List Int × Int × List Bool × Bool × Int × List Int × List Int × Int) (k2 : (Int × List (List Int) × Int × Int × Bool × Int × List Int × List Int × Int × List Bool) → Option Bool) (k4 : (Int × List Bool) → Option Bool) (x4 : Int × List Bool) : Option Bool :=
  bif decide (x4.1 < p8) then
    chk (0 ≤ x4.1 ∧ x4.1 < (r10.2.1.length : Int)) <|
    bif decide ((r10.2.1.getD x4.1.toNat 0) < 0) then
      some false
    else
      bif decide ((r10.2.1.getD x4.1.toNat 0) > 15) then
        some false
      else
        chk (0 ≤ (r10.2.1.getD x4.1.toNat 0) ∧ (r10.2.1.getD x4.1.toNat 0) < (16 : Int)) <|
        bif !(x4.2.getD (r10.2.1.getD x4.1.toNat 0).toNat false) then
          some false
        else
          Option.bind (bitset_Has x3.2.2.2.2.2.2.2.2.2.2.2.2.2.1 (r10.2.1.getD x4.1.toNat 0)) fun r12 =>
          bif !r12 then
            some false
          else
            chk (0 ≤ (r10.2.1.getD x4.1.toNat 0) ∧ (r10.2.1.getD x4.1.toNat 0) < (16 : Int)) <|
            k4 (IntKind.i64.wrap (x4.1 + 1), x4.2.set (r10.2.1.getD x4.1.toNat 0).toNat false)
  else
    L22_BarrierEnds_J2 k2 x3 r10 x4.2
def L22_BarrierEnds_J3 (k2 : (Int × List (List Int) × Int × Int × Bool × Int × List Int × List Int × Int × List Bool) → Option Bool) (x3 : Int × Int × List (List Int) × Int × Int × Bool × Int × List Int × List Int × Int × List Bool × Bool × Int × List Int × List Int × Int) (r14 : ((Bool × Int × Unit) × ((List Int) × (List Int) × Unit) × Int × Unit) × (List Int) × Int × Unit) (p9 : List Bool) : Option Bool :=
  k2 (IntKind.i64.wrap (x3.1 + 1), x3.2.2.1, x3.2.2.2.1, x3.2.2.2.2.1, r14.1.1.1, r14.1.1.2.1, r14.1.2.1.1, r14.1.2.1.2.1, r14.1.2.2.1, p9)
def L22_BarrierEnds_L2 (p10 : Int) (r14 : ((Bool × Int × Unit) × ((List Int) × (List Int) × Unit) × Int × Unit) × (List Int) × Int × Unit) (x3 : Int × Int × List (List Int) × Int × Int × Bool × Int × List Int × List Int × Int × List Bool × Bool × Int × List Int × List Int × Int) (k2 : (Int × List (List Int) × Int × Int × Bool × Int × List Int × List Int × Int × List Bool) → Option Bool) (k5 : (Int × List Bool) → Option Bool) (x5 : Int × List Bool) : Option Bool :=
  bif decide (x5.1 < p10) then
    chk (0 ≤ x5.1 ∧ x5.1 < (r14.2.1.length : Int)) <|
    bif decide ((r14.2.1.getD x5.1.toNat 0) < 0) then
      some false
    else
      bif decide ((r14.2.1.getD x5.1.toNat 0) > 15) then
        some false
      else
        chk (0 ≤ (r14.2.1.getD x5.1.toNat 0) ∧ (r14.2.1.getD x5.1.toNat 0) < (16 : Int)) <|
        bif !(x5.2.getD (r14.2.1.getD x5.1.toNat 0).toNat false) then
          some false
        else
          Option.bind (bitset_Has x3.2.2.2.2.2.2.2.2.2.2.2.2.2.1 (r14.2.1.getD x5.1.toNat 0)) fun r16 =>
          bif !r16 then
            some false
          else
            chk (0 ≤ (r14.2.1.getD x5.1.toNat 0) ∧ (r14.2.1.getD x5.1.toNat 0) < (16 : Int)) <|
            k5 (IntKind.i64.wrap (x5.1 + 1), x5.2.set (r14.2.1.getD x5.1.toNat 0).toNat false)
  else
    L22_BarrierEnds_J3 k2 x3 r14 x5.2
def L22_BarrierEnds_R1 (k2 : (Int × List (List Int) × Int × Int × Bool × Int × List Int × List Int × Int × List Bool) → Option Bool) (x3 : Int × Int × List (List Int) × Int × Int × Bool × Int × List Int × List Int × Int × List Bool × Bool × Int × List Int × List Int × Int) : Option Bool :=
  bif !decide (x3.2.1 = 0) then
    bif !(((x3.2.2.2.2.2.2.2.2.2.2.2.1 == x3.2.2.2.2.2.1) && ((decide (x3.2.2.2.2.2.2.2.2.2.2.2.2.1 = x3.2.2.2.2.2.2.1)) && true)) && (((decide ((x3.2.2.2.2.2.2.2.2.2.2.2.2.2.1 : List Int) = x3.2.2.2.2.2.2.2.1)) && ((decide ((x3.2.2.2.2.2.2.2.2.2.2.2.2.2.2.1 : List Int) = x3.2.2.2.2.2.2.2.2.1)) && true)) && ((decide (x3.2.2.2.2.2.2.2.2.2.2.2.2.2.2.2 = x3.2.2.2.2.2.2.2.2.2.1)) && true))) then
      some false
    else
      Option.bind (barrier_Ready ((x3.2.2.2.2.2.2.2.2.2.2.2.1, x3.2.2.2.2.2.2.2.2.2.2.2.2.1, ()), (x3.2.2.2.2.2.2.2.2.2.2.2.2.2.1, x3.2.2.2.2.2.2.2.2.2.2.2.2.2.2.1, ()), x3.2.2.2.2.2.2.2.2.2.2.2.2.2.2.2, ())) fun r9 =>
      bif !r9 then
        k2 (x3.1, x3.2.2.1, x3.2.2.2.1, x3.2.2.2.2.1, x3.2.2.2.2.2.2.2.2.2.2.2.1, x3.2.2.2.2.2.2.2.2.2.2.2.2.1, x3.2.2.2.2.2.2.2.2.2.2.2.2.2.1, x3.2.2.2.2.2.2.2.2.2.2.2.2.2.2.1, x3.2.2.2.2.2.2.2.2.2.2.2.2.2.2.2, x3.2.2.2.2.2.2.2.2.2.2.1)
      else
        Option.bind (barrier_Fire ((x3.2.2.2.2.2.2.2.2.2.2.2.1, x3.2.2.2.2.2.2.2.2.2.2.2.2.1, ()), (x3.2.2.2.2.2.2.2.2.2.2.2.2.2.1, x3.2.2.2.2.2.2.2.2.2.2.2.2.2.2.1, ()), x3.2.2.2.2.2.2.2.2.2.2.2.2.2.2.2, ())) fun r10 =>
        bif !decide (r10.2.2.1 = 0) then
          some false
        else
          bif decide ((r10.2.1.length : Int) = 0) then
            some false
          else
            Option.bind (bitset_Len x3.2.2.2.2.2.2.2.2.2.2.2.2.2.1) fun r11 =>
            bif !decide ((r10.2.1.length : Int) = r11) then
              some false
            else
              loop (L22_BarrierEnds_L1 (r10.2.1.length : Int) r10 x3 k2) (0, x3.2.2.2.2.2.2.2.2.2.2.1)
  else
    Option.bind (barrier_Ready ((x3.2.2.2.2.2.2.2.2.2.2.2.1, x3.2.2.2.2.2.2.2.2.2.2.2.2.1, ()), (x3.2.2.2.2.2.2.2.2.2.2.2.2.2.1, x3.2.2.2.2.2.2.2.2.2.2.2.2.2.2.1, ()), x3.2.2.2.2.2.2.2.2.2.2.2.2.2.2.2, ())) fun r13 =>
    bif !r13 then
      k2 (x3.1, x3.2.2.1, x3.2.2.2.1, x3.2.2.2.2.1, x3.2.2.2.2.2.2.2.2.2.2.2.1, x3.2.2.2.2.2.2.2.2.2.2.2.2.1, x3.2.2.2.2.2.2.2.2.2.2.2.2.2.1, x3.2.2.2.2.2.2.2.2.2.2.2.2.2.2.1, x3.2.2.2.2.2.2.2.2.2.2.2.2.2.2.2, x3.2.2.2.2.2.2.2.2.2.2.1)
    else
      Option.bind (barrier_Fire ((x3.2.2.2.2.2.2.2.2.2.2.2.1, x3.2.2.2.2.2.2.2.2.2.2.2.2.1, ()), (x3.2.2.2.2.2.2.2.2.2.2.2.2.2.1, x3.2.2.2.2.2.2.2.2.2.2.2.2.2.2.1, ()), x3.2.2.2.2.2.2.2.2.2.2.2.2.2.2.2, ())) fun r14 =>
      bif !decide (r14.2.2.1 = 0) then
        some false
      else
        bif decide ((r14.2.1.length : Int) = 0) then
          some false
        else
          Option.bind (bitset_Len x3.2.2.2.2.2.2.2.2.2.2.2.2.2.1) fun r15 =>
          bif !decide ((r14.2.1.length : Int) = r15) then
            some false
          else
            loop (L22_BarrierEnds_L2 (r14.2.1.length : Int) r14 x3 k2) (0, x3.2.2.2.2.2.2.2.2.2.2.1)
def L22_BarrierEnds_C2 (x1 : Int × List (List Int) × Int × Int × Bool × Int × List Int × List Int × Int × List Bool) (k2 : (Int × List (List Int) × Int × Int × Bool × Int × List Int × List Int × Int × List Bool) → Option Bool) : Option Bool :=
  chk (0 ≤ x1.2.2.2.1 ∧ x1.2.2.2.1 < (x1.2.1.length : Int)) <|
  chk (0 ≤ (0 : Int) ∧ (0 : Int) < (2 : Int)) <|
  chk ((16 : Int) ≠ 0) <|
  letv (IntKind.i64.wrap (Int.tmod ((x1.2.1.getD x1.2.2.2.1.toNat (List.replicate 2 0)).getD (0 : Int).toNat 0) 16)) fun v1 =>
  chk (0 ≤ (1 : Int) ∧ (1 : Int) < (2 : Int)) <|
  chk ((5 : Int) ≠ 0) <|
  cutv 1 (L22_BarrierEnds_C1 x1 v1) (L22_BarrierEnds_R1 k2)
def L22_BarrierEnds_R2 (k1 : (Int × List (List Int) × Int × Int × Bool × Int × List Int × List Int × Int × List Bool) → Option Bool) (x2 : Int × List (List Int) × Int × Int × Bool × Int × List Int × List Int × Int × List Bool) : Option Bool :=
  k1 (x2.1, x2.2.1, x2.2.2.1, IntKind.i64.wrap (x2.2.2.2.1 + 1), x2.2.2.2.2.1, x2.2.2.2.2.2.1, x2.2.2.2.2.2.2.1, x2.2.2.2.2.2.2.2.1, x2.2.2.2.2.2.2.2.2.1, x2.2.2.2.2.2.2.2.2.2)
def L22_BarrierEnds_L3 (k1 : (Int × List (List Int) × Int × Int × Bool × Int × List Int × List Int × Int × List Bool) → Option Bool) (x1 : Int × List (List Int) × Int × Int × Bool × Int × List Int × List Int × Int × List Bool) : Option Bool :=
  bif decide (x1.2.2.2.1 < x1.2.2.1) then
    cutv 2 (L22_BarrierEnds_C2 x1) (L22_BarrierEnds_R2 k1)
  else
    L22_BarrierEnds_J1 x1.1 x1.2.2.2.2.1 x1.2.2.2.2.2.1 x1.2.2.2.2.2.2.1 x1.2.2.2.2.2.2.2.1 x1.2.2.2.2.2.2.2.2.1
def L22_BarrierEnds (a0 : Int) (a1 : List (List Int)) : Option Bool :=
  chk ((8 : Int) ≠ 0) <|
  Option.bind (barrier_New (true, IntKind.i64.wrap (1 + (IntKind.i64.wrap (Int.tmod a0 8))), ())) fun r1 =>
  bif !decide (r1.2.1 = 0) then
    bif decide (r1.2.1 = 0) then
      Option.bind (L22_alive) fun r2 =>
      some r2
    else
      some false
  else
    bif decide ((a1.length : Int) > 60) then
      bif decide (r1.2.1 = 0) then
        Option.bind (L22_alive) fun r3 =>
        some r3
      else
        some false
    else
      loop L22_BarrierEnds_L3 (0, a1, (a1.length : Int), 0, r1.1.1.1, r1.1.1.2.1, r1.1.2.1.1, r1.1.2.1.2.1, r1.1.2.2.1, (List.replicate 16 false))
end Go.Proofs.YtkpobmmabmelfaaDoorV
