import Derived.Test.YtejedlpnejjnbaaDoorVcG1
import Derived.Test.YtejedlpnejjnbaaDoorDL21
import Derived.Test.YtejedlpnejjnbaaDoorDbitset
import Derived.Test.YtejedlpnejjnbaaDoorDroll
namespace Go.Proofs.YtejedlpnejjnbaaDoorV
set_option linter.unusedVariables false
def L21_RollCounts_J1 (p1 : List Int) (p2 : List Int) : Option Bool :=
  Option.bind (roll_Fine (p1, p2, ())) fun r2 =>
  bif r2 then
    Option.bind (L21_alive) fun r3 =>
    some r3
  else
    some false
def L21_RollCounts_C1 (x1 : List (List Int) × Int × Int × List Int × List Int × List Bool × List Bool) (v1 : Int) (k3 : (List (List Int) × Int × Int × List Int × List Int × List Bool × List Bool) → Option Bool) : Option Bool :=
  letv (decide ((Int.tmod ((x1.1.getD x1.2.2.1.toNat (List.replicate 2 0)).getD (1 : Int).toNat 0) 5) = 0)) fun v2 =>
  bif v2 then
    Option.bind (roll_Enrol (x1.2.2.2.1, x1.2.2.2.2.1, ()) v1) fun r4 =>
    chk (0 ≤ v1 ∧ v1 < (16 : Int)) <|
    bif !((decide (r4.2.1 = 0)) == (!(x1.2.2.2.2.2.1.getD v1.toNat false))) then
      some false
    else
      chk (0 ≤ v1 ∧ v1 < (16 : Int)) <|
      k3 (x1.1, x1.2.1, x1.2.2.1, r4.1.1, r4.1.2.1, x1.2.2.2.2.2.1.set v1.toNat true, x1.2.2.2.2.2.2)
  else
    letv (decide ((Int.tmod ((x1.1.getD x1.2.2.1.toNat (List.replicate 2 0)).getD (1 : Int).toNat 0) 5) = 1)) fun v3 =>
    bif v3 then
      Option.bind (roll_Resign (x1.2.2.2.1, x1.2.2.2.2.1, ()) v1) fun r5 =>
      chk (0 ≤ v1 ∧ v1 < (16 : Int)) <|
      bif !((decide (r5.2.1 = 0)) == (x1.2.2.2.2.2.1.getD v1.toNat false)) then
        some false
      else
        chk (0 ≤ v1 ∧ v1 < (16 : Int)) <|
        chk (0 ≤ v1 ∧ v1 < (16 : Int)) <|
        k3 (x1.1, x1.2.1, x1.2.2.1, r5.1.1, r5.1.2.1, x1.2.2.2.2.2.1.set v1.toNat false, x1.2.2.2.2.2.2.set v1.toNat false)
    else
      letv (decide ((Int.tmod ((x1.1.getD x1.2.2.1.toNat (List.replicate 2 0)).getD (1 : Int).toNat 0) 5) = 2)) fun v4 =>
      bif v4 then
        Option.bind (roll_Offer (x1.2.2.2.1, x1.2.2.2.2.1, ()) v1) fun r6 =>
        chk (0 ≤ v1 ∧ v1 < (16 : Int)) <|
        bif x1.2.2.2.2.2.1.getD v1.toNat false then
          chk (0 ≤ v1 ∧ v1 < (16 : Int)) <|
          bif !((decide (r6.2.1 = 0)) == (!(x1.2.2.2.2.2.2.getD v1.toNat false))) then
            some false
          else
            chk (0 ≤ v1 ∧ v1 < (16 : Int)) <|
            chk (0 ≤ v1 ∧ v1 < (16 : Int)) <|
            k3 (x1.1, x1.2.1, x1.2.2.1, r6.1.1, r6.1.2.1, x1.2.2.2.2.2.1, x1.2.2.2.2.2.2.set v1.toNat (x1.2.2.2.2.2.1.getD v1.toNat false))
        else
          bif !((decide (r6.2.1 = 0)) == false) then
            some false
          else
            chk (0 ≤ v1 ∧ v1 < (16 : Int)) <|
            chk (0 ≤ v1 ∧ v1 < (16 : Int)) <|
            k3 (x1.1, x1.2.1, x1.2.2.1, r6.1.1, r6.1.2.1, x1.2.2.2.2.2.1, x1.2.2.2.2.2.2.set v1.toNat (x1.2.2.2.2.2.1.getD v1.toNat false))
      else
        letv (decide ((Int.tmod ((x1.1.getD x1.2.2.1.toNat (List.replicate 2 0)).getD (1 : Int).toNat 0) 5) = 3)) fun v5 =>
        bif v5 then
          Option.bind (roll_Offer (x1.2.2.2.1, x1.2.2.2.2.1, ()) v1) fun r7 =>
          chk (0 ≤ v1 ∧ v1 < (16 : Int)) <|
          bif x1.2.2.2.2.2.1.getD v1.toNat false then
            chk (0 ≤ v1 ∧ v1 < (16 : Int)) <|
            bif !((decide (r7.2.1 = 0)) == (!(x1.2.2.2.2.2.2.getD v1.toNat false))) then
              some false
            else
              chk (0 ≤ v1 ∧ v1 < (16 : Int)) <|
              chk (0 ≤ v1 ∧ v1 < (16 : Int)) <|
              k3 (x1.1, x1.2.1, x1.2.2.1, r7.1.1, r7.1.2.1, x1.2.2.2.2.2.1, x1.2.2.2.2.2.2.set v1.toNat (x1.2.2.2.2.2.1.getD v1.toNat false))
          else
            bif !((decide (r7.2.1 = 0)) == false) then
              some false
            else
              chk (0 ≤ v1 ∧ v1 < (16 : Int)) <|
              chk (0 ≤ v1 ∧ v1 < (16 : Int)) <|
              k3 (x1.1, x1.2.1, x1.2.2.1, r7.1.1, r7.1.2.1, x1.2.2.2.2.2.1, x1.2.2.2.2.2.2.set v1.toNat (x1.2.2.2.2.2.1.getD v1.toNat false))
        else
          Option.bind (roll_Withdraw (x1.2.2.2.1, x1.2.2.2.2.1, ()) v1) fun r8 =>
          chk (0 ≤ v1 ∧ v1 < (16 : Int)) <|
          bif !(r8.2.1 == (x1.2.2.2.2.2.2.getD v1.toNat false)) then
            some false
          else
            chk (0 ≤ v1 ∧ v1 < (16 : Int)) <|
            k3 (x1.1, x1.2.1, x1.2.2.1, r8.1.1, r8.1.2.1, x1.2.2.2.2.2.1, x1.2.2.2.2.2.2.set v1.toNat false)
def L21_RollCounts_J2 (k2 : (List (List Int) × Int × Int × List Int × List Int × List Bool × List Bool) → Option Bool) (p3 : Bool) (p4 : Bool) (p5 : List (List Int)) (p6 : Int) (p7 : Int) (p8 : List Int) (p9 : List Int) (p10 : List Bool) (p11 : List Bool) : Option Bool :=
  Option.bind (roll_Full (p8, p9, ())) fun r9 =>
  bif p3 then
    bif !(r9 == p4) then
      some false
    else
      Option.bind (roll_Full (p8, p9, ())) fun r10 =>
      bif r10 then
        Option.bind (roll_Fire (p8, p9, ())) fun r11 =>
        bif !decide (r11.2.2.1 = 0) then
          some false
        else
          bif !(decide ((r11.1.1 : List Int) = p8)) then
            some false
          else
            Option.bind (bitset_Len p8) fun r12 =>
            bif !decide ((r11.2.1.length : Int) = r12) then
              some false
            else
              k2 (p5, p6, p7, r11.1.1, r11.1.2.1, p10, (List.replicate 16 false))
      else
        k2 (p5, p6, p7, p8, p9, p10, p11)
  else
    bif !(r9 == false) then
      some false
    else
      Option.bind (roll_Full (p8, p9, ())) fun r13 =>
      bif r13 then
        Option.bind (roll_Fire (p8, p9, ())) fun r14 =>
        bif !decide (r14.2.2.1 = 0) then
          some false
        else
          bif !(decide ((r14.1.1 : List Int) = p8)) then
            some false
          else
            Option.bind (bitset_Len p8) fun r15 =>
            bif !decide ((r14.2.1.length : Int) = r15) then
              some false
            else
              k2 (p5, p6, p7, r14.1.1, r14.1.2.1, p10, (List.replicate 16 false))
      else
        k2 (p5, p6, p7, p8, p9, p10, p11)
def L21_RollCounts_C2 (x4 : Bool × Bool × List (List Int) × Int × Int × Int × List Int × List Int × List Bool × List Bool) (k5 : (Bool × Bool × List (List Int) × Int × Int × Int × List Int × List Int × List Bool × List Bool) → Option Bool) : Option Bool :=
  bif x4.1 then
    bif x4.2.1 then
      chk (0 ≤ x4.2.2.2.2.2.1 ∧ x4.2.2.2.2.2.1 < (16 : Int)) <|
      chk (0 ≤ x4.2.2.2.2.2.1 ∧ x4.2.2.2.2.2.1 < (16 : Int)) <|
      letv ((x4.2.2.2.2.2.2.2.2.2.getD x4.2.2.2.2.2.1.toNat false) == (x4.2.2.2.2.2.2.2.2.1.getD x4.2.2.2.2.2.1.toNat false)) fun v6 =>
      k5 (true, v6, x4.2.2.1, x4.2.2.2.1, x4.2.2.2.2.1, x4.2.2.2.2.2.1, x4.2.2.2.2.2.2.1, x4.2.2.2.2.2.2.2.1, x4.2.2.2.2.2.2.2.2.1, x4.2.2.2.2.2.2.2.2.2)
    else
      k5 (true, false, x4.2.2.1, x4.2.2.2.1, x4.2.2.2.2.1, x4.2.2.2.2.2.1, x4.2.2.2.2.2.2.1, x4.2.2.2.2.2.2.2.1, x4.2.2.2.2.2.2.2.2.1, x4.2.2.2.2.2.2.2.2.2)
  else
    chk (0 ≤ x4.2.2.2.2.2.1 ∧ x4.2.2.2.2.2.1 < (16 : Int)) <|
    letv (x4.2.2.2.2.2.2.2.2.1.getD x4.2.2.2.2.2.1.toNat false) fun v7 =>
    bif x4.2.1 then
      chk (0 ≤ x4.2.2.2.2.2.1 ∧ x4.2.2.2.2.2.1 < (16 : Int)) <|
      chk (0 ≤ x4.2.2.2.2.2.1 ∧ x4.2.2.2.2.2.1 < (16 : Int)) <|
      letv ((x4.2.2.2.2.2.2.2.2.2.getD x4.2.2.2.2.2.1.toNat false) == (x4.2.2.2.2.2.2.2.2.1.getD x4.2.2.2.2.2.1.toNat false)) fun v8 =>
      k5 (v7, v8, x4.2.2.1, x4.2.2.2.1, x4.2.2.2.2.1, x4.2.2.2.2.2.1, x4.2.2.2.2.2.2.1, x4.2.2.2.2.2.2.2.1, x4.2.2.2.2.2.2.2.2.1, x4.2.2.2.2.2.2.2.2.2)
    else
      k5 (v7, false, x4.2.2.1, x4.2.2.2.1, x4.2.2.2.2.1, x4.2.2.2.2.2.1, x4.2.2.2.2.2.2.1, x4.2.2.2.2.2.2.2.1, x4.2.2.2.2.2.2.2.2.1, x4.2.2.2.2.2.2.2.2.2)
def L21_RollCounts_R2 (k4 : (Bool × Bool × List (List Int) × Int × Int × Int × List Int × List Int × List Bool × List Bool) → Option Bool) (x5 : Bool × Bool × List (List Int) × Int × Int × Int × List Int × List Int × List Bool × List Bool) : Option Bool :=
  k4 (x5.1, x5.2.1, x5.2.2.1, x5.2.2.2.1, x5.2.2.2.2.1, IntKind.i64.wrap (x5.2.2.2.2.2.1 + 1), x5.2.2.2.2.2.2.1, x5.2.2.2.2.2.2.2.1, x5.2.2.2.2.2.2.2.2.1, x5.2.2.2.2.2.2.2.2.2)
def L21_RollCounts_L1 (k2 : (List (List Int) × Int × Int × List Int × List Int × List Bool × List Bool) → Option Bool) (k4 : (Bool × Bool × List (List Int) × Int × Int × Int × List Int × List Int × List Bool × List Bool) → Option Bool) (x4 : Bool × Bool × List (List Int) × Int × Int × Int × List Int × List Int × List Bool × List Bool) : Option Bool :=
  bif decide (x4.2.2.2.2.2.1 < 16) then
    cutv 2 (L21_RollCounts_C2 x4) (L21_RollCounts_R2 k4)
  else
    L21_RollCounts_J2 k2 x4.1 x4.2.1 x4.2.2.1 x4.2.2.2.1 x4.2.2.2.2.1 x4.2.2.2.2.2.2.1 x4.2.2.2.2.2.2.2.1 x4.2.2.2.2.2.2.2.2.1 x4.2.2.2.2.2.2.2.2.2
def L21_RollCounts_R1 (k2 : (List (List Int) × Int × Int × List Int × List Int × List Bool × List Bool) → Option Bool) (x3 : List (List Int) × Int × Int × List Int × List Int × List Bool × List Bool) : Option Bool :=
  loop (L21_RollCounts_L1 k2) (false, true, x3.1, x3.2.1, x3.2.2.1, 0, x3.2.2.2.1, x3.2.2.2.2.1, x3.2.2.2.2.2.1, x3.2.2.2.2.2.2)
def L21_RollCounts_C3 (x1 : List (List Int) × Int × Int × List Int × List Int × List Bool × List Bool) (k2 : (List (List Int) × Int × Int × List Int × List Int × List Bool × List Bool) → Option Bool) : Option Bool :=
  chk (0 ≤ x1.2.2.1 ∧ x1.2.2.1 < (x1.1.length : Int)) <|
  chk (0 ≤ (0 : Int) ∧ (0 : Int) < (2 : Int)) <|
  chk ((16 : Int) ≠ 0) <|
  letv (IntKind.i64.wrap (Int.tmod ((x1.1.getD x1.2.2.1.toNat (List.replicate 2 0)).getD (0 : Int).toNat 0) 16)) fun v1 =>
  chk (0 ≤ (1 : Int) ∧ (1 : Int) < (2 : Int)) <|
  chk ((5 : Int) ≠ 0) <|
  cutv 1 (L21_RollCounts_C1 x1 v1) (L21_RollCounts_R1 k2)
def L21_RollCounts_R3 (k1 : (List (List Int) × Int × Int × List Int × List Int × List Bool × List Bool) → Option Bool) (x2 : List (List Int) × Int × Int × List Int × List Int × List Bool × List Bool) : Option Bool :=
  k1 (x2.1, x2.2.1, IntKind.i64.wrap (x2.2.2.1 + 1), x2.2.2.2.1, x2.2.2.2.2.1, x2.2.2.2.2.2.1, x2.2.2.2.2.2.2)
def L21_RollCounts_L2 (k1 : (List (List Int) × Int × Int × List Int × List Int × List Bool × List Bool) → Option Bool) (x1 : List (List Int) × Int × Int × List Int × List Int × List Bool × List Bool) : Option Bool :=
  bif decide (x1.2.2.1 < x1.2.1) then
    cutv 3 (L21_RollCounts_C3 x1) (L21_RollCounts_R3 k1)
  else
    L21_RollCounts_J1 x1.2.2.2.1 x1.2.2.2.2.1
def L21_RollCounts (a0 : List (List Int)) : Option Bool :=
  bif decide ((a0.length : Int) > 60) then
    Option.bind (L21_alive) fun r1 =>
    some r1
  else
    loop L21_RollCounts_L2 (a0, (a0.length : Int), 0, (List.replicate 4 0), (List.replicate 4 0), (List.replicate 16 false), (List.replicate 16 false))
end Go.Proofs.YtejedlpnejjnbaaDoorV
