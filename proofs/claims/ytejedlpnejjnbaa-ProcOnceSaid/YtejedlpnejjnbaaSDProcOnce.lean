import Derived.Test.YtejedlpnejjnbaaSVcMt
import Derived.Test.YtejedlpnejjnbaaSDL31
import Derived.Test.YtejedlpnejjnbaaSDproc
namespace Go.Proofs.YtejedlpnejjnbaaSV
set_option linter.unusedVariables false
def L31_ProcOnce_J1 : Option Bool :=
  Option.bind (L31_alive) fun r2 =>
  some r2
def L31_ProcOnce_J2 (k1 : ((List (Int × Bool × Int × (Int × Bool × (List Int) × (List Int) × Int × (List Int) × Unit) × Int × Int × Int × (List (Int × Int × Int × Int × Int × Unit)) × Unit)) × Int × List Int × List Int) → Option Bool) (x1 : (List (Int × Bool × Int × (Int × Bool × (List Int) × (List Int) × Int × (List Int) × Unit) × Int × Int × Int × (List (Int × Int × Int × Int × Int × Unit)) × Unit)) × Int × List Int × List Int) (p1 : List (Int × Bool × Int × (Int × Bool × (List Int) × (List Int) × Int × (List Int) × Unit) × Int × Int × Int × (List (Int × Int × Int × Int × Int × Unit)) × Unit)) (p2 : List Int) (p3 : List Int) : Option Bool :=
  k1 (p1, IntKind.i64.wrap (x1.2.1 + 1), p2, p3)
def L31_ProcOnce_J3 (k1 : ((List (Int × Bool × Int × (Int × Bool × (List Int) × (List Int) × Int × (List Int) × Unit) × Int × Int × Int × (List (Int × Int × Int × Int × Int × Unit)) × Unit)) × Int × List Int × List Int) → Option Bool) (x1 : (List (Int × Bool × Int × (Int × Bool × (List Int) × (List Int) × Int × (List Int) × Unit) × Int × Int × Int × (List (Int × Int × Int × Int × Int × Unit)) × Unit)) × Int × List Int × List Int) (p4 : List (Int × Bool × Int × (Int × Bool × (List Int) × (List Int) × Int × (List Int) × Unit) × Int × Int × Int × (List (Int × Int × Int × Int × Int × Unit)) × Unit)) (p5 : List Int) : Option Bool :=
  k1 (p4, IntKind.i64.wrap (x1.2.1 + 1), x1.2.2.1, p5)
def L31_ProcOnce_J4 (k1 : ((List (Int × Bool × Int × (Int × Bool × (List Int) × (List Int) × Int × (List Int) × Unit) × Int × Int × Int × (List (Int × Int × Int × Int × Int × Unit)) × Unit)) × Int × List Int × List Int) → Option Bool) (x1 : (List (Int × Bool × Int × (Int × Bool × (List Int) × (List Int) × Int × (List Int) × Unit) × Int × Int × Int × (List (Int × Int × Int × Int × Int × Unit)) × Unit)) × Int × List Int × List Int) (r3 : (List (Int × Bool × Int × (Int × Bool × (List Int) × (List Int) × Int × (List Int) × Unit) × Int × Int × Int × (List (Int × Int × Int × Int × Int × Unit)) × Unit)) × Int × Int × Unit) (p6 : List Int) (p7 : List Int) : Option Bool :=
  L31_ProcOnce_J2 k1 x1 r3.1 p6 p7
def L31_ProcOnce_L1 (p8 : Int) (p10 : List Int) (r3 : (List (Int × Bool × Int × (Int × Bool × (List Int) × (List Int) × Int × (List Int) × Unit) × Int × Int × Int × (List (Int × Int × Int × Int × Int × Unit)) × Unit)) × Int × Int × Unit) (k1 : ((List (Int × Bool × Int × (Int × Bool × (List Int) × (List Int) × Int × (List Int) × Unit) × Int × Int × Int × (List (Int × Int × Int × Int × Int × Unit)) × Unit)) × Int × List Int × List Int) → Option Bool) (x1 : (List (Int × Bool × Int × (Int × Bool × (List Int) × (List Int) × Int × (List Int) × Unit) × Int × Int × Int × (List (Int × Int × Int × Int × Int × Unit)) × Unit)) × Int × List Int × List Int) (p9 : List Int) (k2 : Int → Option Bool) (x2 : Int) : Option Bool :=
  bif decide (x2 < p8) then
    chk (0 ≤ x2 ∧ x2 < (p10.length : Int)) <|
    Option.bind (proc_Find r3.1 (p10.getD x2.toNat 0)) fun r6 =>
    bif !decide (r6.2.1 = 0) then
      some false
    else
      Option.bind (proc_Handle r3.1 r6.1) fun r7 =>
      bif !decide (r7 = (p10.getD x2.toNat 0)) then
        some false
      else
        k2 (IntKind.i64.wrap (x2 + 1))
  else
    L31_ProcOnce_J4 k1 x1 r3 p9 p10
def L31_ProcOnce_J5 (k1 : ((List (Int × Bool × Int × (Int × Bool × (List Int) × (List Int) × Int × (List Int) × Unit) × Int × Int × Int × (List (Int × Int × Int × Int × Int × Unit)) × Unit)) × Int × List Int × List Int) → Option Bool) (x1 : (List (Int × Bool × Int × (Int × Bool × (List Int) × (List Int) × Int × (List Int) × Unit) × Int × Int × Int × (List (Int × Int × Int × Int × Int × Unit)) × Unit)) × Int × List Int × List Int) (r3 : (List (Int × Bool × Int × (Int × Bool × (List Int) × (List Int) × Int × (List Int) × Unit) × Int × Int × Int × (List (Int × Int × Int × Int × Int × Unit)) × Unit)) × Int × Int × Unit) : Option Bool :=
  L31_ProcOnce_J2 k1 x1 r3.1 x1.2.2.1 x1.2.2.2
def L31_ProcOnce_L2 (p11 : Int) (x1 : (List (Int × Bool × Int × (Int × Bool × (List Int) × (List Int) × Int × (List Int) × Unit) × Int × Int × Int × (List (Int × Int × Int × Int × Int × Unit)) × Unit)) × Int × List Int × List Int) (r3 : (List (Int × Bool × Int × (Int × Bool × (List Int) × (List Int) × Int × (List Int) × Unit) × Int × Int × Int × (List (Int × Int × Int × Int × Int × Unit)) × Unit)) × Int × Int × Unit) (k1 : ((List (Int × Bool × Int × (Int × Bool × (List Int) × (List Int) × Int × (List Int) × Unit) × Int × Int × Int × (List (Int × Int × Int × Int × Int × Unit)) × Unit)) × Int × List Int × List Int) → Option Bool) (k3 : Int → Option Bool) (x3 : Int) : Option Bool :=
  bif decide (x3 < p11) then
    chk (0 ≤ x3 ∧ x3 < (x1.2.2.2.length : Int)) <|
    Option.bind (proc_Find r3.1 (x1.2.2.2.getD x3.toNat 0)) fun r10 =>
    bif !decide (r10.2.1 = 0) then
      some false
    else
      Option.bind (proc_Handle r3.1 r10.1) fun r11 =>
      bif !decide (r11 = (x1.2.2.2.getD x3.toNat 0)) then
        some false
      else
        k3 (IntKind.i64.wrap (x3 + 1))
  else
    L31_ProcOnce_J5 k1 x1 r3
def L31_ProcOnce_J6 (r3 : (List (Int × Bool × Int × (Int × Bool × (List Int) × (List Int) × Int × (List Int) × Unit) × Int × Int × Int × (List (Int × Int × Int × Int × Int × Unit)) × Unit)) × Int × Int × Unit) (x1 : (List (Int × Bool × Int × (Int × Bool × (List Int) × (List Int) × Int × (List Int) × Unit) × Int × Int × Int × (List (Int × Int × Int × Int × Int × Unit)) × Unit)) × Int × List Int × List Int) (k1 : ((List (Int × Bool × Int × (Int × Bool × (List Int) × (List Int) × Int × (List Int) × Unit) × Int × Int × Int × (List (Int × Int × Int × Int × Int × Unit)) × Unit)) × Int × List Int × List Int) → Option Bool) : Option Bool :=
  bif decide (r3.2.2.1 = 0) then
    chk (x1.2.2.1.length + ([r3.2.1] : List Int).length ≤ 4294967296) <|
    chk (x1.2.2.2.length + ([r3.2.1] : List Int).length ≤ 4294967296) <|
    Option.bind (proc_Fine r3.1) fun r4 =>
    bif !r4 then
      some false
    else
      Option.bind (proc_Handles r3.1) fun r5 =>
      bif !decide ((r5.length : Int) = ((x1.2.2.2 ++ [r3.2.1]).length : Int)) then
        some false
      else
        loop (L31_ProcOnce_L1 ((x1.2.2.2 ++ [r3.2.1]).length : Int) (x1.2.2.2 ++ [r3.2.1]) r3 k1 x1 (x1.2.2.1 ++ [r3.2.1])) 0
  else
    Option.bind (proc_Fine r3.1) fun r8 =>
    bif !r8 then
      some false
    else
      Option.bind (proc_Handles r3.1) fun r9 =>
      bif !decide ((r9.length : Int) = (x1.2.2.2.length : Int)) then
        some false
      else
        loop (L31_ProcOnce_L2 (x1.2.2.2.length : Int) x1 r3 k1) 0
def L31_ProcOnce_L3 (p12 : Int) (x1 : (List (Int × Bool × Int × (Int × Bool × (List Int) × (List Int) × Int × (List Int) × Unit) × Int × Int × Int × (List (Int × Int × Int × Int × Int × Unit)) × Unit)) × Int × List Int × List Int) (r3 : (List (Int × Bool × Int × (Int × Bool × (List Int) × (List Int) × Int × (List Int) × Unit) × Int × Int × Int × (List (Int × Int × Int × Int × Int × Unit)) × Unit)) × Int × Int × Unit) (k1 : ((List (Int × Bool × Int × (Int × Bool × (List Int) × (List Int) × Int × (List Int) × Unit) × Int × Int × Int × (List (Int × Int × Int × Int × Int × Unit)) × Unit)) × Int × List Int × List Int) → Option Bool) (k4 : Int → Option Bool) (x4 : Int) : Option Bool :=
  bif decide (x4 < p12) then
    chk (0 ≤ x4 ∧ x4 < (x1.2.2.1.length : Int)) <|
    bif decide (r3.2.2.1 = 0) then
      bif decide ((x1.2.2.1.getD x4.toNat 0) = r3.2.1) then
        some false
      else
        k4 (IntKind.i64.wrap (x4 + 1))
    else
      k4 (IntKind.i64.wrap (x4 + 1))
  else
    L31_ProcOnce_J6 r3 x1 k1
def L31_ProcOnce_J7 (k1 : ((List (Int × Bool × Int × (Int × Bool × (List Int) × (List Int) × Int × (List Int) × Unit) × Int × Int × Int × (List (Int × Int × Int × Int × Int × Unit)) × Unit)) × Int × List Int × List Int) → Option Bool) (x1 : (List (Int × Bool × Int × (Int × Bool × (List Int) × (List Int) × Int × (List Int) × Unit) × Int × Int × Int × (List (Int × Int × Int × Int × Int × Unit)) × Unit)) × Int × List Int × List Int) (r14 : (List (Int × Bool × Int × (Int × Bool × (List Int) × (List Int) × Int × (List Int) × Unit) × Int × Int × Int × (List (Int × Int × Int × Int × Int × Unit)) × Unit)) × Int × Int × Unit) (p13 : List Int) : Option Bool :=
  L31_ProcOnce_J3 k1 x1 r14.1 p13
def L31_ProcOnce_L4 (p14 : Int) (p13 : List Int) (r14 : (List (Int × Bool × Int × (Int × Bool × (List Int) × (List Int) × Int × (List Int) × Unit) × Int × Int × Int × (List (Int × Int × Int × Int × Int × Unit)) × Unit)) × Int × Int × Unit) (k1 : ((List (Int × Bool × Int × (Int × Bool × (List Int) × (List Int) × Int × (List Int) × Unit) × Int × Int × Int × (List (Int × Int × Int × Int × Int × Unit)) × Unit)) × Int × List Int × List Int) → Option Bool) (x1 : (List (Int × Bool × Int × (Int × Bool × (List Int) × (List Int) × Int × (List Int) × Unit) × Int × Int × Int × (List (Int × Int × Int × Int × Int × Unit)) × Unit)) × Int × List Int × List Int) (k5 : Int → Option Bool) (x5 : Int) : Option Bool :=
  bif decide (x5 < p14) then
    chk (0 ≤ x5 ∧ x5 < (p13.length : Int)) <|
    Option.bind (proc_Find r14.1 (p13.getD x5.toNat 0)) fun r17 =>
    bif !decide (r17.2.1 = 0) then
      some false
    else
      Option.bind (proc_Handle r14.1 r17.1) fun r18 =>
      bif !decide (r18 = (p13.getD x5.toNat 0)) then
        some false
      else
        k5 (IntKind.i64.wrap (x5 + 1))
  else
    L31_ProcOnce_J7 k1 x1 r14 p13
def L31_ProcOnce_J8 (r14 : (List (Int × Bool × Int × (Int × Bool × (List Int) × (List Int) × Int × (List Int) × Unit) × Int × Int × Int × (List (Int × Int × Int × Int × Int × Unit)) × Unit)) × Int × Int × Unit) (k1 : ((List (Int × Bool × Int × (Int × Bool × (List Int) × (List Int) × Int × (List Int) × Unit) × Int × Int × Int × (List (Int × Int × Int × Int × Int × Unit)) × Unit)) × Int × List Int × List Int) → Option Bool) (x1 : (List (Int × Bool × Int × (Int × Bool × (List Int) × (List Int) × Int × (List Int) × Unit) × Int × Int × Int × (List (Int × Int × Int × Int × Int × Unit)) × Unit)) × Int × List Int × List Int) (p13 : List Int) : Option Bool :=
  Option.bind (proc_Fine r14.1) fun r15 =>
  bif !r15 then
    some false
  else
    Option.bind (proc_Handles r14.1) fun r16 =>
    bif !decide ((r16.length : Int) = (p13.length : Int)) then
      some false
    else
      loop (L31_ProcOnce_L4 (p13.length : Int) p13 r14 k1 x1) 0
def L31_ProcOnce_L5 (p15 : Int) (x1 : (List (Int × Bool × Int × (Int × Bool × (List Int) × (List Int) × Int × (List Int) × Unit) × Int × Int × Int × (List (Int × Int × Int × Int × Int × Unit)) × Unit)) × Int × List Int × List Int) (v1 : Int) (r14 : (List (Int × Bool × Int × (Int × Bool × (List Int) × (List Int) × Int × (List Int) × Unit) × Int × Int × Int × (List (Int × Int × Int × Int × Int × Unit)) × Unit)) × Int × Int × Unit) (k1 : ((List (Int × Bool × Int × (Int × Bool × (List Int) × (List Int) × Int × (List Int) × Unit) × Int × Int × Int × (List (Int × Int × Int × Int × Int × Unit)) × Unit)) × Int × List Int × List Int) → Option Bool) (k6 : (Int × List Int) → Option Bool) (x6 : Int × List Int) : Option Bool :=
  bif decide (x6.1 < p15) then
    chk (0 ≤ x6.1 ∧ x6.1 < (x1.2.2.2.length : Int)) <|
    bif !decide (x6.1 = v1) then
      chk (x6.2.length + ([x1.2.2.2.getD x6.1.toNat 0] : List Int).length ≤ 4294967296) <|
      k6 (IntKind.i64.wrap (x6.1 + 1), x6.2 ++ [x1.2.2.2.getD x6.1.toNat 0])
    else
      k6 (IntKind.i64.wrap (x6.1 + 1), x6.2)
  else
    L31_ProcOnce_J8 r14 k1 x1 x6.2
def L31_ProcOnce_J9 (k1 : ((List (Int × Bool × Int × (Int × Bool × (List Int) × (List Int) × Int × (List Int) × Unit) × Int × Int × Int × (List (Int × Int × Int × Int × Int × Unit)) × Unit)) × Int × List Int × List Int) → Option Bool) (x1 : (List (Int × Bool × Int × (Int × Bool × (List Int) × (List Int) × Int × (List Int) × Unit) × Int × Int × Int × (List (Int × Int × Int × Int × Int × Unit)) × Unit)) × Int × List Int × List Int) : Option Bool :=
  L31_ProcOnce_J2 k1 x1 x1.1 x1.2.2.1 x1.2.2.2
def L31_ProcOnce_L6 (p16 : Int) (x1 : (List (Int × Bool × Int × (Int × Bool × (List Int) × (List Int) × Int × (List Int) × Unit) × Int × Int × Int × (List (Int × Int × Int × Int × Int × Unit)) × Unit)) × Int × List Int × List Int) (k1 : ((List (Int × Bool × Int × (Int × Bool × (List Int) × (List Int) × Int × (List Int) × Unit) × Int × Int × Int × (List (Int × Int × Int × Int × Int × Unit)) × Unit)) × Int × List Int × List Int) → Option Bool) (k7 : Int → Option Bool) (x7 : Int) : Option Bool :=
  bif decide (x7 < p16) then
    chk (0 ≤ x7 ∧ x7 < (x1.2.2.2.length : Int)) <|
    Option.bind (proc_Find x1.1 (x1.2.2.2.getD x7.toNat 0)) fun r21 =>
    bif !decide (r21.2.1 = 0) then
      some false
    else
      Option.bind (proc_Handle x1.1 r21.1) fun r22 =>
      bif !decide (r22 = (x1.2.2.2.getD x7.toNat 0)) then
        some false
      else
        k7 (IntKind.i64.wrap (x7 + 1))
  else
    L31_ProcOnce_J9 k1 x1
def L31_ProcOnce_L7 (a0 : List (List Int)) (k1 : ((List (Int × Bool × Int × (Int × Bool × (List Int) × (List Int) × Int × (List Int) × Unit) × Int × Int × Int × (List (Int × Int × Int × Int × Int × Unit)) × Unit)) × Int × List Int × List Int) → Option Bool) (x1 : (List (Int × Bool × Int × (Int × Bool × (List Int) × (List Int) × Int × (List Int) × Unit) × Int × Int × Int × (List (Int × Int × Int × Int × Int × Unit)) × Unit)) × Int × List Int × List Int) : Option Bool :=
  bif decide (x1.2.1 < (a0.length : Int)) then
    bif decide (x1.2.1 < 80) then
      chk (0 ≤ x1.2.1 ∧ x1.2.1 < (a0.length : Int)) <|
      chk (0 ≤ (0 : Int) ∧ (0 : Int) < (2 : Int)) <|
      chk ((2 : Int) ≠ 0) <|
      bif decide ((Int.tmod ((a0.getD x1.2.1.toNat (List.replicate 2 0)).getD (0 : Int).toNat 0) 2) = 0) then
        Option.bind (proc_Spawn x1.1 0 x1.2.1) fun r3 =>
        bif !((decide (r3.2.2.1 = 0)) == (decide ((x1.2.2.2.length : Int) < 16))) then
          some false
        else
          loop (L31_ProcOnce_L3 (x1.2.2.1.length : Int) x1 r3 k1) 0
      else
        bif decide ((x1.2.2.2.length : Int) > 0) then
          chk (0 ≤ x1.2.1 ∧ x1.2.1 < (a0.length : Int)) <|
          chk (0 ≤ (1 : Int) ∧ (1 : Int) < (2 : Int)) <|
          chk ((x1.2.2.2.length : Int) ≠ 0) <|
          letv (Int.tmod (IntKind.i64.wrap ((a0.getD x1.2.1.toNat (List.replicate 2 0)).getD (1 : Int).toNat 0)) (x1.2.2.2.length : Int)) fun v1 =>
          chk (0 ≤ v1 ∧ v1 < (x1.2.2.2.length : Int)) <|
          Option.bind (proc_Find x1.1 (x1.2.2.2.getD v1.toNat 0)) fun r12 =>
          Option.bind (proc_End x1.1 r12.1 x1.2.1) fun r13 =>
          chk (0 ≤ v1 ∧ v1 < (x1.2.2.2.length : Int)) <|
          Option.bind (proc_Reap r13.1 (x1.2.2.2.getD v1.toNat 0)) fun r14 =>
          bif !decide (r12.2.1 = 0) then
            some false
          else
            bif !decide (r13.2.1 = 0) then
              some false
            else
              bif !decide (r14.2.2.1 = 0) then
                some false
              else
                bif !decide (r14.2.1 = x1.2.1) then
                  some false
                else
                  loop (L31_ProcOnce_L5 (x1.2.2.2.length : Int) x1 v1 r14 k1) (0, [])
        else
          Option.bind (proc_Fine x1.1) fun r19 =>
          bif !r19 then
            some false
          else
            Option.bind (proc_Handles x1.1) fun r20 =>
            bif !decide ((r20.length : Int) = (x1.2.2.2.length : Int)) then
              some false
            else
              loop (L31_ProcOnce_L6 (x1.2.2.2.length : Int) x1 k1) 0
    else
      L31_ProcOnce_J1
  else
    L31_ProcOnce_J1
def L31_ProcOnce (a0 : List (List Int)) : Option Bool :=
  Option.bind (proc_New) fun r1 =>
  loop (L31_ProcOnce_L7 a0) (r1, 0, [], [])
end Go.Proofs.YtejedlpnejjnbaaSV
