import Derived.Test.YtoihmfgkmndjfaaVcMt
import Derived.Test.YtoihmfgkmndjfaaDL07
import Derived.Test.YtoihmfgkmndjfaaDR02
import Derived.Test.YtoihmfgkmndjfaaDR07
import Derived.Test.YtoihmfgkmndjfaaDrings
namespace Go.Proofs.YtoihmfgkmndjfaaV
set_option linter.unusedVariables false
def L07_RingsPlay_J1 : Option Bool :=
  Option.bind (L07_alive) fun r7 =>
  some r7
def L07_RingsPlay_C1 (r9 : (Bool × (List Int) × Int × Int × Unit) × (Int × Int × Unit)) (r10 : Int × Int × Unit) (x1 : Int × (List (Int × Int × Unit)) × Int × Int × Int × List Int × List Int × Bool × Int × Int) (k2 : (Int × (List (Int × Int × Unit)) × Int × Int × Bool × Int × List Int × Bool × Int × Int) → Option Bool) : Option Bool :=
  bif !decide (r9.2.1 = r10.1) then
    k2 (x1.1, x1.2.1, x1.2.2.1, x1.2.2.2.1, true, x1.2.2.2.2.1, r9.1.2.1, r9.1.1, r9.1.2.2.1, r9.1.2.2.2.1)
  else
    bif !decide (r9.2.2.1 = r10.2.1) then
      k2 (x1.1, x1.2.1, x1.2.2.1, x1.2.2.2.1, true, x1.2.2.2.2.1, r9.1.2.1, r9.1.1, r9.1.2.2.1, r9.1.2.2.2.1)
    else
      Option.bind (rings_Ring_int_List r9.1) fun r11 =>
      Option.bind (R02_Same r11.2.1 []) fun r12 =>
      bif !r12 then
        k2 (x1.1, x1.2.1, x1.2.2.1, x1.2.2.2.1, true, x1.2.2.2.2.1, r11.1.2.1, r11.1.1, r11.1.2.2.1, r11.1.2.2.2.1)
      else
        Option.bind (rings_Ring_int_Len r11.1) fun r13 =>
        bif !decide (r13.2.1 = 0) then
          k2 (x1.1, x1.2.1, x1.2.2.1, x1.2.2.2.1, true, x1.2.2.2.2.1, r13.1.2.1, r13.1.1, r13.1.2.2.1, r13.1.2.2.2.1)
        else
          Option.bind (rings_Ring_int_Room r13.1) fun r14 =>
          k2 (x1.1, x1.2.1, x1.2.2.1, x1.2.2.2.1, !decide (r14.2.1 = x1.1), x1.2.2.2.2.1, r14.1.2.1, r14.1.1, r14.1.2.2.1, r14.1.2.2.2.1)
def L07_RingsPlay_R1 (k1 : (Int × (List (Int × Int × Unit)) × Int × Int × Int × List Int × List Int × Bool × Int × Int) → Option Bool) (x2 : Int × (List (Int × Int × Unit)) × Int × Int × Bool × Int × List Int × Bool × Int × Int) : Option Bool :=
  bif x2.2.2.2.2.1 then
    some false
  else
    k1 (x2.1, x2.2.1, x2.2.2.1, IntKind.i64.wrap (x2.2.2.2.1 + 1), x2.2.2.2.2.2.1, [], x2.2.2.2.2.2.2.1, x2.2.2.2.2.2.2.2.1, x2.2.2.2.2.2.2.2.2.1, x2.2.2.2.2.2.2.2.2.2)
def L07_RingsPlay_C2 (r17 : (Bool × (List Int) × Int × Int × Unit) × (Int × Int × Unit)) (r18 : Int × Int × Unit) (x1 : Int × (List (Int × Int × Unit)) × Int × Int × Int × List Int × List Int × Bool × Int × Int) (r16 : (Int × (List Int) × Unit) × Int × Int × Unit) (k3 : (Int × (List (Int × Int × Unit)) × Int × Int × Bool × Int × List Int × List Int × Bool × Int × Int) → Option Bool) : Option Bool :=
  bif !decide (r17.2.1 = r18.1) then
    k3 (x1.1, x1.2.1, x1.2.2.1, x1.2.2.2.1, true, r16.1.1, r16.1.2.1, r17.1.2.1, r17.1.1, r17.1.2.2.1, r17.1.2.2.2.1)
  else
    bif !decide (r17.2.2.1 = r18.2.1) then
      k3 (x1.1, x1.2.1, x1.2.2.1, x1.2.2.2.1, true, r16.1.1, r16.1.2.1, r17.1.2.1, r17.1.1, r17.1.2.2.1, r17.1.2.2.2.1)
    else
      Option.bind (rings_Ring_int_List r17.1) fun r19 =>
      Option.bind (R02_Same r19.2.1 r16.1.2.1) fun r20 =>
      bif !r20 then
        k3 (x1.1, x1.2.1, x1.2.2.1, x1.2.2.2.1, true, r16.1.1, r16.1.2.1, r19.1.2.1, r19.1.1, r19.1.2.2.1, r19.1.2.2.2.1)
      else
        Option.bind (rings_Ring_int_Len r19.1) fun r21 =>
        bif !decide (r21.2.1 = (r16.1.2.1.length : Int)) then
          k3 (x1.1, x1.2.1, x1.2.2.1, x1.2.2.2.1, true, r16.1.1, r16.1.2.1, r21.1.2.1, r21.1.1, r21.1.2.2.1, r21.1.2.2.2.1)
        else
          Option.bind (rings_Ring_int_Room r21.1) fun r22 =>
          k3 (x1.1, x1.2.1, x1.2.2.1, x1.2.2.2.1, !decide (r22.2.1 = x1.1), r16.1.1, r16.1.2.1, r22.1.2.1, r22.1.1, r22.1.2.2.1, r22.1.2.2.2.1)
def L07_RingsPlay_R2 (k1 : (Int × (List (Int × Int × Unit)) × Int × Int × Int × List Int × List Int × Bool × Int × Int) → Option Bool) (x3 : Int × (List (Int × Int × Unit)) × Int × Int × Bool × Int × List Int × List Int × Bool × Int × Int) : Option Bool :=
  bif x3.2.2.2.2.1 then
    some false
  else
    k1 (x3.1, x3.2.1, x3.2.2.1, IntKind.i64.wrap (x3.2.2.2.1 + 1), x3.2.2.2.2.2.1, x3.2.2.2.2.2.2.1, x3.2.2.2.2.2.2.2.1, x3.2.2.2.2.2.2.2.2.1, x3.2.2.2.2.2.2.2.2.2.1, x3.2.2.2.2.2.2.2.2.2.2)
def L07_RingsPlay_C3 (r25 : (Bool × (List Int) × Int × Int × Unit) × (Int × Int × Unit)) (r26 : Int × Int × Unit) (x1 : Int × (List (Int × Int × Unit)) × Int × Int × Int × List Int × List Int × Bool × Int × Int) (r24 : (Int × (List Int) × Unit) × Int × Unit) (k4 : (Int × (List (Int × Int × Unit)) × Int × Int × Bool × Int × List Int × List Int × Bool × Int × Int) → Option Bool) : Option Bool :=
  bif !decide (r25.2.1 = r26.1) then
    k4 (x1.1, x1.2.1, x1.2.2.1, x1.2.2.2.1, true, r24.1.1, r24.1.2.1, r25.1.2.1, r25.1.1, r25.1.2.2.1, r25.1.2.2.2.1)
  else
    bif !decide (r25.2.2.1 = r26.2.1) then
      k4 (x1.1, x1.2.1, x1.2.2.1, x1.2.2.2.1, true, r24.1.1, r24.1.2.1, r25.1.2.1, r25.1.1, r25.1.2.2.1, r25.1.2.2.2.1)
    else
      Option.bind (rings_Ring_int_List r25.1) fun r27 =>
      Option.bind (R02_Same r27.2.1 r24.1.2.1) fun r28 =>
      bif !r28 then
        k4 (x1.1, x1.2.1, x1.2.2.1, x1.2.2.2.1, true, r24.1.1, r24.1.2.1, r27.1.2.1, r27.1.1, r27.1.2.2.1, r27.1.2.2.2.1)
      else
        Option.bind (rings_Ring_int_Len r27.1) fun r29 =>
        bif !decide (r29.2.1 = (r24.1.2.1.length : Int)) then
          k4 (x1.1, x1.2.1, x1.2.2.1, x1.2.2.2.1, true, r24.1.1, r24.1.2.1, r29.1.2.1, r29.1.1, r29.1.2.2.1, r29.1.2.2.2.1)
        else
          Option.bind (rings_Ring_int_Room r29.1) fun r30 =>
          k4 (x1.1, x1.2.1, x1.2.2.1, x1.2.2.2.1, !decide (r30.2.1 = x1.1), r24.1.1, r24.1.2.1, r30.1.2.1, r30.1.1, r30.1.2.2.1, r30.1.2.2.2.1)
def L07_RingsPlay_R3 (k1 : (Int × (List (Int × Int × Unit)) × Int × Int × Int × List Int × List Int × Bool × Int × Int) → Option Bool) (x4 : Int × (List (Int × Int × Unit)) × Int × Int × Bool × Int × List Int × List Int × Bool × Int × Int) : Option Bool :=
  bif x4.2.2.2.2.1 then
    some false
  else
    k1 (x4.1, x4.2.1, x4.2.2.1, IntKind.i64.wrap (x4.2.2.2.1 + 1), x4.2.2.2.2.2.1, x4.2.2.2.2.2.2.1, x4.2.2.2.2.2.2.2.1, x4.2.2.2.2.2.2.2.2.1, x4.2.2.2.2.2.2.2.2.2.1, x4.2.2.2.2.2.2.2.2.2.2)
def L07_RingsPlay_L1 (k1 : (Int × (List (Int × Int × Unit)) × Int × Int × Int × List Int × List Int × Bool × Int × Int) → Option Bool) (x1 : Int × (List (Int × Int × Unit)) × Int × Int × Int × List Int × List Int × Bool × Int × Int) : Option Bool :=
  bif decide (x1.2.2.2.1 < x1.2.2.1) then
    chk (0 ≤ x1.2.2.2.1 ∧ x1.2.2.2.1 < (x1.2.1.length : Int)) <|
    letv (decide ((x1.2.1.getD x1.2.2.2.1.toNat (0, 0, ())).1 = 0)) fun v1 =>
    bif v1 then
      Option.bind (rings_Ring_int_Clear (x1.2.2.2.2.2.2.2.1, x1.2.2.2.2.2.2.1, x1.2.2.2.2.2.2.2.2.1, x1.2.2.2.2.2.2.2.2.2, ())) fun r8 =>
      Option.bind (rings_Ring_int_At (r8.1.1, r8.1.2.1, r8.1.2.2.1, r8.1.2.2.2.1, ()) (x1.2.1.getD x1.2.2.2.1.toNat (0, 0, ())).2.1) fun r9 =>
      Option.bind (R07_At (x1.2.2.2.2.1, [], ()) (x1.2.1.getD x1.2.2.2.1.toNat (0, 0, ())).2.1) fun r10 =>
      cutv 1 (L07_RingsPlay_C1 r9 r10 x1) (L07_RingsPlay_R1 k1)
    else
      chk ((3 : Int) ≠ 0) <|
      letv (decide ((Int.tmod (x1.2.1.getD x1.2.2.2.1.toNat (0, 0, ())).1 3) = 0)) fun v2 =>
      bif v2 then
        Option.bind (rings_Ring_int_Pop (x1.2.2.2.2.2.2.2.1, x1.2.2.2.2.2.2.1, x1.2.2.2.2.2.2.2.2.1, x1.2.2.2.2.2.2.2.2.2, ())) fun r15 =>
        Option.bind (R07_Pop (x1.2.2.2.2.1, x1.2.2.2.2.2.1, ())) fun r16 =>
        bif !decide (r15.2.1 = r16.2.1) then
          some false
        else
          bif !decide (r15.2.2.1 = r16.2.2.1) then
            some false
          else
            Option.bind (rings_Ring_int_At r15.1 (x1.2.1.getD x1.2.2.2.1.toNat (0, 0, ())).2.1) fun r17 =>
            Option.bind (R07_At r16.1 (x1.2.1.getD x1.2.2.2.1.toNat (0, 0, ())).2.1) fun r18 =>
            cutv 2 (L07_RingsPlay_C2 r17 r18 x1 r16) (L07_RingsPlay_R2 k1)
      else
        Option.bind (rings_Ring_int_Push (x1.2.2.2.2.2.2.2.1, x1.2.2.2.2.2.2.1, x1.2.2.2.2.2.2.2.2.1, x1.2.2.2.2.2.2.2.2.2, ()) (x1.2.1.getD x1.2.2.2.1.toNat (0, 0, ())).2.1) fun r23 =>
        Option.bind (R07_Push (x1.2.2.2.2.1, x1.2.2.2.2.2.1, ()) (x1.2.1.getD x1.2.2.2.1.toNat (0, 0, ())).2.1) fun r24 =>
        bif !decide (r23.2.1 = r24.2.1) then
          some false
        else
          Option.bind (rings_Ring_int_At r23.1 (x1.2.1.getD x1.2.2.2.1.toNat (0, 0, ())).2.1) fun r25 =>
          Option.bind (R07_At r24.1 (x1.2.1.getD x1.2.2.2.1.toNat (0, 0, ())).2.1) fun r26 =>
          cutv 3 (L07_RingsPlay_C3 r25 r26 x1 r24) (L07_RingsPlay_R3 k1)
  else
    L07_RingsPlay_J1
def L07_RingsPlay (a0 : Int) (a1 : List (Int × Int × Unit)) : Option Bool :=
  bif decide ((a1.length : Int) > 100) then
    Option.bind (L07_alive) fun r1 =>
    some r1
  else
    bif decide (a0 < 0) then
      Option.bind (R07_New a0) fun r2 =>
      bif !decide (r2.2.1 = 0) then
        bif decide (1 = r2.2.1) then
          Option.bind (L07_alive) fun r3 =>
          some r3
        else
          some false
      else
        some false
    else
      bif decide (a0 > 1024) then
        Option.bind (R07_New a0) fun r4 =>
        bif !decide (r4.2.1 = 0) then
          bif decide (1 = r4.2.1) then
            Option.bind (L07_alive) fun r5 =>
            some r5
          else
            some false
        else
          some false
      else
        chk (a0 = a0 ∧ 0 ≤ a0 ∧ a0 ≤ 4294967296) <|
        Option.bind (R07_New a0) fun r6 =>
        bif !decide (r6.2.1 = 0) then
          some false
        else
          loop L07_RingsPlay_L1 (a0, a1, (a1.length : Int), 0, r6.1.1, r6.1.2.1, List.replicate a0.toNat 0, true, 0, 0)
end Go.Proofs.YtoihmfgkmndjfaaV
