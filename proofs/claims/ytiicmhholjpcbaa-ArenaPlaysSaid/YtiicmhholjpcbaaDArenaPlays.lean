import Derived.Test.YtiicmhholjpcbaaVcMt
import Derived.Test.YtiicmhholjpcbaaDL02
import Derived.Test.YtiicmhholjpcbaaDR02
import Derived.Test.YtiicmhholjpcbaaDarena
namespace Go.Proofs.YtiicmhholjpcbaaV
set_option linter.unusedVariables false
def L02_ArenaPlays_J1 (p1 : Int) (p2 : List Int) (p3 : List (Int × Int × Unit)) (p4 : List (Int × Bool × Int × Unit)) (p5 : Int) (p6 : Int) : Option Bool :=
  Option.bind (L02_as (p5, p6, p4, ()) (p1, p2, p3, ()) 4096) fun r12 =>
  bif r12.2.1 then
    Option.bind (L02_alive) fun r13 =>
    some r13
  else
    some false
def L02_ArenaPlays_C1 (x1 : (List (Int × Int × Int × Unit)) × Int × Int × Int × List Int × (List (Int × Int × Unit)) × (List (Int × Bool × Int × Unit)) × Int × Int) (k2 : (Int × Int × (List (Int × Int × Int × Unit)) × Int × Int × Int × List Int × (List (Int × Int × Unit)) × Int × Int × Int × (List (Int × Bool × Int × Unit)) × Int × Int) → Option Bool) : Option Bool :=
  letv (decide ((Int.tmod (x1.1.getD x1.2.2.1.toNat (0, 0, 0, ())).1 5) = 0)) fun v1 =>
  bif v1 then
    Option.bind (arena_Table_int_Set (x1.2.2.2.2.2.2.2.1, x1.2.2.2.2.2.2.2.2, x1.2.2.2.2.2.2.1, ()) (x1.1.getD x1.2.2.1.toNat (0, 0, 0, ())).2.1 (x1.1.getD x1.2.2.1.toNat (0, 0, 0, ())).2.2.1) fun r14 =>
    Option.bind (R02_Set (x1.2.2.2.1, x1.2.2.2.2.1, x1.2.2.2.2.2.1, ()) (x1.1.getD x1.2.2.1.toNat (0, 0, 0, ())).2.1 (x1.1.getD x1.2.2.1.toNat (0, 0, 0, ())).2.2.1) fun r15 =>
    k2 (r14.2.1, r15.2.1, x1.1, x1.2.1, x1.2.2.1, r15.1.1, r15.1.2.1, r15.1.2.2.1, (x1.1.getD x1.2.2.1.toNat (0, 0, 0, ())).1, (x1.1.getD x1.2.2.1.toNat (0, 0, 0, ())).2.1, (x1.1.getD x1.2.2.1.toNat (0, 0, 0, ())).2.2.1, r14.1.2.2.1, r14.1.1, r14.1.2.1)
  else
    letv (decide ((Int.tmod (x1.1.getD x1.2.2.1.toNat (0, 0, 0, ())).1 5) = 1)) fun v2 =>
    bif v2 then
      Option.bind (arena_Table_int_Drop (x1.2.2.2.2.2.2.2.1, x1.2.2.2.2.2.2.2.2, x1.2.2.2.2.2.2.1, ()) (x1.1.getD x1.2.2.1.toNat (0, 0, 0, ())).2.1) fun r16 =>
      Option.bind (R02_Drop (x1.2.2.2.1, x1.2.2.2.2.1, x1.2.2.2.2.2.1, ()) (x1.1.getD x1.2.2.1.toNat (0, 0, 0, ())).2.1) fun r17 =>
      k2 (r16.2.1, r17.2.1, x1.1, x1.2.1, x1.2.2.1, r17.1.1, r17.1.2.1, r17.1.2.2.1, (x1.1.getD x1.2.2.1.toNat (0, 0, 0, ())).1, (x1.1.getD x1.2.2.1.toNat (0, 0, 0, ())).2.1, (x1.1.getD x1.2.2.1.toNat (0, 0, 0, ())).2.2.1, r16.1.2.2.1, r16.1.1, r16.1.2.1)
    else
      letv (decide ((Int.tmod (x1.1.getD x1.2.2.1.toNat (0, 0, 0, ())).1 5) = 2)) fun v3 =>
      bif v3 then
        Option.bind (arena_Table_int_Drop (x1.2.2.2.2.2.2.2.1, x1.2.2.2.2.2.2.2.2, x1.2.2.2.2.2.2.1, ()) (x1.1.getD x1.2.2.1.toNat (0, 0, 0, ())).2.1) fun r18 =>
        Option.bind (R02_Drop (x1.2.2.2.1, x1.2.2.2.2.1, x1.2.2.2.2.2.1, ()) (x1.1.getD x1.2.2.1.toNat (0, 0, 0, ())).2.1) fun r19 =>
        k2 (r18.2.1, r19.2.1, x1.1, x1.2.1, x1.2.2.1, r19.1.1, r19.1.2.1, r19.1.2.2.1, (x1.1.getD x1.2.2.1.toNat (0, 0, 0, ())).1, (x1.1.getD x1.2.2.1.toNat (0, 0, 0, ())).2.1, (x1.1.getD x1.2.2.1.toNat (0, 0, 0, ())).2.2.1, r18.1.2.2.1, r18.1.1, r18.1.2.1)
      else
        Option.bind (arena_Table_int_Add (x1.2.2.2.2.2.2.2.1, x1.2.2.2.2.2.2.2.2, x1.2.2.2.2.2.2.1, ()) (x1.1.getD x1.2.2.1.toNat (0, 0, 0, ())).2.2.1) fun r20 =>
        Option.bind (R02_Add (x1.2.2.2.1, x1.2.2.2.2.1, x1.2.2.2.2.2.1, ()) (x1.1.getD x1.2.2.1.toNat (0, 0, 0, ())).2.2.1) fun r21 =>
        bif !decide (r20.2.1 = r21.2.1) then
          some false
        else
          k2 (r20.2.2.1, r21.2.2.1, x1.1, x1.2.1, x1.2.2.1, r21.1.1, r21.1.2.1, r21.1.2.2.1, (x1.1.getD x1.2.2.1.toNat (0, 0, 0, ())).1, (x1.1.getD x1.2.2.1.toNat (0, 0, 0, ())).2.1, (x1.1.getD x1.2.2.1.toNat (0, 0, 0, ())).2.2.1, r20.1.2.2.1, r20.1.1, r20.1.2.1)
def L02_ArenaPlays_R1 (k1 : ((List (Int × Int × Int × Unit)) × Int × Int × Int × List Int × (List (Int × Int × Unit)) × (List (Int × Bool × Int × Unit)) × Int × Int) → Option Bool) (x2 : Int × Int × (List (Int × Int × Int × Unit)) × Int × Int × Int × List Int × (List (Int × Int × Unit)) × Int × Int × Int × (List (Int × Bool × Int × Unit)) × Int × Int) : Option Bool :=
  bif !decide (x2.1 = x2.2.1) then
    some false
  else
    Option.bind (L02_as (x2.2.2.2.2.2.2.2.2.2.2.2.2.1, x2.2.2.2.2.2.2.2.2.2.2.2.2.2, x2.2.2.2.2.2.2.2.2.2.2.2.1, ()) (x2.2.2.2.2.2.1, x2.2.2.2.2.2.2.1, x2.2.2.2.2.2.2.2.1, ()) x2.2.2.2.2.2.2.2.2.2.1) fun r22 =>
    bif !r22.2.1 then
      some false
    else
      k1 (x2.2.2.1, x2.2.2.2.1, IntKind.i64.wrap (x2.2.2.2.2.1 + 1), x2.2.2.2.2.2.1, x2.2.2.2.2.2.2.1, x2.2.2.2.2.2.2.2.1, r22.1.2.2.1, r22.1.1, r22.1.2.1)
def L02_ArenaPlays_L1 (k1 : ((List (Int × Int × Int × Unit)) × Int × Int × Int × List Int × (List (Int × Int × Unit)) × (List (Int × Bool × Int × Unit)) × Int × Int) → Option Bool) (x1 : (List (Int × Int × Int × Unit)) × Int × Int × Int × List Int × (List (Int × Int × Unit)) × (List (Int × Bool × Int × Unit)) × Int × Int) : Option Bool :=
  bif decide (x1.2.2.1 < x1.2.1) then
    chk (0 ≤ x1.2.2.1 ∧ x1.2.2.1 < (x1.1.length : Int)) <|
    chk ((5 : Int) ≠ 0) <|
    cutv 1 (L02_ArenaPlays_C1 x1) (L02_ArenaPlays_R1 k1)
  else
    L02_ArenaPlays_J1 x1.2.2.2.1 x1.2.2.2.2.1 x1.2.2.2.2.2.1 x1.2.2.2.2.2.2.1 x1.2.2.2.2.2.2.2.1 x1.2.2.2.2.2.2.2.2
def L02_ArenaPlays_J2 (p7 : Int) (p8 : List Int) (p9 : List (Int × Int × Unit)) (p10 : List (Int × Bool × Int × Unit)) (p11 : Int) (p12 : Int) : Option Bool :=
  Option.bind (L02_as (p11, p12, p10, ()) (p7, p8, p9, ()) 4096) fun r33 =>
  bif r33.2.1 then
    Option.bind (L02_alive) fun r34 =>
    some r34
  else
    some false
def L02_ArenaPlays_C2 (x3 : (List (Int × Int × Int × Unit)) × Int × Int × Int × List Int × (List (Int × Int × Unit)) × (List (Int × Bool × Int × Unit)) × Int × Int) (k4 : (Int × Int × (List (Int × Int × Int × Unit)) × Int × Int × Int × List Int × (List (Int × Int × Unit)) × Int × Int × Int × (List (Int × Bool × Int × Unit)) × Int × Int) → Option Bool) : Option Bool :=
  letv (decide ((Int.tmod (x3.1.getD x3.2.2.1.toNat (0, 0, 0, ())).1 5) = 0)) fun v4 =>
  bif v4 then
    Option.bind (arena_Table_int_Set (x3.2.2.2.2.2.2.2.1, x3.2.2.2.2.2.2.2.2, x3.2.2.2.2.2.2.1, ()) (x3.1.getD x3.2.2.1.toNat (0, 0, 0, ())).2.1 (x3.1.getD x3.2.2.1.toNat (0, 0, 0, ())).2.2.1) fun r35 =>
    Option.bind (R02_Set (x3.2.2.2.1, x3.2.2.2.2.1, x3.2.2.2.2.2.1, ()) (x3.1.getD x3.2.2.1.toNat (0, 0, 0, ())).2.1 (x3.1.getD x3.2.2.1.toNat (0, 0, 0, ())).2.2.1) fun r36 =>
    k4 (r35.2.1, r36.2.1, x3.1, x3.2.1, x3.2.2.1, r36.1.1, r36.1.2.1, r36.1.2.2.1, (x3.1.getD x3.2.2.1.toNat (0, 0, 0, ())).1, (x3.1.getD x3.2.2.1.toNat (0, 0, 0, ())).2.1, (x3.1.getD x3.2.2.1.toNat (0, 0, 0, ())).2.2.1, r35.1.2.2.1, r35.1.1, r35.1.2.1)
  else
    letv (decide ((Int.tmod (x3.1.getD x3.2.2.1.toNat (0, 0, 0, ())).1 5) = 1)) fun v5 =>
    bif v5 then
      Option.bind (arena_Table_int_Drop (x3.2.2.2.2.2.2.2.1, x3.2.2.2.2.2.2.2.2, x3.2.2.2.2.2.2.1, ()) (x3.1.getD x3.2.2.1.toNat (0, 0, 0, ())).2.1) fun r37 =>
      Option.bind (R02_Drop (x3.2.2.2.1, x3.2.2.2.2.1, x3.2.2.2.2.2.1, ()) (x3.1.getD x3.2.2.1.toNat (0, 0, 0, ())).2.1) fun r38 =>
      k4 (r37.2.1, r38.2.1, x3.1, x3.2.1, x3.2.2.1, r38.1.1, r38.1.2.1, r38.1.2.2.1, (x3.1.getD x3.2.2.1.toNat (0, 0, 0, ())).1, (x3.1.getD x3.2.2.1.toNat (0, 0, 0, ())).2.1, (x3.1.getD x3.2.2.1.toNat (0, 0, 0, ())).2.2.1, r37.1.2.2.1, r37.1.1, r37.1.2.1)
    else
      letv (decide ((Int.tmod (x3.1.getD x3.2.2.1.toNat (0, 0, 0, ())).1 5) = 2)) fun v6 =>
      bif v6 then
        Option.bind (arena_Table_int_Drop (x3.2.2.2.2.2.2.2.1, x3.2.2.2.2.2.2.2.2, x3.2.2.2.2.2.2.1, ()) (x3.1.getD x3.2.2.1.toNat (0, 0, 0, ())).2.1) fun r39 =>
        Option.bind (R02_Drop (x3.2.2.2.1, x3.2.2.2.2.1, x3.2.2.2.2.2.1, ()) (x3.1.getD x3.2.2.1.toNat (0, 0, 0, ())).2.1) fun r40 =>
        k4 (r39.2.1, r40.2.1, x3.1, x3.2.1, x3.2.2.1, r40.1.1, r40.1.2.1, r40.1.2.2.1, (x3.1.getD x3.2.2.1.toNat (0, 0, 0, ())).1, (x3.1.getD x3.2.2.1.toNat (0, 0, 0, ())).2.1, (x3.1.getD x3.2.2.1.toNat (0, 0, 0, ())).2.2.1, r39.1.2.2.1, r39.1.1, r39.1.2.1)
      else
        Option.bind (arena_Table_int_Add (x3.2.2.2.2.2.2.2.1, x3.2.2.2.2.2.2.2.2, x3.2.2.2.2.2.2.1, ()) (x3.1.getD x3.2.2.1.toNat (0, 0, 0, ())).2.2.1) fun r41 =>
        Option.bind (R02_Add (x3.2.2.2.1, x3.2.2.2.2.1, x3.2.2.2.2.2.1, ()) (x3.1.getD x3.2.2.1.toNat (0, 0, 0, ())).2.2.1) fun r42 =>
        bif !decide (r41.2.1 = r42.2.1) then
          some false
        else
          k4 (r41.2.2.1, r42.2.2.1, x3.1, x3.2.1, x3.2.2.1, r42.1.1, r42.1.2.1, r42.1.2.2.1, (x3.1.getD x3.2.2.1.toNat (0, 0, 0, ())).1, (x3.1.getD x3.2.2.1.toNat (0, 0, 0, ())).2.1, (x3.1.getD x3.2.2.1.toNat (0, 0, 0, ())).2.2.1, r41.1.2.2.1, r41.1.1, r41.1.2.1)
def L02_ArenaPlays_R2 (k3 : ((List (Int × Int × Int × Unit)) × Int × Int × Int × List Int × (List (Int × Int × Unit)) × (List (Int × Bool × Int × Unit)) × Int × Int) → Option Bool) (x4 : Int × Int × (List (Int × Int × Int × Unit)) × Int × Int × Int × List Int × (List (Int × Int × Unit)) × Int × Int × Int × (List (Int × Bool × Int × Unit)) × Int × Int) : Option Bool :=
  bif !decide (x4.1 = x4.2.1) then
    some false
  else
    Option.bind (L02_as (x4.2.2.2.2.2.2.2.2.2.2.2.2.1, x4.2.2.2.2.2.2.2.2.2.2.2.2.2, x4.2.2.2.2.2.2.2.2.2.2.2.1, ()) (x4.2.2.2.2.2.1, x4.2.2.2.2.2.2.1, x4.2.2.2.2.2.2.2.1, ()) x4.2.2.2.2.2.2.2.2.2.1) fun r43 =>
    bif !r43.2.1 then
      some false
    else
      k3 (x4.2.2.1, x4.2.2.2.1, IntKind.i64.wrap (x4.2.2.2.2.1 + 1), x4.2.2.2.2.2.1, x4.2.2.2.2.2.2.1, x4.2.2.2.2.2.2.2.1, r43.1.2.2.1, r43.1.1, r43.1.2.1)
def L02_ArenaPlays_L2 (k3 : ((List (Int × Int × Int × Unit)) × Int × Int × Int × List Int × (List (Int × Int × Unit)) × (List (Int × Bool × Int × Unit)) × Int × Int) → Option Bool) (x3 : (List (Int × Int × Int × Unit)) × Int × Int × Int × List Int × (List (Int × Int × Unit)) × (List (Int × Bool × Int × Unit)) × Int × Int) : Option Bool :=
  bif decide (x3.2.2.1 < x3.2.1) then
    chk (0 ≤ x3.2.2.1 ∧ x3.2.2.1 < (x3.1.length : Int)) <|
    chk ((5 : Int) ≠ 0) <|
    cutv 2 (L02_ArenaPlays_C2 x3) (L02_ArenaPlays_R2 k3)
  else
    L02_ArenaPlays_J2 x3.2.2.2.1 x3.2.2.2.2.1 x3.2.2.2.2.2.1 x3.2.2.2.2.2.2.1 x3.2.2.2.2.2.2.2.1 x3.2.2.2.2.2.2.2.2
def L02_ArenaPlays (a0 : Int) (a1 : Int) (a2 : List (Int × Int × Int × Unit)) : Option Bool :=
  bif decide (a0 > 30) then
    bif decide (a0 ≤ 4096) then
      Option.bind (L02_alive) fun r1 =>
      some r1
    else
      bif decide ((a2.length : Int) > 100) then
        Option.bind (L02_alive) fun r2 =>
        some r2
      else
        bif decide (a0 < 1) then
          Option.bind (R02_New a0 a1) fun r3 =>
          bif !decide (r3.2.1 = 0) then
            bif decide (1 = r3.2.1) then
              Option.bind (L02_alive) fun r4 =>
              some r4
            else
              some false
          else
            some false
        else
          bif decide (a0 > 4096) then
            Option.bind (R02_New a0 a1) fun r5 =>
            bif !decide (r5.2.1 = 0) then
              bif decide (1 = r5.2.1) then
                Option.bind (L02_alive) fun r6 =>
                some r6
              else
                some false
            else
              some false
          else
            bif decide (a1 < 1) then
              Option.bind (R02_New a0 a1) fun r7 =>
              bif !decide (r7.2.1 = 0) then
                bif decide (1 = r7.2.1) then
                  Option.bind (L02_alive) fun r8 =>
                  some r8
                else
                  some false
              else
                some false
            else
              bif decide (a1 > 65535) then
                Option.bind (R02_New a0 a1) fun r9 =>
                bif !decide (r9.2.1 = 0) then
                  bif decide (1 = r9.2.1) then
                    Option.bind (L02_alive) fun r10 =>
                    some r10
                  else
                    some false
                else
                  some false
              else
                chk (a0 = a0 ∧ 0 ≤ a0 ∧ a0 ≤ 4294967296) <|
                letv (List.replicate a0.toNat (0, false, 0, ())) fun l1 =>
                Option.bind (R02_New a0 a1) fun r11 =>
                bif !decide (r11.2.1 = 0) then
                  some false
                else
                  loop L02_ArenaPlays_L1 (a2, (a2.length : Int), 0, r11.1.1, r11.1.2.1, r11.1.2.2.1, l1, a1, 0)
  else
    bif decide ((a2.length : Int) > 100) then
      Option.bind (L02_alive) fun r23 =>
      some r23
    else
      bif decide (a0 < 1) then
        Option.bind (R02_New a0 a1) fun r24 =>
        bif !decide (r24.2.1 = 0) then
          bif decide (1 = r24.2.1) then
            Option.bind (L02_alive) fun r25 =>
            some r25
          else
            some false
        else
          some false
      else
        bif decide (a0 > 4096) then
          Option.bind (R02_New a0 a1) fun r26 =>
          bif !decide (r26.2.1 = 0) then
            bif decide (1 = r26.2.1) then
              Option.bind (L02_alive) fun r27 =>
              some r27
            else
              some false
          else
            some false
        else
          bif decide (a1 < 1) then
            Option.bind (R02_New a0 a1) fun r28 =>
            bif !decide (r28.2.1 = 0) then
              bif decide (1 = r28.2.1) then
                Option.bind (L02_alive) fun r29 =>
                some r29
              else
                some false
            else
              some false
          else
            bif decide (a1 > 65535) then
              Option.bind (R02_New a0 a1) fun r30 =>
              bif !decide (r30.2.1 = 0) then
                bif decide (1 = r30.2.1) then
                  Option.bind (L02_alive) fun r31 =>
                  some r31
                else
                  some false
              else
                some false
            else
              chk (a0 = a0 ∧ 0 ≤ a0 ∧ a0 ≤ 4294967296) <|
              letv (List.replicate a0.toNat (0, false, 0, ())) fun l2 =>
              Option.bind (R02_New a0 a1) fun r32 =>
              bif !decide (r32.2.1 = 0) then
                some false
              else
                loop L02_ArenaPlays_L2 (a2, (a2.length : Int), 0, r32.1.1, r32.1.2.1, r32.1.2.2.1, l2, a1, 0)
end Go.Proofs.YtiicmhholjpcbaaV
