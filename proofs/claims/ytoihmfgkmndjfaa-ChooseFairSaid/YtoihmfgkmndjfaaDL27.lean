import Derived.Test.YtoihmfgkmndjfaaVcG1
import Derived.Test.YtoihmfgkmndjfaaDR27
import Derived.Test.YtoihmfgkmndjfaaDchoose
namespace Go.Proofs.YtoihmfgkmndjfaaV
set_option linter.unusedVariables false
def L27_alive : Option Bool :=
  Option.bind (choose_Choose (1, 3, 2, [0, 1], ()) 9) fun r1 =>
  Option.bind (choose_Choose (2, 3, 2, [0, 1], ()) (-1)) fun r2 =>
  Option.bind (choose_Choose (2, 3, 2, [], ()) 0) fun r3 =>
  bif decide (r1.1 = 0) then
    bif decide (r1.2.1 = 0) then
      bif decide (r2.1 = 1) then
        bif decide (r2.2.1 = 0) then
          bif decide (r3.2.1 = 6) then
            Option.bind (choose_Turn 2 3) fun r4 =>
            bif decide (r4 = 0) then
              Option.bind (choose_Turn 0 3) fun r5 =>
              bif decide (r5 = 1) then
                Option.bind (choose_Fine (2, 3, 2, [], ())) fun r6 =>
                bif r6 then
                  Option.bind (choose_Fine (0, 0, 0, [], ())) fun r7 =>
                  some (!r7)
                else
                  some false
              else
                some false
            else
              some false
          else
            some false
        else
          some false
      else
        some false
    else
      some false
  else
    some false
def L27_ChooseTells (a0 : Int × Int × Int × (List Int) × Unit) (a1 : Int) : Option Bool :=
  bif decide ((a0.2.2.2.1.length : Int) > 20) then
    Option.bind (L27_alive) fun r1 =>
    some r1
  else
    Option.bind (choose_Choose a0 a1) fun r2 =>
    Option.bind (R27_Choose a0 a1) fun r3 =>
    Option.bind (choose_Fine a0) fun r4 =>
    Option.bind (R27_Fine a0) fun r5 =>
    bif r4 == r5 then
      bif decide (r2.1 = r3.1) then
        bif decide (r2.2.1 = r3.2.1) then
          Option.bind (choose_Turn a0.2.2.1 a0.2.1) fun r6 =>
          Option.bind (R27_Turn a0.2.2.1 a0.2.1) fun r7 =>
          bif decide (r6 = r7) then
            Option.bind (choose_Turn a1 a0.2.1) fun r8 =>
            Option.bind (R27_Turn a1 a0.2.1) fun r9 =>
            bif decide (r8 = r9) then
              Option.bind (L27_alive) fun r10 =>
              some r10
            else
              some false
          else
            some false
        else
          some false
      else
        some false
    else
      some false
def L27_some_J1 (p1 : List Int) : Option (List Int) :=
  some p1
def L27_some_L1 (a1 : Int) (a0 : Int) (a2 : Int) (k1 : (Int × List Int) → Option (List Int)) (x1 : Int × List Int) : Option (List Int) :=
  bif decide (x1.1 < a1) then
    chk (0 ≤ x1.1) <|
    bif decide ((bitsOp .and .u8 (Int.fdiv a0 (2 ^ min x1.1.toNat 8)) 1) = 1) then
      chk (x1.2.length + ([x1.1] : List Int).length ≤ 4294967296) <|
      k1 (IntKind.i64.wrap (x1.1 + 1), x1.2 ++ [x1.1])
    else
      bif decide (x1.1 = a2) then
        chk (x1.2.length + ([x1.1] : List Int).length ≤ 4294967296) <|
        k1 (IntKind.i64.wrap (x1.1 + 1), x1.2 ++ [x1.1])
      else
        k1 (IntKind.i64.wrap (x1.1 + 1), x1.2)
  else
    L27_some_J1 x1.2
def L27_some (a0 : Int) (a1 : Int) (a2 : Int) : Option (List Int) :=
  loop (L27_some_L1 a1 a0 a2) (0, [])
def L27_ChooseFair_J1 : Option Bool :=
  Option.bind (L27_alive) fun r1 =>
  some r1
def L27_ChooseFair_L1 (a1 : List Int) (v1 : Int) (v2 : Int) (k1 : (Int × Int × Int) → Option Bool) (x1 : Int × Int × Int) : Option Bool :=
  bif decide (x1.2.2 < (a1.length : Int)) then
    bif decide (x1.2.2 < 100) then
      chk (0 ≤ x1.2.2 ∧ x1.2.2 < (a1.length : Int)) <|
      Option.bind (L27_some (a1.getD x1.2.2.toNat 0) v1 v2) fun r2 =>
      Option.bind (choose_Choose (1, v1, x1.1, r2, ()) x1.2.2) fun r3 =>
      bif !decide (r3.2.1 = 0) then
        some false
      else
        bif decide (r3.1 < 0) then
          some false
        else
          bif decide (r3.1 ≥ v1) then
            some false
          else
            bif decide (r3.1 = v2) then
              bif decide (0 ≥ v1) then
                some false
              else
                Option.bind (choose_Turn r3.1 v1) fun r4 =>
                k1 (r4, 0, IntKind.i64.wrap (x1.2.2 + 1))
            else
              bif decide ((IntKind.i64.wrap (x1.2.1 + 1)) ≥ v1) then
                some false
              else
                Option.bind (choose_Turn r3.1 v1) fun r5 =>
                k1 (r5, IntKind.i64.wrap (x1.2.1 + 1), IntKind.i64.wrap (x1.2.2 + 1))
    else
      L27_ChooseFair_J1
  else
    L27_ChooseFair_J1
def L27_ChooseFair (a0 : List Int) (a1 : List Int) : Option Bool :=
  chk (0 ≤ (0 : Int) ∧ (0 : Int) < (3 : Int)) <|
  chk ((6 : Int) ≠ 0) <|
  letv (IntKind.i64.wrap (1 + (IntKind.i64.wrap (Int.tmod (a0.getD (0 : Int).toNat 0) 6)))) fun v1 =>
  chk (0 ≤ (1 : Int) ∧ (1 : Int) < (3 : Int)) <|
  chk (v1 ≠ 0) <|
  chk (0 ≤ (2 : Int) ∧ (2 : Int) < (3 : Int)) <|
  chk (v1 ≠ 0) <|
  letv (Int.tmod (IntKind.i64.wrap (a0.getD (1 : Int).toNat 0)) v1) fun v2 =>
  letv (Int.tmod (IntKind.i64.wrap (a0.getD (2 : Int).toNat 0)) v1) fun v3 =>
  loop (L27_ChooseFair_L1 a1 v1 v2) (v3, 0, 0)
def L27_ChooseEach_J1 (p1 : Bool) (p2 : Bool) : Option Bool :=
  bif p1 then
    bif p2 then
      Option.bind (L27_alive) fun r4 =>
      some r4
    else
      some false
  else
    some false
def L27_ChooseEach_L1 (p3 : Int) (r1 : List Int) (v1 : Int) (v2 : Int) (r3 : Int × Int × Unit) (k1 : (Bool × Bool × Int) → Option Bool) (x1 : Bool × Bool × Int) : Option Bool :=
  bif decide (x1.2.2 < p3) then
    chk (0 ≤ x1.2.2 ∧ x1.2.2 < (r1.length : Int)) <|
    Option.bind (choose_Choose (2, v1, 0, r1, ()) x1.2.2) fun r5 =>
    bif !decide (r5.2.1 = 0) then
      some false
    else
      bif !decide (r5.1 = (r1.getD x1.2.2.toNat 0)) then
        some false
      else
        bif x1.1 then
          bif x1.2.1 then
            k1 (true, true, IntKind.i64.wrap (x1.2.2 + 1))
          else
            k1 (true, decide (r5.1 = v2), IntKind.i64.wrap (x1.2.2 + 1))
        else
          bif x1.2.1 then
            k1 (decide ((r1.getD x1.2.2.toNat 0) = r3.1), true, IntKind.i64.wrap (x1.2.2 + 1))
          else
            k1 (decide ((r1.getD x1.2.2.toNat 0) = r3.1), decide (r5.1 = v2), IntKind.i64.wrap (x1.2.2 + 1))
  else
    L27_ChooseEach_J1 x1.1 x1.2.1
def L27_ChooseEach (a0 : List Int) (a1 : Int) : Option Bool :=
  chk (0 ≤ (0 : Int) ∧ (0 : Int) < (3 : Int)) <|
  chk ((6 : Int) ≠ 0) <|
  letv (IntKind.i64.wrap (1 + (IntKind.i64.wrap (Int.tmod (a0.getD (0 : Int).toNat 0) 6)))) fun v1 =>
  chk (0 ≤ (1 : Int) ∧ (1 : Int) < (3 : Int)) <|
  chk (v1 ≠ 0) <|
  letv (Int.tmod (IntKind.i64.wrap (a0.getD (1 : Int).toNat 0)) v1) fun v2 =>
  chk (0 ≤ (2 : Int) ∧ (2 : Int) < (3 : Int)) <|
  Option.bind (L27_some (a0.getD (2 : Int).toNat 0) v1 v2) fun r1 =>
  Option.bind (choose_Choose (0, v1, 0, r1, ()) a1) fun r2 =>
  Option.bind (choose_Choose (2, v1, 0, r1, ()) a1) fun r3 =>
  bif !decide (r2.2.1 = 0) then
    some false
  else
    bif !decide (r3.2.1 = 0) then
      some false
    else
      chk (0 ≤ (0 : Int) ∧ (0 : Int) < (r1.length : Int)) <|
      bif !decide (r2.1 = (r1.getD (0 : Int).toNat 0)) then
        some false
      else
        loop (L27_ChooseEach_L1 (r1.length : Int) r1 v1 v2 r3) (false, false, 0)
end Go.Proofs.YtoihmfgkmndjfaaV
