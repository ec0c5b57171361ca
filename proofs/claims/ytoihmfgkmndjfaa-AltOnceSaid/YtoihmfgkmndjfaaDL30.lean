import Derived.Test.YtoihmfgkmndjfaaVcG1
import Derived.Test.YtoihmfgkmndjfaaDalt
namespace Go.Proofs.YtoihmfgkmndjfaaV
set_option linter.unusedVariables false
def L30_alive : Option Bool :=
  Option.bind (alt_Begin 2) fun r1 =>
  Option.bind (alt_Put r1.1) fun r2 =>
  Option.bind (alt_Put r2.1) fun r3 =>
  Option.bind (alt_Take r3.1 0) fun r4 =>
  Option.bind (alt_Withdraw r4.1) fun r5 =>
  Option.bind (alt_Take r2.1 0) fun r6 =>
  bif decide (r1.2.1 = 0) then
    bif decide (r2.2.1 = 0) then
      bif decide (r2.2.2.1 = 0) then
        bif decide (r3.2.1 = 1) then
          bif decide (r3.2.2.1 = 0) then
            bif decide (r3.1.1 = 2) then
              bif decide (r4.2.1 = 0) then
                bif decide (r4.1.1 = 3) then
                  bif decide (r5.2.1 = 1) then
                    bif decide (r5.2.2.1 = 0) then
                      bif (decide (r5.1.1 = 0)) && ((decide (r5.1.2.1 = 0)) && ((decide (r5.1.2.2.1 = 0)) && ((decide (r5.1.2.2.2.1 = 0)) && true))) then
                        bif decide (r6.2.1 = 13) then
                          Option.bind (alt_Fine r3.1) fun r7 =>
                          bif r7 then
                            Option.bind (alt_Left r1.1) fun r8 =>
                            some (decide (r8 = 2))
                          else
                            some false
                        else
                          some false
                      else
                        some false
                    else
                      some false
                  else
                    some false
                else
                  some false
              else
                some false
            else
              some false
          else
            some false
        else
          some false
      else
        some false
    else
      some false
  else
    some false
def L30_AltOnce_J1 (p6 : Int) (p7 : Int) (p8 : Int) (p9 : Int) : Option Bool :=
  bif (decide (p6 = 0)) && ((decide (p7 = 0)) && ((decide (p8 = 0)) && ((decide (p9 = 0)) && true))) then
    Option.bind (L30_alive) fun r3 =>
    some r3
  else
    some false
def L30_AltOnce_L1 (p10 : Int) (v1 : Int) (p1 : Int) (k1 : (Int × Int × Int × Int × Int × Int) → Option Bool) (x1 : Int × Int × Int × Int × Int × Int) : Option Bool :=
  bif decide (x1.2.1 < p10) then
    Option.bind (alt_Left (x1.2.2.1, x1.2.2.2.1, x1.2.2.2.2.1, x1.2.2.2.2.2, ())) fun r4 =>
    bif !decide (r4 = (IntKind.i64.wrap ((IntKind.i64.wrap (v1 - 1)) - x1.2.1))) then
      some false
    else
      Option.bind (alt_Withdraw (x1.2.2.1, x1.2.2.2.1, x1.2.2.2.2.1, x1.2.2.2.2.2, ())) fun r5 =>
      bif !decide (r5.2.2.1 = 0) then
        some false
      else
        bif decide (r5.2.1 ≥ x1.1) then
          some false
        else
          bif decide (r5.2.1 = p1) then
            some false
          else
            bif decide (r5.2.1 < 0) then
              some false
            else
              k1 (r5.2.1, IntKind.i64.wrap (x1.2.1 + 1), r5.1.1, r5.1.2.1, r5.1.2.2.1, r5.1.2.2.2.1)
  else
    L30_AltOnce_J1 x1.2.2.1 x1.2.2.2.1 x1.2.2.2.2.1 x1.2.2.2.2.2
def L30_AltOnce_J2 (v1 : Int) (p1 : Int) (p2 : Int) (p3 : Int) (p4 : Int) (p5 : Int) : Option Bool :=
  Option.bind (alt_Take (p2, p3, p4, p5, ()) p1) fun r2 =>
  bif !decide (r2.2.1 = 0) then
    some false
  else
    loop (L30_AltOnce_L1 (IntKind.i64.wrap (v1 - 1)) v1 p1) (v1, 0, r2.1.1, r2.1.2.1, r2.1.2.2.1, r2.1.2.2.2.1)
def L30_AltOnce_L2 (v1 : Int) (p11 : Int) (k2 : (Int × Int × Int × Int × Int) → Option Bool) (x2 : Int × Int × Int × Int × Int) : Option Bool :=
  bif decide (x2.1 < v1) then
    Option.bind (alt_Left (x2.2.1, x2.2.2.1, x2.2.2.2.1, x2.2.2.2.2, ())) fun r6 =>
    bif !decide (r6 = (IntKind.i64.wrap (v1 - x2.1))) then
      some false
    else
      Option.bind (alt_Put (x2.2.1, x2.2.2.1, x2.2.2.2.1, x2.2.2.2.2, ())) fun r7 =>
      bif !decide (r7.2.2.1 = 0) then
        some false
      else
        bif !decide (r7.2.1 = x2.1) then
          some false
        else
          Option.bind (alt_Fine r7.1) fun r8 =>
          bif !r8 then
            some false
          else
            k2 (IntKind.i64.wrap (x2.1 + 1), r7.1.1, r7.1.2.1, r7.1.2.2.1, r7.1.2.2.2.1)
  else
    L30_AltOnce_J2 v1 p11 x2.2.1 x2.2.2.1 x2.2.2.2.1 x2.2.2.2.2
def L30_AltOnce (a0 : Int) (a1 : Int) : Option Bool :=
  chk ((6 : Int) ≠ 0) <|
  letv (IntKind.i64.wrap (1 + (IntKind.i64.wrap (Int.tmod a0 6)))) fun v1 =>
  chk (v1 ≠ 0) <|
  Option.bind (alt_Begin v1) fun r1 =>
  bif !decide (r1.2.1 = 0) then
    some false
  else
    loop (L30_AltOnce_L2 v1 (Int.tmod (IntKind.i64.wrap (a1)) v1)) (0, r1.1.1, r1.1.2.1, r1.1.2.2.1, r1.1.2.2.2.1)
end Go.Proofs.YtoihmfgkmndjfaaV
