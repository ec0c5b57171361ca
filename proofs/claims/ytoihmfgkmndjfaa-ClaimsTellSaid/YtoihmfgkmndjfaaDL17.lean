import Derived.Test.YtoihmfgkmndjfaaVcG1
import Derived.Test.YtoihmfgkmndjfaaDR02
import Derived.Test.YtoihmfgkmndjfaaDR17
import Derived.Test.YtoihmfgkmndjfaaDclaims
namespace Go.Proofs.YtoihmfgkmndjfaaV
set_option linter.unusedVariables false
def L17_alive : Option Bool :=
  Option.bind (claims_Join (true, [], ()) 3) fun r1 =>
  Option.bind (claims_Join r1.1 5) fun r2 =>
  Option.bind (claims_Join r2.1 3) fun r3 =>
  Option.bind (claims_Leave r2.1 3) fun r4 =>
  Option.bind (claims_Head r4.1) fun r5 =>
  Option.bind (claims_Ahead r2.1 5) fun r6 =>
  Option.bind (claims_Join (false, [1], ()) 2) fun r7 =>
  bif decide (r1.2.1 = 0) then
    bif decide (r2.2.1 = 0) then
      bif decide (r3.2.1 = 7) then
        bif r4.2.1 then
          bif decide (r5.1 = 5) then
            bif r5.2.1 then
              bif decide (r6.1 = 1) then
                bif r6.2.1 then
                  bif decide (r7.2.1 = 15) then
                    Option.bind (claims_Fine r2.1) fun r8 =>
                    bif r8 then
                      Option.bind (claims_Fine (false, [1, 2], ())) fun r9 =>
                      some (!r9)
                    else
                      some false
                  else
                    some false
                else
                  some false
              else
                some false
            else
              some false
          else
            some false
        else
          some false
      else
        some false
    else
      some false
  else
    some false
def L17_same (a0 : Bool × (List Int) × Unit) (a1 : Bool × (List Int) × Unit) : Option Bool :=
  bif a0.1 == a1.1 then
    Option.bind (R02_Same a0.2.1 a1.2.1) fun r1 =>
    some r1
  else
    some false
def L17_ClaimsTell (a0 : Bool × (List Int) × Unit) (a1 : Int) : Option Bool :=
  bif decide ((a0.2.1.length : Int) > 30) then
    Option.bind (L17_alive) fun r1 =>
    some r1
  else
    Option.bind (claims_Join a0 a1) fun r2 =>
    Option.bind (R17_Join a0 a1) fun r3 =>
    Option.bind (claims_Leave a0 a1) fun r4 =>
    Option.bind (R17_Leave a0 a1) fun r5 =>
    Option.bind (claims_Head a0) fun r6 =>
    Option.bind (R17_Head a0) fun r7 =>
    Option.bind (claims_Ahead a0 a1) fun r8 =>
    Option.bind (R17_Ahead a0 a1) fun r9 =>
    Option.bind (claims_Fine a0) fun r10 =>
    Option.bind (R17_Fine a0) fun r11 =>
    bif r10 == r11 then
      Option.bind (L17_same r2.1 r3.1) fun r12 =>
      bif r12 then
        bif decide (r2.2.1 = r3.2.1) then
          Option.bind (L17_same r4.1 r5.1) fun r13 =>
          bif r13 then
            bif r4.2.1 == r5.2.1 then
              bif decide (r6.1 = r7.1) then
                bif r6.2.1 == r7.2.1 then
                  bif decide (r8.1 = r9.1) then
                    bif r8.2.1 == r9.2.1 then
                      Option.bind (L17_alive) fun r14 =>
                      some r14
                    else
                      some false
                  else
                    some false
                else
                  some false
              else
                some false
            else
              some false
          else
            some false
        else
          some false
      else
        some false
    else
      some false
def L17_ClaimsServe_J1 (p4 : List Int) : Option Bool :=
  bif decide ((p4 : List Int) = (List.replicate 16 0)) then
    Option.bind (L17_alive) fun r2 =>
    some r2
  else
    some false
def L17_ClaimsServe_L1 (k1 : (Int × Bool × List Int × List Int) → Option Bool) (x1 : Int × Bool × List Int × List Int) : Option Bool :=
  Option.bind (claims_Head (x1.2.1, x1.2.2.1, ())) fun r3 =>
  bif !r3.2.1 then
    L17_ClaimsServe_J1 x1.2.2.2
  else
    bif decide (r3.1 < 0) then
      some false
    else
      bif decide (r3.1 > 15) then
        some false
      else
        chk (0 ≤ r3.1 ∧ r3.1 < (16 : Int)) <|
        bif decide ((x1.2.2.2.getD r3.1.toNat 0) ≤ x1.1) then
          some false
        else
          chk (0 ≤ r3.1 ∧ r3.1 < (16 : Int)) <|
          chk (0 ≤ r3.1 ∧ r3.1 < (16 : Int)) <|
          Option.bind (claims_Leave (x1.2.1, x1.2.2.1, ()) r3.1) fun r4 =>
          k1 (x1.2.2.2.getD r3.1.toNat 0, r4.1.1, r4.1.2.1, x1.2.2.2.set r3.1.toNat 0)
def L17_ClaimsServe_J2 (p1 : Bool) (p2 : List Int) (p3 : List Int) : Option Bool :=
  loop L17_ClaimsServe_L1 (0, p1, p2, p3)
def L17_ClaimsServe_L2 (p5 : Int) (a0 : List (List Int)) (k2 : (Int × Bool × List Int × List Int) → Option Bool) (x2 : Int × Bool × List Int × List Int) : Option Bool :=
  bif decide (x2.1 < p5) then
    chk (0 ≤ x2.1 ∧ x2.1 < (a0.length : Int)) <|
    chk (0 ≤ (0 : Int) ∧ (0 : Int) < (2 : Int)) <|
    chk ((16 : Int) ≠ 0) <|
    letv (IntKind.i64.wrap (Int.tmod ((a0.getD x2.1.toNat (List.replicate 2 0)).getD (0 : Int).toNat 0) 16)) fun v1 =>
    chk (0 ≤ (1 : Int) ∧ (1 : Int) < (2 : Int)) <|
    chk ((3 : Int) ≠ 0) <|
    bif decide ((Int.tmod ((a0.getD x2.1.toNat (List.replicate 2 0)).getD (1 : Int).toNat 0) 3) = 0) then
      Option.bind (claims_Leave (x2.2.1, x2.2.2.1, ()) v1) fun r5 =>
      chk (0 ≤ v1 ∧ v1 < (16 : Int)) <|
      bif !(r5.2.1 == (decide ((x2.2.2.2.getD v1.toNat 0) > 0))) then
        some false
      else
        chk (0 ≤ v1 ∧ v1 < (16 : Int)) <|
        k2 (IntKind.i64.wrap (x2.1 + 1), r5.1.1, r5.1.2.1, x2.2.2.2.set v1.toNat 0)
    else
      Option.bind (claims_Join (x2.2.1, x2.2.2.1, ()) v1) fun r6 =>
      chk (0 ≤ v1 ∧ v1 < (16 : Int)) <|
      bif !((decide (r6.2.1 = 0)) == (decide ((x2.2.2.2.getD v1.toNat 0) = 0))) then
        some false
      else
        bif decide (r6.2.1 = 0) then
          chk (0 ≤ v1 ∧ v1 < (16 : Int)) <|
          k2 (IntKind.i64.wrap (x2.1 + 1), r6.1.1, r6.1.2.1, x2.2.2.2.set v1.toNat (IntKind.i64.wrap (x2.1 + 1)))
        else
          k2 (IntKind.i64.wrap (x2.1 + 1), x2.2.1, x2.2.2.1, x2.2.2.2)
  else
    L17_ClaimsServe_J2 x2.2.1 x2.2.2.1 x2.2.2.2
def L17_ClaimsServe (a0 : List (List Int)) : Option Bool :=
  bif decide ((a0.length : Int) > 60) then
    Option.bind (L17_alive) fun r1 =>
    some r1
  else
    loop (L17_ClaimsServe_L2 (a0.length : Int) a0) (0, true, [], (List.replicate 16 0))
end Go.Proofs.YtoihmfgkmndjfaaV
