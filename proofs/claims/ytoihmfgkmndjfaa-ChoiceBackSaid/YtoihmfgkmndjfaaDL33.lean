import Derived.Test.YtoihmfgkmndjfaaVcMt
import Derived.Test.YtoihmfgkmndjfaaDR33
import Derived.Test.YtoihmfgkmndjfaaDchoice
namespace Go.Proofs.YtoihmfgkmndjfaaV
set_option linter.unusedVariables false
def L33_alive : Option Bool :=
  Option.bind (choice_Bytes [(1, 258, 0, ())]) fun r1 =>
  chk ((⟨#[120]⟩ : ByteArray).size + r1.size ≤ 140737488355328) <|
  Option.bind (choice_Read ((⟨#[120]⟩ : ByteArray) ++ r1) 1) fun r2 =>
  Option.bind (choice_Read r1 1) fun r3 =>
  Option.bind (choice_All [(0, 3, 0, ()), (0, 256, 0, ())]) fun r4 =>
  bif r1.toList == (⟨#[0, 1, 1, 1, 2]⟩ : ByteArray).toList then
    bif decide ((r2.1.length : Int) = 1) then
      chk (0 ≤ (0 : Int) ∧ (0 : Int) < (r2.1.length : Int)) <|
      chk (0 ≤ (0 : Int) ∧ (0 : Int) < ([(1, 258, 0, ())].length : Int)) <|
      bif (decide ((r2.1.getD (0 : Int).toNat (0, 0, 0, ())).1 = ([(1, 258, 0, ())].getD (0 : Int).toNat (0, 0, 0, ())).1)) && ((decide ((r2.1.getD (0 : Int).toNat (0, 0, 0, ())).2.1 = ([(1, 258, 0, ())].getD (0 : Int).toNat (0, 0, 0, ())).2.1)) && ((decide ((r2.1.getD (0 : Int).toNat (0, 0, 0, ())).2.2.1 = ([(1, 258, 0, ())].getD (0 : Int).toNat (0, 0, 0, ())).2.2.1)) && true)) then
        bif decide (r2.2.1 = 6) then
          bif decide (r2.2.2.1 = 0) then
            bif decide (r3.2.2.1 = 4) then
              bif decide (r4.1 = 1) then
                bif decide (r4.2.1 = 8) then
                  Option.bind (choice_Check (2, 0, 0, ())) fun r5 =>
                  some (decide (r5 = 12))
                else
                  some false
              else
                some false
            else
              some false
          else
            some false
        else
          some false
      else
        some false
    else
      some false
  else
    some false
def L33_To_J1 (p1 : List (Int × Int × Int × Unit)) : Option (List (Int × Int × Int × Unit)) :=
  some p1
def L33_To_L1 (p2 : Int) (a0 : List (Int × Int × Int × Unit)) (k1 : (Int × (List (Int × Int × Int × Unit))) → Option (List (Int × Int × Int × Unit))) (x1 : Int × (List (Int × Int × Int × Unit))) : Option (List (Int × Int × Int × Unit)) :=
  bif decide (x1.1 < p2) then
    chk (0 ≤ x1.1 ∧ x1.1 < (a0.length : Int)) <|
    chk (x1.2.length + ([(a0.getD x1.1.toNat (0, 0, 0, ()))] : List (Int × Int × Int × Unit)).length ≤ 4294967296 ∨ (x1.2.length + ([(a0.getD x1.1.toNat (0, 0, 0, ()))] : List (Int × Int × Int × Unit)).length) * 24 ≤ 140737488355328) <|
    letv (x1.2 ++ [(a0.getD x1.1.toNat (0, 0, 0, ()))]) fun l1 =>
    k1 (IntKind.i64.wrap (x1.1 + 1), l1)
  else
    L33_To_J1 x1.2
def L33_To (a0 : List (Int × Int × Int × Unit)) : Option (List (Int × Int × Int × Unit)) :=
  loop (L33_To_L1 (a0.length : Int) a0) (0, [])
def L33_Back_J1 (p1 : List (Int × Int × Int × Unit)) : Option (List (Int × Int × Int × Unit)) :=
  some p1
def L33_Back_L1 (p2 : Int) (a0 : List (Int × Int × Int × Unit)) (k1 : (Int × (List (Int × Int × Int × Unit))) → Option (List (Int × Int × Int × Unit))) (x1 : Int × (List (Int × Int × Int × Unit))) : Option (List (Int × Int × Int × Unit)) :=
  bif decide (x1.1 < p2) then
    chk (0 ≤ x1.1 ∧ x1.1 < (a0.length : Int)) <|
    chk (x1.2.length + ([(a0.getD x1.1.toNat (0, 0, 0, ()))] : List (Int × Int × Int × Unit)).length ≤ 4294967296) <|
    letv (x1.2 ++ [(a0.getD x1.1.toNat (0, 0, 0, ()))]) fun l1 =>
    k1 (IntKind.i64.wrap (x1.1 + 1), l1)
  else
    L33_Back_J1 x1.2
def L33_Back (a0 : List (Int × Int × Int × Unit)) : Option (List (Int × Int × Int × Unit)) :=
  loop (L33_Back_L1 (a0.length : Int) a0) (0, [])
end Go.Proofs.YtoihmfgkmndjfaaV
