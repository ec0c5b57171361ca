import Derived.Test.YtoihmfgkmndjfaaVcMt
namespace Go.Proofs.YtoihmfgkmndjfaaV
set_option linter.unusedVariables false
def choice_Check (a0 : Int × Int × Int × Unit) : Option Int :=
  bif decide (a0.1 = 1) then
    bif decide (a0.2.1 < 0) then
      some 8
    else
      bif decide (a0.2.1 > 65535) then
        some 8
      else
        bif decide (a0.2.2.1 < 0) then
          some 8
        else
          bif decide (a0.2.2.1 > 0) then
            some 8
          else
            some 0
  else
    bif decide (a0.1 = 0) then
      bif decide (a0.2.1 < 0) then
        some 8
      else
        bif decide (a0.2.1 > 255) then
          some 8
        else
          bif decide (a0.2.2.1 < 0) then
            some 8
          else
            bif decide (a0.2.2.1 > 255) then
              some 8
            else
              some 0
    else
      some 12
def choice_All_J1 : Option (Int × Int × Unit) :=
  some (0, 0, ())
def choice_All_L1 (p1 : Int) (a0 : List (Int × Int × Int × Unit)) (k1 : Int → Option (Int × Int × Unit)) (x1 : Int) : Option (Int × Int × Unit) :=
  bif decide (x1 < p1) then
    chk (0 ≤ x1 ∧ x1 < (a0.length : Int)) <|
    Option.bind (choice_Check (a0.getD x1.toNat (0, 0, 0, ()))) fun r1 =>
    bif !decide (r1 = 0) then
      some (x1, r1, ())
    else
      k1 (IntKind.i64.wrap (x1 + 1))
  else
    choice_All_J1
def choice_All (a0 : List (Int × Int × Int × Unit)) : Option (Int × Int × Unit) :=
  bif decide ((a0.length : Int) > 2000) then
    some (2000, 5, ())
  else
    loop (choice_All_L1 (a0.length : Int) a0) 0
def choice_Bytes_C1 (l1 : List Int) (a0 : List (Int × Int × Int × Unit)) (k1 : ((List (Int × Int × Int × Unit)) × Int × List Int) → Option ByteArray) : Option ByteArray :=
  chk (l1.length ≤ 4294967296) <|
  k1 (a0, (l1.length : Int), l1)
def choice_Bytes_C2 (p1 : List Int) (k2 : ByteArray → Option ByteArray) : Option ByteArray :=
  chk (0 < p1.length) <|
  chk (0 < p1.length ∧ (p1.length : Int) = (p1.length : Int)) <|
  k2 (strOfNums p1)
def choice_Bytes_R2 (x2 : ByteArray) : Option ByteArray :=
  some x2
def choice_Bytes_J1 (p1 : List Int) : Option ByteArray :=
  cutv 2 (choice_Bytes_C2 p1) choice_Bytes_R2
def choice_Bytes_C3 (x3 : (List (Int × Int × Int × Unit)) × Int × Int × List Int) (l2 : List Int) (k4 : ((List (Int × Int × Int × Unit)) × Int × Int × Int × List Int) → Option ByteArray) : Option ByteArray :=
  chk (x3.2.2.2.length + l2.length ≤ 4294967296) <|
  k4 (x3.1, x3.2.1, x3.2.2.1, (l2.length : Int), x3.2.2.2 ++ l2)
def choice_Bytes_R3 (k3 : ((List (Int × Int × Int × Unit)) × Int × Int × List Int) → Option ByteArray) (x4 : (List (Int × Int × Int × Unit)) × Int × Int × Int × List Int) : Option ByteArray :=
  k3 (x4.1, x4.2.1, IntKind.i64.wrap (x4.2.2.1 + 1), x4.2.2.2.2)
def choice_Bytes_C4 (x3 : (List (Int × Int × Int × Unit)) × Int × Int × List Int) (l3 : List Int) (k5 : ((List (Int × Int × Int × Unit)) × Int × Int × Int × List Int) → Option ByteArray) : Option ByteArray :=
  chk (x3.2.2.2.length + l3.length ≤ 4294967296) <|
  k5 (x3.1, x3.2.1, x3.2.2.1, (l3.length : Int), x3.2.2.2 ++ l3)
def choice_Bytes_R4 (k3 : ((List (Int × Int × Int × Unit)) × Int × Int × List Int) → Option ByteArray) (x5 : (List (Int × Int × Int × Unit)) × Int × Int × Int × List Int) : Option ByteArray :=
  k3 (x5.1, x5.2.1, IntKind.i64.wrap (x5.2.2.1 + 1), x5.2.2.2.2)
def choice_Bytes_L1 (k3 : ((List (Int × Int × Int × Unit)) × Int × Int × List Int) → Option ByteArray) (x3 : (List (Int × Int × Int × Unit)) × Int × Int × List Int) : Option ByteArray :=
  bif decide (x3.2.2.1 < x3.2.1) then
    chk (0 ≤ x3.2.2.1 ∧ x3.2.2.1 < (x3.1.length : Int)) <|
    bif decide ((x3.1.getD x3.2.2.1.toNat (0, 0, 0, ())).1 = 1) then
      chk (0 ≤ (8 : Int)) <|
      letv ([1, IntKind.u8.wrap (Int.fdiv (x3.1.getD x3.2.2.1.toNat (0, 0, 0, ())).2.1 (2 ^ min (8 : Int).toNat 64)), IntKind.u8.wrap ((x3.1.getD x3.2.2.1.toNat (0, 0, 0, ())).2.1)]) fun l2 =>
      cutv 3 (choice_Bytes_C3 x3 l2) (choice_Bytes_R3 k3)
    else
      letv ([0, IntKind.u8.wrap ((x3.1.getD x3.2.2.1.toNat (0, 0, 0, ())).2.1), IntKind.u8.wrap ((x3.1.getD x3.2.2.1.toNat (0, 0, 0, ())).2.2.1)]) fun l3 =>
      cutv 4 (choice_Bytes_C4 x3 l3) (choice_Bytes_R4 k3)
  else
    choice_Bytes_J1 x3.2.2.2
def choice_Bytes_R1 (x1 : (List (Int × Int × Int × Unit)) × Int × List Int) : Option ByteArray :=
  loop choice_Bytes_L1 (x1.1, (x1.1.length : Int), 0, x1.2.2)
def choice_Bytes (a0 : List (Int × Int × Int × Unit)) : Option ByteArray :=
  Option.bind (choice_All a0) fun r1 =>
  bif !decide (r1.2.1 = 0) then
    some (⟨#[]⟩ : ByteArray)
  else
    chk (0 ≤ (8 : Int)) <|
    letv ([IntKind.u8.wrap (Int.fdiv (a0.length : Int) (2 ^ min (8 : Int).toNat 64)), IntKind.u8.wrap ((a0.length : Int))]) fun l1 =>
    cutv 1 (choice_Bytes_C1 l1 a0) choice_Bytes_R1
def choice_one (a0 : ByteArray) : Option (Int × Int × Int × Unit) :=
  chk (0 ≤ (0 : Int) ∧ (0 : Int) < (a0.size : Int)) <|
  chk (0 ≤ (1 : Int) ∧ (1 : Int) < (a0.size : Int)) <|
  chk (0 ≤ (2 : Int) ∧ (2 : Int) < (a0.size : Int)) <|
  bif decide ((IntKind.i64.wrap (((a0.data.toList.getD (0 : Int).toNat 0).toNat : Int))) = 1) then
    chk (0 ≤ (8 : Int)) <|
    some (IntKind.i64.wrap (((a0.data.toList.getD (0 : Int).toNat 0).toNat : Int)), bitsOp .or .i64 (IntKind.i64.wrap ((IntKind.i64.wrap (((a0.data.toList.getD (1 : Int).toNat 0).toNat : Int))) * 2 ^ min (8 : Int).toNat 64)) (IntKind.i64.wrap (((a0.data.toList.getD (2 : Int).toNat 0).toNat : Int))), 0, ())
  else
    some (IntKind.i64.wrap (((a0.data.toList.getD (0 : Int).toNat 0).toNat : Int)), IntKind.i64.wrap (((a0.data.toList.getD (1 : Int).toNat 0).toNat : Int)), IntKind.i64.wrap (((a0.data.toList.getD (2 : Int).toNat 0).toNat : Int)), ())
def choice_Read_C1 (a1 : Int) (v2 : Int) (a0 : ByteArray) (k1 : (Int × Int × ByteArray × Int) → Option ((List (Int × Int × Int × Unit)) × Int × Int × Unit)) : Option ((List (Int × Int × Int × Unit)) × Int × Int × Unit) :=
  k1 (a1, v2, a0.extract (IntKind.i64.wrap (a1 + 2)).toNat (a0.size : Int).toNat, v2)
def choice_Read_J1 (x1 : Int × Int × ByteArray × Int) (p1 : List (Int × Int × Int × Unit)) : Option ((List (Int × Int × Int × Unit)) × Int × Int × Unit) :=
  bif decide ((p1.length : Int) < x1.2.1) then
    some ([], 0, 4, ())
  else
    some (p1, IntKind.i64.wrap ((IntKind.i64.wrap (x1.1 + 2)) + (IntKind.i64.wrap (x1.2.1 * 3))), 0, ())
def choice_Read_J2 (x1 : Int × Int × ByteArray × Int) (p2 : List (Int × Int × Int × Unit)) : Option ((List (Int × Int × Int × Unit)) × Int × Int × Unit) :=
  choice_Read_J1 x1 p2
def choice_Read_L1 (x1 : Int × Int × ByteArray × Int) (k2 : (Int × (List (Int × Int × Int × Unit))) → Option ((List (Int × Int × Int × Unit)) × Int × Int × Unit)) (x2 : Int × (List (Int × Int × Int × Unit))) : Option ((List (Int × Int × Int × Unit)) × Int × Int × Unit) :=
  bif decide (x2.1 < x1.2.2.2) then
    bif decide ((x1.2.2.1.size : Int) < (IntKind.i64.wrap ((IntKind.i64.wrap (x2.1 + 1)) * 3))) then
      choice_Read_J1 x1 x2.2
    else
      chk (0 ≤ (IntKind.i64.wrap (x2.1 * 3)) ∧ (IntKind.i64.wrap (x2.1 * 3)) ≤ (IntKind.i64.wrap ((IntKind.i64.wrap (x2.1 + 1)) * 3)) ∧ (IntKind.i64.wrap ((IntKind.i64.wrap (x2.1 + 1)) * 3)) ≤ (x1.2.2.1.size : Int)) <|
      letv (x1.2.2.1.extract (IntKind.i64.wrap (x2.1 * 3)).toNat (IntKind.i64.wrap ((IntKind.i64.wrap (x2.1 + 1)) * 3)).toNat) fun v3 =>
      Option.bind (choice_one v3) fun r1 =>
      Option.bind (choice_Check r1) fun r2 =>
      bif !decide (r2 = 0) then
        some ([], 0, r2, ())
      else
        chk (x2.2.length + ([r1] : List (Int × Int × Int × Unit)).length ≤ 4294967296) <|
        k2 (IntKind.i64.wrap (x2.1 + 1), x2.2 ++ [r1])
  else
    choice_Read_J2 x1 x2.2
def choice_Read_R1 (x1 : Int × Int × ByteArray × Int) : Option ((List (Int × Int × Int × Unit)) × Int × Int × Unit) :=
  loop (choice_Read_L1 x1) (0, [])
def choice_Read (a0 : ByteArray) (a1 : Int) : Option ((List (Int × Int × Int × Unit)) × Int × Int × Unit) :=
  bif decide (a1 < 0) then
    some ([], 0, 8, ())
  else
    bif decide (a1 > (a0.size : Int)) then
      some ([], 0, 8, ())
    else
      letv (decide ((IntKind.i64.wrap ((a0.size : Int) - a1)) < 2)) fun v1 =>
      bif v1 then
        some ([], 0, 4, ())
      else
        chk (0 ≤ a1 ∧ a1 < (a0.size : Int)) <|
        chk (0 ≤ (8 : Int)) <|
        chk (0 ≤ (IntKind.i64.wrap (a1 + 1)) ∧ (IntKind.i64.wrap (a1 + 1)) < (a0.size : Int)) <|
        letv (bitsOp .or .i64 (IntKind.i64.wrap ((IntKind.i64.wrap (((a0.data.toList.getD a1.toNat 0).toNat : Int))) * 2 ^ min (8 : Int).toNat 64)) (IntKind.i64.wrap (((a0.data.toList.getD (IntKind.i64.wrap (a1 + 1)).toNat 0).toNat : Int)))) fun v2 =>
        bif decide (v2 > 2000) then
          some ([], 0, 5, ())
        else
          chk (0 ≤ (IntKind.i64.wrap (a1 + 2)) ∧ (IntKind.i64.wrap (a1 + 2)) ≤ (a0.size : Int) ∧ (a0.size : Int) ≤ (a0.size : Int)) <|
          cutv 1 (choice_Read_C1 a1 v2 a0) choice_Read_R1
end Go.Proofs.YtoihmfgkmndjfaaV
