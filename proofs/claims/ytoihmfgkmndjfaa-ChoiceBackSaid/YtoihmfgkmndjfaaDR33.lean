import Derived.Test.YtoihmfgkmndjfaaVcMt
namespace Go.Proofs.YtoihmfgkmndjfaaV
set_option linter.unusedVariables false
def R33_Check (a0 : Int × Int × Int × Unit) : Option Int :=
  bif decide (a0.1 < 0) then
    some 12
  else
    bif decide (a0.1 > 1) then
      some 12
    else
      bif decide (a0.1 = 0) then
        bif decide (a0.2.1 < 0) then
          some 8
        else
          bif decide (a0.2.1 > 255) then
            some 8
          else
            bif decide (a0.2.2.1 < 0) then
              some 8
            else
              bif decide (a0.2.2.1 > 255) then
                some 8
              else
                bif decide (a0.1 = 1) then
                  bif decide (a0.2.1 < 0) then
                    some 8
                  else
                    bif decide (a0.2.1 > 65535) then
                      some 8
                    else
                      bif !decide (a0.2.2.1 = 0) then
                        some 8
                      else
                        some 0
                else
                  some 0
      else
        bif decide (a0.1 = 1) then
          bif decide (a0.2.1 < 0) then
            some 8
          else
            bif decide (a0.2.1 > 65535) then
              some 8
            else
              bif !decide (a0.2.2.1 = 0) then
                some 8
              else
                some 0
        else
          some 0
def R33_All_J1 : Option (Int × Int × Unit) :=
  some (0, 0, ())
def R33_All_L1 (a0 : List (Int × Int × Int × Unit)) (k1 : Int → Option (Int × Int × Unit)) (x1 : Int) : Option (Int × Int × Unit) :=
  bif decide (x1 < (a0.length : Int)) then
    chk (0 ≤ x1 ∧ x1 < (a0.length : Int)) <|
    Option.bind (R33_Check (a0.getD x1.toNat (0, 0, 0, ()))) fun r1 =>
    bif !decide (r1 = 0) then
      some (x1, r1, ())
    else
      k1 (IntKind.i64.wrap (x1 + 1))
  else
    R33_All_J1
def R33_All (a0 : List (Int × Int × Int × Unit)) : Option (Int × Int × Unit) :=
  bif decide ((a0.length : Int) > 2000) then
    some (2000, 5, ())
  else
    loop (R33_All_L1 a0) 0
def R33_Bytes_J1 (p1 : List Int) : Option ByteArray :=
  some (strOfNums p1)
def R33_Bytes_L1 (a0 : List (Int × Int × Int × Unit)) (k1 : (Int × List Int) → Option ByteArray) (x1 : Int × List Int) : Option ByteArray :=
  bif decide (x1.1 < (a0.length : Int)) then
    chk (0 ≤ x1.1 ∧ x1.1 < (a0.length : Int)) <|
    bif decide ((a0.getD x1.1.toNat (0, 0, 0, ())).1 = 0) then
      letv ([0, IntKind.u8.wrap ((a0.getD x1.1.toNat (0, 0, 0, ())).2.1), IntKind.u8.wrap ((a0.getD x1.1.toNat (0, 0, 0, ())).2.2.1)]) fun l2 =>
      chk (x1.2.length + l2.length ≤ 4294967296) <|
      k1 (IntKind.i64.wrap (x1.1 + 1), x1.2 ++ l2)
    else
      chk ((256 : Int) ≠ 0) <|
      chk ((256 : Int) ≠ 0) <|
      letv ([1, IntKind.u8.wrap (IntKind.i64.wrap (Int.tdiv (a0.getD x1.1.toNat (0, 0, 0, ())).2.1 256)), IntKind.u8.wrap (Int.tmod (a0.getD x1.1.toNat (0, 0, 0, ())).2.1 256)]) fun l3 =>
      chk (x1.2.length + l3.length ≤ 4294967296) <|
      k1 (IntKind.i64.wrap (x1.1 + 1), x1.2 ++ l3)
  else
    R33_Bytes_J1 x1.2
def R33_Bytes (a0 : List (Int × Int × Int × Unit)) : Option ByteArray :=
  Option.bind (R33_All a0) fun r1 =>
  bif !decide (r1.2.1 = 0) then
    some (⟨#[]⟩ : ByteArray)
  else
    chk ((256 : Int) ≠ 0) <|
    chk ((256 : Int) ≠ 0) <|
    letv ([IntKind.u8.wrap (IntKind.i64.wrap (Int.tdiv (a0.length : Int) 256)), IntKind.u8.wrap (Int.tmod (a0.length : Int) 256)]) fun l1 =>
    loop (R33_Bytes_L1 a0) (0, l1)
def R33_Read_J1 (p1 : Int) (p2 : List (Int × Int × Int × Unit)) : Option ((List (Int × Int × Int × Unit)) × Int × Int × Unit) :=
  some (p2, p1, 0, ())
def R33_Read_L1 (v1 : Int) (a0 : ByteArray) (k1 : (Int × Int × (List (Int × Int × Int × Unit))) → Option ((List (Int × Int × Int × Unit)) × Int × Int × Unit)) (x1 : Int × Int × (List (Int × Int × Int × Unit))) : Option ((List (Int × Int × Int × Unit)) × Int × Int × Unit) :=
  bif decide (x1.2.1 < v1) then
    bif decide ((IntKind.i64.wrap ((a0.size : Int) - x1.1)) < 3) then
      some ([], 0, 4, ())
    else
      chk (0 ≤ x1.1 ∧ x1.1 < (a0.size : Int)) <|
      chk (0 ≤ (IntKind.i64.wrap (x1.1 + 1)) ∧ (IntKind.i64.wrap (x1.1 + 1)) < (a0.size : Int)) <|
      chk (0 ≤ (IntKind.i64.wrap (x1.1 + 2)) ∧ (IntKind.i64.wrap (x1.1 + 2)) < (a0.size : Int)) <|
      bif decide ((IntKind.i64.wrap (((a0.data.toList.getD x1.1.toNat 0).toNat : Int))) = 1) then
        Option.bind (R33_Check (1, IntKind.i64.wrap ((IntKind.i64.wrap (256 * (IntKind.i64.wrap (((a0.data.toList.getD (IntKind.i64.wrap (x1.1 + 1)).toNat 0).toNat : Int))))) + (IntKind.i64.wrap (((a0.data.toList.getD (IntKind.i64.wrap (x1.1 + 2)).toNat 0).toNat : Int)))), 0, ())) fun r1 =>
        bif !decide (r1 = 0) then
          some ([], 0, r1, ())
        else
          letv ([(1, IntKind.i64.wrap ((IntKind.i64.wrap (256 * (IntKind.i64.wrap (((a0.data.toList.getD (IntKind.i64.wrap (x1.1 + 1)).toNat 0).toNat : Int))))) + (IntKind.i64.wrap (((a0.data.toList.getD (IntKind.i64.wrap (x1.1 + 2)).toNat 0).toNat : Int)))), 0, ())]) fun l1 =>
          chk (x1.2.2.length + l1.length ≤ 4294967296) <|
          k1 (IntKind.i64.wrap (x1.1 + 3), IntKind.i64.wrap (x1.2.1 + 1), x1.2.2 ++ l1)
      else
        Option.bind (R33_Check (IntKind.i64.wrap (((a0.data.toList.getD x1.1.toNat 0).toNat : Int)), IntKind.i64.wrap (((a0.data.toList.getD (IntKind.i64.wrap (x1.1 + 1)).toNat 0).toNat : Int)), IntKind.i64.wrap (((a0.data.toList.getD (IntKind.i64.wrap (x1.1 + 2)).toNat 0).toNat : Int)), ())) fun r2 =>
        bif !decide (r2 = 0) then
          some ([], 0, r2, ())
        else
          letv ([(IntKind.i64.wrap (((a0.data.toList.getD x1.1.toNat 0).toNat : Int)), IntKind.i64.wrap (((a0.data.toList.getD (IntKind.i64.wrap (x1.1 + 1)).toNat 0).toNat : Int)), IntKind.i64.wrap (((a0.data.toList.getD (IntKind.i64.wrap (x1.1 + 2)).toNat 0).toNat : Int)), ())]) fun l2 =>
          chk (x1.2.2.length + l2.length ≤ 4294967296) <|
          k1 (IntKind.i64.wrap (x1.1 + 3), IntKind.i64.wrap (x1.2.1 + 1), x1.2.2 ++ l2)
  else
    R33_Read_J1 x1.1 x1.2.2
def R33_Read (a0 : ByteArray) (a1 : Int) : Option ((List (Int × Int × Int × Unit)) × Int × Int × Unit) :=
  bif decide (a1 < 0) then
    some ([], 0, 8, ())
  else
    bif decide (a1 > (a0.size : Int)) then
      some ([], 0, 8, ())
    else
      bif decide ((IntKind.i64.wrap ((a0.size : Int) - a1)) < 2) then
        some ([], 0, 4, ())
      else
        chk (0 ≤ a1 ∧ a1 < (a0.size : Int)) <|
        chk (0 ≤ (IntKind.i64.wrap (a1 + 1)) ∧ (IntKind.i64.wrap (a1 + 1)) < (a0.size : Int)) <|
        letv (IntKind.i64.wrap ((IntKind.i64.wrap (256 * (IntKind.i64.wrap (((a0.data.toList.getD a1.toNat 0).toNat : Int))))) + (IntKind.i64.wrap (((a0.data.toList.getD (IntKind.i64.wrap (a1 + 1)).toNat 0).toNat : Int))))) fun v1 =>
        bif decide (v1 > 2000) then
          some ([], 0, 5, ())
        else
          loop (R33_Read_L1 v1 a0) (IntKind.i64.wrap (a1 + 2), 0, [])
def R33_Same_J1 : Option Bool :=
  some true
def R33_Same_L1 (a0 : List (Int × Int × Int × Unit)) (a1 : List (Int × Int × Int × Unit)) (k1 : Int → Option Bool) (x1 : Int) : Option Bool :=
  bif decide (x1 < (a0.length : Int)) then
    chk (0 ≤ x1 ∧ x1 < (a0.length : Int)) <|
    chk (0 ≤ x1 ∧ x1 < (a1.length : Int)) <|
    bif !((decide ((a0.getD x1.toNat (0, 0, 0, ())).1 = (a1.getD x1.toNat (0, 0, 0, ())).1)) && ((decide ((a0.getD x1.toNat (0, 0, 0, ())).2.1 = (a1.getD x1.toNat (0, 0, 0, ())).2.1)) && ((decide ((a0.getD x1.toNat (0, 0, 0, ())).2.2.1 = (a1.getD x1.toNat (0, 0, 0, ())).2.2.1)) && true))) then
      some false
    else
      k1 (IntKind.i64.wrap (x1 + 1))
  else
    R33_Same_J1
def R33_Same (a0 : List (Int × Int × Int × Unit)) (a1 : List (Int × Int × Int × Unit)) : Option Bool :=
  bif !decide ((a0.length : Int) = (a1.length : Int)) then
    some false
  else
    loop (R33_Same_L1 a0 a1) 0
end Go.Proofs.YtoihmfgkmndjfaaV
