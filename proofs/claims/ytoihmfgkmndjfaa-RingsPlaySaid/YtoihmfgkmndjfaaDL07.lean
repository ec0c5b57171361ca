import Derived.Test.YtoihmfgkmndjfaaVcMt
import Derived.Test.YtoihmfgkmndjfaaDR02
import Derived.Test.YtoihmfgkmndjfaaDR07
import Derived.Test.YtoihmfgkmndjfaaDrings
namespace Go.Proofs.YtoihmfgkmndjfaaV
set_option linter.unusedVariables false
def L07_alive_C1 (k1 : List Int → Option Bool) : Option Bool :=
  chk ((1 : Int) = (1 : Int) ∧ 0 ≤ (1 : Int) ∧ (1 : Int) ≤ 4294967296) <|
  k1 (List.replicate (1 : Int).toNat 0)
def L07_alive_C2 (r1 : (Bool × (List Int) × Int × Int × Unit) × (Int × Unit)) (r2 : (Bool × (List Int) × Int × Int × Unit) × (Int × Unit)) (r3 : (Bool × (List Int) × Int × Int × Unit) × (Int × Int × Unit)) (r4 : (Bool × (List Int) × Int × Int × Unit) × (Int × Int × Unit)) (r5 : (Bool × (List Int) × Int × Int × Unit) × (Int × Int × Unit)) (k2 : Bool → Option Bool) : Option Bool :=
  bif decide (r1.2.1 = 0) then
    bif decide (r2.2.1 = 10) then
      bif decide (r3.2.1 = 5) then
        bif decide (r3.2.2.1 = 0) then
          bif decide (r4.2.1 = 5) then
            bif decide (r4.2.2.1 = 0) then
              bif decide (r5.2.2.1 = 11) then
                Option.bind (rings_Ring_int_Len r5.1) fun r6 =>
                bif decide (r6.2.1 = 0) then
                  Option.bind (rings_Ring_int_Room r6.1) fun r7 =>
                  bif decide (r7.2.1 = 1) then
                    Option.bind (rings_Ring_int_List r7.1) fun r8 =>
                    k2 (decide ((r8.2.1.length : Int) = 0))
                  else
                    k2 false
                else
                  k2 false
              else
                k2 false
            else
              k2 false
          else
            k2 false
        else
          k2 false
      else
        k2 false
    else
      k2 false
  else
    k2 false
def L07_alive_R2 (x2 : Bool) : Option Bool :=
  some x2
def L07_alive_R1 (x1 : List Int) : Option Bool :=
  Option.bind (rings_Ring_int_Push (true, x1, 0, 0, ()) 5) fun r1 =>
  Option.bind (rings_Ring_int_Push r1.1 6) fun r2 =>
  Option.bind (rings_Ring_int_At r2.1 0) fun r3 =>
  Option.bind (rings_Ring_int_Pop r3.1) fun r4 =>
  Option.bind (rings_Ring_int_Pop r4.1) fun r5 =>
  cutv 2 (L07_alive_C2 r1 r2 r3 r4 r5) L07_alive_R2
def L07_alive : Option Bool :=
  cutv 1 L07_alive_C1 L07_alive_R1
end Go.Proofs.YtoihmfgkmndjfaaV
