import Derived.Test.YtejedlpnejjnbaaDoorBVcG1
import Derived.Test.YtejedlpnejjnbaaDoorBDL04
import Derived.Test.YtejedlpnejjnbaaDoorBDbitset
namespace Go.Proofs.YtejedlpnejjnbaaDoorBV
set_option linter.unusedVariables false
def L04_BitsetStops_C1 (a0 : List Int) (a1 : Int) (r1 : List Int) (k1 : (List Int × Int × List Int × List Int) → Option Bool) : Option Bool :=
  k1 (a0, a1, r1, a0)
def L04_BitsetStops_J1 (x1 : List Int × Int × List Int × List Int) (p1 : Int) : Option Bool :=
  bif decide (p1 = (min (x1.2.2.1.length : Int) (IntKind.i64.wrap ((IntKind.i64.wrap (x1.2.1)) + 1)))) then
    Option.bind (bitset_Of x1.2.2.1) fun r2 =>
    bif decide ((r2 : List Int) = x1.1) then
      Option.bind (L04_alive) fun r3 =>
      some r3
    else
      some false
  else
    some false
def L04_BitsetStops_J2 (x1 : List Int × Int × List Int × List Int) (p2 : Int) : Option Bool :=
  L04_BitsetStops_J1 x1 p2
def L04_BitsetStops_L1 (x1 : List Int × Int × List Int × List Int) (k2 : (Int × Bool × Int) → Option Bool) (x2 : Int × Bool × Int) : Option Bool :=
  bif x2.2.1 then
    bif decide (x2.2.2 ≥ (x1.2.2.1.length : Int)) then
      some false
    else
      chk (0 ≤ x2.2.2 ∧ x2.2.2 < (x1.2.2.1.length : Int)) <|
      bif !decide ((x1.2.2.1.getD x2.2.2.toNat 0) = x2.1) then
        some false
      else
        bif decide ((IntKind.i64.wrap (x2.2.2 + 1)) > (IntKind.i64.wrap (x1.2.1))) then
          L04_BitsetStops_J1 x1 (IntKind.i64.wrap (x2.2.2 + 1))
        else
          Option.bind (bitset_Next x1.2.2.2 (IntKind.i64.wrap (x2.1 + 1))) fun r5 =>
          k2 (r5.1, r5.2.1, IntKind.i64.wrap (x2.2.2 + 1))
  else
    L04_BitsetStops_J2 x1 x2.2.2
def L04_BitsetStops_R1 (x1 : List Int × Int × List Int × List Int) : Option Bool :=
  Option.bind (bitset_Next x1.2.2.2 0) fun r4 =>
  loop (L04_BitsetStops_L1 x1) (r4.1, r4.2.1, 0)
def L04_BitsetStops (a0 : List Int) (a1 : Int) : Option Bool :=
  Option.bind (bitset_List a0) fun r1 =>
  cutv 1 (L04_BitsetStops_C1 a0 a1 r1) L04_BitsetStops_R1
end Go.Proofs.YtejedlpnejjnbaaDoorBV
