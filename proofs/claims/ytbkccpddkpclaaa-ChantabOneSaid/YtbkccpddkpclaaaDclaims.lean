import Derived.Test.YtbkccpddkpclaaaVcG1
import Derived.Test.YtbkccpddkpclaaaDslices
namespace Go.Proofs.YtbkccpddkpclaaaV
set_option linter.unusedVariables false
def claims_process (a0 : Int) : Option Bool :=
  bif decide (a0 ≥ 0) then
    some (decide (a0 < 16))
  else
    some false
def claims_Fine_J1 (a0 : Bool × (List Int) × Unit) : Option Bool :=
  bif a0.1 then
    some true
  else
    some (decide ((a0.2.1.length : Int) ≤ 1))
def claims_Fine_L1 (p1 : Int) (a0 : Bool × (List Int) × Unit) (k1 : Int → Option Bool) (x1 : Int) : Option Bool :=
  bif decide (x1 < p1) then
    chk (0 ≤ x1 ∧ x1 < (a0.2.1.length : Int)) <|
    Option.bind (claims_process (a0.2.1.getD x1.toNat 0)) fun r1 =>
    bif !r1 then
      some false
    else
      chk (0 ≤ (0 : Int) ∧ (0 : Int) ≤ x1 ∧ x1 ≤ (a0.2.1.length : Int)) <|
      Option.bind (slices_Contains_int_int ((a0.2.1.take x1.toNat).drop (0 : Int).toNat) (a0.2.1.getD x1.toNat 0)) fun r2 =>
      bif r2 then
        some false
      else
        k1 (IntKind.i64.wrap (x1 + 1))
  else
    claims_Fine_J1 a0
def claims_Fine (a0 : Bool × (List Int) × Unit) : Option Bool :=
  loop (claims_Fine_L1 (a0.2.1.length : Int) a0) 0
def claims_Head (a0 : Bool × (List Int) × Unit) : Option (Int × Bool × Unit) :=
  Option.bind (claims_Fine a0) fun r1 =>
  bif !r1 then
    some (0, false, ())
  else
    bif decide ((a0.2.1.length : Int) = 0) then
      some (0, false, ())
    else
      chk (0 ≤ (0 : Int) ∧ (0 : Int) < (a0.2.1.length : Int)) <|
      some (a0.2.1.getD (0 : Int).toNat 0, true, ())
def claims_place (a0 : Bool × (List Int) × Unit) (a1 : Int) : Option (Int × Bool × Unit) :=
  Option.bind (claims_Fine a0) fun r1 =>
  bif !r1 then
    some (0, false, ())
  else
    Option.bind (slices_Index_int_int a0.2.1 a1) fun r2 =>
    some (max r2 (0 : Int), decide (r2 ≥ 0), ())
def claims_Ahead (a0 : Bool × (List Int) × Unit) (a1 : Int) : Option (Int × Bool × Unit) :=
  Option.bind (claims_place a0 a1) fun r1 =>
  some (r1.1, r1.2.1, ())
def claims_Join (a0 : Bool × (List Int) × Unit) (a1 : Int) : Option ((Bool × (List Int) × Unit) × Int × Unit) :=
  Option.bind (claims_Fine a0) fun r1 =>
  bif !r1 then
    some (a0, 1, ())
  else
    Option.bind (claims_process a1) fun r2 =>
    bif !r2 then
      some (a0, 8, ())
    else
      Option.bind (slices_Contains_int_int a0.2.1 a1) fun r3 =>
      bif r3 then
        some (a0, 7, ())
      else
        bif !a0.1 then
          bif decide ((a0.2.1.length : Int) > 0) then
            some (a0, 15, ())
          else
            chk ((IntKind.i64.wrap ((a0.2.1.length : Int) + 1)) = (IntKind.i64.wrap ((a0.2.1.length : Int) + 1)) ∧ 0 ≤ (IntKind.i64.wrap ((a0.2.1.length : Int) + 1)) ∧ (IntKind.i64.wrap ((a0.2.1.length : Int) + 1)) ≤ 4294967296) <|
            letv (List.replicate (IntKind.i64.wrap ((a0.2.1.length : Int) + 1)).toNat 0) fun l1 =>
            letv (a0.2.1.take l1.length ++ l1.drop a0.2.1.length) fun l2 =>
            chk (0 ≤ (a0.2.1.length : Int) ∧ (a0.2.1.length : Int) < (l2.length : Int)) <|
            some ((a0.1, l2.set (a0.2.1.length : Int).toNat a1, ()), 0, ())
        else
          chk ((IntKind.i64.wrap ((a0.2.1.length : Int) + 1)) = (IntKind.i64.wrap ((a0.2.1.length : Int) + 1)) ∧ 0 ≤ (IntKind.i64.wrap ((a0.2.1.length : Int) + 1)) ∧ (IntKind.i64.wrap ((a0.2.1.length : Int) + 1)) ≤ 4294967296) <|
          letv (List.replicate (IntKind.i64.wrap ((a0.2.1.length : Int) + 1)).toNat 0) fun l3 =>
          letv (a0.2.1.take l3.length ++ l3.drop a0.2.1.length) fun l4 =>
          chk (0 ≤ (a0.2.1.length : Int) ∧ (a0.2.1.length : Int) < (l4.length : Int)) <|
          some ((a0.1, l4.set (a0.2.1.length : Int).toNat a1, ()), 0, ())
def claims_Leave (a0 : Bool × (List Int) × Unit) (a1 : Int) : Option ((Bool × (List Int) × Unit) × Bool × Unit) :=
  Option.bind (claims_place a0 a1) fun r1 =>
  bif r1.2.1 then
    nilq (a0.2.1) fun b1 =>
    bif b1 then
      none
    else
      chk (([] : List Int).length + a0.2.1.length ≤ 4294967296) <|
      chk (0 ≤ r1.1 ∧ r1.1 < (IntKind.i64.wrap (r1.1 + 1)) ∧ (IntKind.i64.wrap (r1.1 + 1)) ≤ ((([] : List Int) ++ a0.2.1).length : Int)) <|
      some ((a0.1, (([] : List Int) ++ a0.2.1).take r1.1.toNat ++ (([] : List Int) ++ a0.2.1).drop (IntKind.i64.wrap (r1.1 + 1)).toNat, ()), r1.2.1, ())
  else
    some (a0, r1.2.1, ())
end Go.Proofs.YtbkccpddkpclaaaV
