import Derived.Test.YtiicmhholjpcbaaVcMt
namespace Go.Proofs.YtiicmhholjpcbaaV
set_option linter.unusedVariables false
def slices_Index_int_int_J1 : Option Int :=
  some (-1)
def slices_Index_int_int_L1 (p1 : Int) (a0 : List Int) (a1 : Int) (k1 : Int → Option Int) (x1 : Int) : Option Int :=
  bif decide (x1 < p1) then
    chk (0 ≤ x1 ∧ x1 < (a0.length : Int)) <|
    bif decide (a1 = (a0.getD x1.toNat 0)) then
      some x1
    else
      k1 (IntKind.i64.wrap (x1 + 1))
  else
    slices_Index_int_int_J1
def slices_Index_int_int (a0 : List Int) (a1 : Int) : Option Int :=
  loop (slices_Index_int_int_L1 (a0.length : Int) a0 a1) 0
def slices_Contains_int_int (a0 : List Int) (a1 : Int) : Option Bool :=
  Option.bind (slices_Index_int_int a0 a1) fun r1 =>
  some (decide (r1 ≥ 0))
end Go.Proofs.YtiicmhholjpcbaaV
