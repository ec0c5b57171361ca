import Derived.Test.YtejedlpnejjnbaaSVcMt
namespace Go.Proofs.YtejedlpnejjnbaaSV
set_option linter.unusedVariables false
def word_Fine (a0 : Int) : Option Bool :=
  bif decide (a0 ≥ (-2147483648)) then
    some (decide (a0 ≤ 2147483647))
  else
    some false
def R08_Fine (a0 : Int) : Option Bool :=
  bif decide (a0 ≥ (-2147483648)) then
    some (decide (a0 ≤ 2147483647))
  else
    some false
end Go.Proofs.YtejedlpnejjnbaaSV
