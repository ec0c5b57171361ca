import Derived.Test.YtkpobmmabmelfaaDoorVcG1
import Derived.Test.YtkpobmmabmelfaaDoorDR02
import Derived.Test.YtkpobmmabmelfaaDoorDR04
import Derived.Test.YtkpobmmabmelfaaDoorDbitset
namespace Go.Proofs.YtkpobmmabmelfaaDoorV
set_option linter.unusedVariables false
def L21_Plain (a0 : (List Int) × (List Int) × Unit) : Option ((List Int) × (List Int) × Unit) :=
  Option.bind (R04_Of a0.1) fun r1 =>
  Option.bind (R04_Of a0.2.1) fun r2 =>
  some (r1, r2, ())
def L21_To (a0 : (List Int) × (List Int) × Unit) : Option ((List Int) × (List Int) × Unit) :=
  Option.bind (R04_Words a0.1) fun r1 =>
  Option.bind (R04_Words a0.2.1) fun r2 =>
  some (r1, r2, ())
def L21_Same (a0 : (List Int) × (List Int) × Unit) (a1 : (List Int) × (List Int) × Unit) : Option Bool :=
  Option.bind (R02_Same a0.1 a1.1) fun r1 =>
  bif r1 then
    Option.bind (R02_Same a0.2.1 a1.2.1) fun r2 =>
    some r2
  else
    some false
def L21_From (a0 : (List Int) × (List Int) × Unit) : Option ((List Int) × (List Int) × Unit) :=
  Option.bind (bitset_List a0.1) fun r1 =>
  Option.bind (bitset_List a0.2.1) fun r2 =>
  some (r1, r2, ())
end Go.Proofs.YtkpobmmabmelfaaDoorV
