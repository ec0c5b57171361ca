import Derived.Test.YtkpobmmabmelfaaDoorVcG1
import Derived.Test.YtkpobmmabmelfaaDoorDbitset
namespace Go.Proofs.YtkpobmmabmelfaaDoorV
set_option linter.unusedVariables false
def roll_Fine (a0 : (List Int) × (List Int) × Unit) : Option Bool :=
  Option.bind (bitset_Sub a0.1 gl_becket_roll_everybody) fun r1 =>
  bif r1 then
    Option.bind (bitset_Sub a0.2.1 a0.1) fun r2 =>
    some r2
  else
    some false
def roll_Full (a0 : (List Int) × (List Int) × Unit) : Option Bool :=
  Option.bind (roll_Fine a0) fun r1 =>
  bif r1 then
    bif decide ((a0.2.1 : List Int) = a0.1) then
      letv (!(decide ((a0.2.1 : List Int) = (List.replicate 4 0)))) fun v1 =>
      some v1
    else
      some false
  else
    some false
def roll_Fire (a0 : (List Int) × (List Int) × Unit) : Option (((List Int) × (List Int) × Unit) × (List Int) × Int × Unit) :=
  Option.bind (roll_Fine a0) fun r1 =>
  bif !r1 then
    some (a0, [], 1, ())
  else
    Option.bind (roll_Full a0) fun r2 =>
    bif !r2 then
      some (a0, [], 13, ())
    else
      Option.bind (bitset_List a0.2.1) fun r3 =>
      some ((a0.1, (List.replicate 4 0), ()), r3, 0, ())
def roll_asked (a0 : (List Int) × (List Int) × Unit) (a1 : Int) : Option Int :=
  Option.bind (roll_Fine a0) fun r1 =>
  bif !r1 then
    some 1
  else
    Option.bind (bitset_Has gl_becket_roll_everybody a1) fun r2 =>
    bif !r2 then
      some 8
    else
      some 0
def roll_Enrol (a0 : (List Int) × (List Int) × Unit) (a1 : Int) : Option (((List Int) × (List Int) × Unit) × Int × Unit) :=
  Option.bind (roll_asked a0 a1) fun r1 =>
  bif !decide (r1 = 0) then
    some (a0, r1, ())
  else
    Option.bind (bitset_Has a0.1 a1) fun r2 =>
    bif r2 then
      some (a0, 7, ())
    else
      Option.bind (bitset_Add a0.1 a1) fun r3 =>
      some ((r3, a0.2.1, ()), 0, ())
def roll_Offer (a0 : (List Int) × (List Int) × Unit) (a1 : Int) : Option (((List Int) × (List Int) × Unit) × Int × Unit) :=
  Option.bind (roll_asked a0 a1) fun r1 =>
  bif !decide (r1 = 0) then
    some (a0, r1, ())
  else
    Option.bind (bitset_Has a0.1 a1) fun r2 =>
    bif !r2 then
      some (a0, 6, ())
    else
      Option.bind (bitset_Has a0.2.1 a1) fun r3 =>
      bif r3 then
        some (a0, 7, ())
      else
        Option.bind (bitset_Add a0.2.1 a1) fun r4 =>
        some ((a0.1, r4, ()), 0, ())
def roll_Withdraw (a0 : (List Int) × (List Int) × Unit) (a1 : Int) : Option (((List Int) × (List Int) × Unit) × Bool × Unit) :=
  Option.bind (roll_Fine a0) fun r1 =>
  bif !r1 then
    some (a0, false, ())
  else
    Option.bind (bitset_Has a0.2.1 a1) fun r2 =>
    bif !r2 then
      some (a0, false, ())
    else
      Option.bind (bitset_Drop a0.2.1 a1) fun r3 =>
      some ((a0.1, r3, ()), true, ())
def roll_Resign (a0 : (List Int) × (List Int) × Unit) (a1 : Int) : Option (((List Int) × (List Int) × Unit) × Int × Unit) :=
  Option.bind (roll_asked a0 a1) fun r1 =>
  bif !decide (r1 = 0) then
    some (a0, r1, ())
  else
    Option.bind (bitset_Has a0.1 a1) fun r2 =>
    bif !r2 then
      some (a0, 6, ())
    else
      Option.bind (bitset_Drop a0.1 a1) fun r3 =>
      Option.bind (bitset_Drop a0.2.1 a1) fun r4 =>
      some ((r3, r4, ()), 0, ())
end Go.Proofs.YtkpobmmabmelfaaDoorV
