import Derived.Test.YtkpobmmabmelfaaDoorVcG1
import Derived.Test.YtkpobmmabmelfaaDoorDphase
import Derived.Test.YtkpobmmabmelfaaDoorDroll
namespace Go.Proofs.YtkpobmmabmelfaaDoorV
set_option linter.unusedVariables false
def barrier_Fine (a0 : (Bool × Int × Unit) × ((List Int) × (List Int) × Unit) × Int × Unit) : Option Bool :=
  Option.bind (phase_Fine a0.2.2.1 a0.1.2.1) fun r1 =>
  bif r1 then
    Option.bind (roll_Fine a0.2.1) fun r2 =>
    some r2
  else
    some false
def barrier_Ready (a0 : (Bool × Int × Unit) × ((List Int) × (List Int) × Unit) × Int × Unit) : Option Bool :=
  Option.bind (barrier_Fine a0) fun r1 =>
  bif r1 then
    Option.bind (roll_Full a0.2.1) fun r2 =>
    bif r2 then
      Option.bind (phase_Left a0.2.2.1 a0.1.2.1) fun r3 =>
      some (decide (r3 > 0))
    else
      some false
  else
    some false
def barrier_Fire (a0 : (Bool × Int × Unit) × ((List Int) × (List Int) × Unit) × Int × Unit) : Option (((Bool × Int × Unit) × ((List Int) × (List Int) × Unit) × Int × Unit) × (List Int) × Int × Unit) :=
  Option.bind (barrier_Fine a0) fun r1 =>
  bif !r1 then
    some (a0, [], 1, ())
  else
    Option.bind (barrier_Ready a0) fun r2 =>
    bif !r2 then
      some (a0, [], 13, ())
    else
      Option.bind (roll_Fire a0.2.1) fun r3 =>
      bif !decide (r3.2.2.1 = 0) then
        some (a0, [], r3.2.2.1, ())
      else
        Option.bind (phase_Next a0.2.2.1 a0.1.2.1) fun r4 =>
        some ((a0.1, r3.1, r4.1, ()), r3.2.1, r4.2.1, ())
def barrier_Check (a0 : Bool × Int × Unit) : Option Int :=
  Option.bind (phase_Fine 0 a0.2.1) fun r1 =>
  bif !r1 then
    some 8
  else
    some 0
def barrier_New (a0 : Bool × Int × Unit) : Option (((Bool × Int × Unit) × ((List Int) × (List Int) × Unit) × Int × Unit) × Int × Unit) :=
  Option.bind (barrier_Check a0) fun r1 =>
  bif !decide (r1 = 0) then
    some (((false, 0, ()), ((List.replicate 4 0), (List.replicate 4 0), ()), 0, ()), r1, ())
  else
    some ((a0, ((List.replicate 4 0), (List.replicate 4 0), ()), 0, ()), 0, ())
def barrier_Bar_with (a0 : (Bool × Int × Unit) × ((List Int) × (List Int) × Unit) × Int × Unit) (a1 : (List Int) × (List Int) × Unit) (a2 : Int) : Option (((Bool × Int × Unit) × ((List Int) × (List Int) × Unit) × Int × Unit) × Int × Unit) :=
  bif !decide (a2 = 0) then
    some (a0, a2, ())
  else
    bif ((a0.1.1 == a0.1.1) && ((decide (a0.1.2.1 = a0.1.2.1)) && true)) && (((decide ((a1.1 : List Int) = a0.2.1.1)) && ((decide ((a1.2.1 : List Int) = a0.2.1.2.1)) && true)) && ((decide (a0.2.2.1 = a0.2.2.1)) && true)) then
      some (a0, a2, ())
    else
      some ((a0.1, a1, a0.2.2.1, ()), 0, ())
def barrier_Enrol (a0 : (Bool × Int × Unit) × ((List Int) × (List Int) × Unit) × Int × Unit) (a1 : Int) : Option (((Bool × Int × Unit) × ((List Int) × (List Int) × Unit) × Int × Unit) × Int × Unit) :=
  Option.bind (barrier_Fine a0) fun r1 =>
  bif !r1 then
    some (a0, 1, ())
  else
    Option.bind (roll_Enrol a0.2.1 a1) fun r2 =>
    Option.bind (barrier_Bar_with a0 r2.1 r2.2.1) fun r3 =>
    some (r3.1, r3.2.1, ())
def barrier_Offer (a0 : (Bool × Int × Unit) × ((List Int) × (List Int) × Unit) × Int × Unit) (a1 : Int) (a2 : Bool) : Option (((Bool × Int × Unit) × ((List Int) × (List Int) × Unit) × Int × Unit) × Int × Unit) :=
  Option.bind (barrier_Fine a0) fun r1 =>
  bif !r1 then
    some (a0, 1, ())
  else
    bif a2 then
      bif !a0.1.1 then
        some (a0, 12, ())
      else
        Option.bind (phase_Left a0.2.2.1 a0.1.2.1) fun r2 =>
        bif decide (r2 = 0) then
          some (a0, 14, ())
        else
          Option.bind (roll_Offer a0.2.1 a1) fun r3 =>
          Option.bind (barrier_Bar_with a0 r3.1 r3.2.1) fun r4 =>
          some (r4.1, r4.2.1, ())
    else
      Option.bind (phase_Left a0.2.2.1 a0.1.2.1) fun r5 =>
      bif decide (r5 = 0) then
        some (a0, 14, ())
      else
        Option.bind (roll_Offer a0.2.1 a1) fun r6 =>
        Option.bind (barrier_Bar_with a0 r6.1 r6.2.1) fun r7 =>
        some (r7.1, r7.2.1, ())
def barrier_Withdraw (a0 : (Bool × Int × Unit) × ((List Int) × (List Int) × Unit) × Int × Unit) (a1 : Int) : Option ((Bool × Int × Unit) × ((List Int) × (List Int) × Unit) × Int × Unit) :=
  Option.bind (barrier_Fine a0) fun r1 =>
  bif r1 then
    Option.bind (roll_Withdraw a0.2.1 a1) fun r2 =>
    some (a0.1, r2.1, a0.2.2.1, ())
  else
    some a0
def barrier_Resign (a0 : (Bool × Int × Unit) × ((List Int) × (List Int) × Unit) × Int × Unit) (a1 : Int) : Option (((Bool × Int × Unit) × ((List Int) × (List Int) × Unit) × Int × Unit) × Int × Unit) :=
  Option.bind (barrier_Fine a0) fun r1 =>
  bif !r1 then
    some (a0, 1, ())
  else
    Option.bind (roll_Resign a0.2.1 a1) fun r2 =>
    Option.bind (barrier_Bar_with a0 r2.1 r2.2.1) fun r3 =>
    some (r3.1, r3.2.1, ())
end Go.Proofs.YtkpobmmabmelfaaDoorV
