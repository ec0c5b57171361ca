import Derived.Test.YtkpobmmabmelfaaDoorVcG1
import Derived.Test.YtkpobmmabmelfaaDoorDR20
import Derived.Test.YtkpobmmabmelfaaDoorDR21
namespace Go.Proofs.YtkpobmmabmelfaaDoorV
set_option linter.unusedVariables false
def R22_Fine (a0 : (Bool × Int × Unit) × ((List Int) × (List Int) × Unit) × Int × Unit) : Option Bool :=
  Option.bind (R20_Fine a0.2.2.1 a0.1.2.1) fun r1 =>
  bif r1 then
    Option.bind (R21_Fine a0.2.1) fun r2 =>
    some r2
  else
    some false
def R22_Ready (a0 : (Bool × Int × Unit) × ((List Int) × (List Int) × Unit) × Int × Unit) : Option Bool :=
  Option.bind (R22_Fine a0) fun r1 =>
  bif r1 then
    Option.bind (R21_Full a0.2.1) fun r2 =>
    bif r2 then
      some (decide (a0.2.2.1 < a0.1.2.1))
    else
      some false
  else
    some false
def R22_Fire (a0 : (Bool × Int × Unit) × ((List Int) × (List Int) × Unit) × Int × Unit) : Option (((Bool × Int × Unit) × ((List Int) × (List Int) × Unit) × Int × Unit) × (List Int) × Int × Unit) :=
  Option.bind (R22_Fine a0) fun r1 =>
  bif !r1 then
    some (a0, [], 1, ())
  else
    Option.bind (R22_Ready a0) fun r2 =>
    bif !r2 then
      some (a0, [], 13, ())
    else
      Option.bind (R21_Fire a0.2.1) fun r3 =>
      some ((a0.1, r3.1, IntKind.i64.wrap (a0.2.2.1 + 1), ()), r3.2.1, 0, ())
def R22_Check (a0 : Bool × Int × Unit) : Option Int :=
  bif decide (a0.2.1 < 1) then
    some 8
  else
    bif decide (a0.2.1 > 65535) then
      some 8
    else
      some 0
def R22_New (a0 : Bool × Int × Unit) : Option (((Bool × Int × Unit) × ((List Int) × (List Int) × Unit) × Int × Unit) × Int × Unit) :=
  Option.bind (R22_Check a0) fun r1 =>
  bif !decide (r1 = 0) then
    some (((false, 0, ()), ([], [], ()), 0, ()), r1, ())
  else
    some ((a0, ([], [], ()), 0, ()), 0, ())
def R22_Enrol (a0 : (Bool × Int × Unit) × ((List Int) × (List Int) × Unit) × Int × Unit) (a1 : Int) : Option (((Bool × Int × Unit) × ((List Int) × (List Int) × Unit) × Int × Unit) × Int × Unit) :=
  Option.bind (R22_Fine a0) fun r1 =>
  bif !r1 then
    some (a0, 1, ())
  else
    Option.bind (R21_Enrol a0.2.1 a1) fun r2 =>
    some ((a0.1, r2.1, a0.2.2.1, ()), r2.2.1, ())
def R22_Resign (a0 : (Bool × Int × Unit) × ((List Int) × (List Int) × Unit) × Int × Unit) (a1 : Int) : Option (((Bool × Int × Unit) × ((List Int) × (List Int) × Unit) × Int × Unit) × Int × Unit) :=
  Option.bind (R22_Fine a0) fun r1 =>
  bif !r1 then
    some (a0, 1, ())
  else
    Option.bind (R21_Resign a0.2.1 a1) fun r2 =>
    some ((a0.1, r2.1, a0.2.2.1, ()), r2.2.1, ())
def R22_Offer (a0 : (Bool × Int × Unit) × ((List Int) × (List Int) × Unit) × Int × Unit) (a1 : Int) (a2 : Bool) : Option (((Bool × Int × Unit) × ((List Int) × (List Int) × Unit) × Int × Unit) × Int × Unit) :=
  Option.bind (R22_Fine a0) fun r1 =>
  bif !r1 then
    some (a0, 1, ())
  else
    bif a2 then
      bif !a0.1.1 then
        some (a0, 12, ())
      else
        bif decide (a0.2.2.1 = a0.1.2.1) then
          some (a0, 14, ())
        else
          Option.bind (R21_Offer a0.2.1 a1) fun r2 =>
          some ((a0.1, r2.1, a0.2.2.1, ()), r2.2.1, ())
    else
      bif decide (a0.2.2.1 = a0.1.2.1) then
        some (a0, 14, ())
      else
        Option.bind (R21_Offer a0.2.1 a1) fun r3 =>
        some ((a0.1, r3.1, a0.2.2.1, ()), r3.2.1, ())
def R22_Withdraw (a0 : (Bool × Int × Unit) × ((List Int) × (List Int) × Unit) × Int × Unit) (a1 : Int) : Option ((Bool × Int × Unit) × ((List Int) × (List Int) × Unit) × Int × Unit) :=
  Option.bind (R22_Fine a0) fun r1 =>
  bif !r1 then
    some a0
  else
    Option.bind (R21_Withdraw a0.2.1 a1) fun r2 =>
    some (a0.1, r2.1, a0.2.2.1, ())
end Go.Proofs.YtkpobmmabmelfaaDoorV
