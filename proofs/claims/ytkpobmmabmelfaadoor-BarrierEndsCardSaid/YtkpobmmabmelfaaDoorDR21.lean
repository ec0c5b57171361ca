import Derived.Test.YtkpobmmabmelfaaDoorVcG1
import Derived.Test.YtkpobmmabmelfaaDoorDR04
namespace Go.Proofs.YtkpobmmabmelfaaDoorV
set_option linter.unusedVariables false
def R21_Fine_J1 (a0 : (List Int) × (List Int) × Unit) : Option Bool :=
  Option.bind (R04_Less a0.2.1 a0.1) fun r1 =>
  some (decide ((r1.length : Int) = 0))
def R21_Fine_L1 (a0 : (List Int) × (List Int) × Unit) (k1 : Int → Option Bool) (x1 : Int) : Option Bool :=
  bif decide (x1 < (a0.1.length : Int)) then
    chk (0 ≤ x1 ∧ x1 < (a0.1.length : Int)) <|
    bif decide ((a0.1.getD x1.toNat 0) < 0) then
      some false
    else
      chk (0 ≤ x1 ∧ x1 < (a0.1.length : Int)) <|
      bif decide ((a0.1.getD x1.toNat 0) > 15) then
        some false
      else
        k1 (IntKind.i64.wrap (x1 + 1))
  else
    R21_Fine_J1 a0
def R21_Fine (a0 : (List Int) × (List Int) × Unit) : Option Bool :=
  loop (R21_Fine_L1 a0) 0
def R21_Full (a0 : (List Int) × (List Int) × Unit) : Option Bool :=
  Option.bind (R21_Fine a0) fun r1 =>
  bif r1 then
    bif decide ((a0.1.length : Int) > 0) then
      letv (decide ((a0.2.1.length : Int) = (a0.1.length : Int))) fun v1 =>
      some v1
    else
      some false
  else
    some false
def R21_Fire (a0 : (List Int) × (List Int) × Unit) : Option (((List Int) × (List Int) × Unit) × (List Int) × Int × Unit) :=
  Option.bind (R21_Fine a0) fun r1 =>
  bif !r1 then
    some (a0, [], 1, ())
  else
    Option.bind (R21_Full a0) fun r2 =>
    bif !r2 then
      some (a0, [], 13, ())
    else
      some ((a0.1, [], ()), a0.2.1, 0, ())
def R21_asked (a0 : (List Int) × (List Int) × Unit) (a1 : Int) : Option Int :=
  Option.bind (R21_Fine a0) fun r1 =>
  bif !r1 then
    some 1
  else
    bif decide (a1 < 0) then
      some 8
    else
      bif decide (a1 > 15) then
        some 8
      else
        some 0
def R21_Enrol (a0 : (List Int) × (List Int) × Unit) (a1 : Int) : Option (((List Int) × (List Int) × Unit) × Int × Unit) :=
  Option.bind (R21_asked a0 a1) fun r1 =>
  bif !decide (r1 = 0) then
    some (a0, r1, ())
  else
    Option.bind (R04_Has a0.1 a1) fun r2 =>
    bif r2 then
      some (a0, 7, ())
    else
      Option.bind (R04_Add a0.1 a1) fun r3 =>
      some ((r3, a0.2.1, ()), 0, ())
def R21_Resign (a0 : (List Int) × (List Int) × Unit) (a1 : Int) : Option (((List Int) × (List Int) × Unit) × Int × Unit) :=
  Option.bind (R21_asked a0 a1) fun r1 =>
  bif !decide (r1 = 0) then
    some (a0, r1, ())
  else
    Option.bind (R04_Has a0.1 a1) fun r2 =>
    bif !r2 then
      some (a0, 6, ())
    else
      Option.bind (R04_Drop a0.1 a1) fun r3 =>
      Option.bind (R04_Drop a0.2.1 a1) fun r4 =>
      some ((r3, r4, ()), 0, ())
def R21_Offer (a0 : (List Int) × (List Int) × Unit) (a1 : Int) : Option (((List Int) × (List Int) × Unit) × Int × Unit) :=
  Option.bind (R21_asked a0 a1) fun r1 =>
  bif !decide (r1 = 0) then
    some (a0, r1, ())
  else
    Option.bind (R04_Has a0.1 a1) fun r2 =>
    bif !r2 then
      some (a0, 6, ())
    else
      Option.bind (R04_Has a0.2.1 a1) fun r3 =>
      bif r3 then
        some (a0, 7, ())
      else
        Option.bind (R04_Add a0.2.1 a1) fun r4 =>
        some ((a0.1, r4, ()), 0, ())
def R21_Withdraw (a0 : (List Int) × (List Int) × Unit) (a1 : Int) : Option (((List Int) × (List Int) × Unit) × Bool × Unit) :=
  Option.bind (R21_Fine a0) fun r1 =>
  bif !r1 then
    some (a0, false, ())
  else
    Option.bind (R04_Has a0.2.1 a1) fun r2 =>
    bif !r2 then
      some (a0, false, ())
    else
      Option.bind (R04_Drop a0.2.1 a1) fun r3 =>
      some ((a0.1, r3, ()), true, ())
end Go.Proofs.YtkpobmmabmelfaaDoorV
