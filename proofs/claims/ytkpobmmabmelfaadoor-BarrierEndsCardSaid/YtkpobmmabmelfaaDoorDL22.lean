import Derived.Test.YtkpobmmabmelfaaDoorVcG1
import Derived.Test.YtkpobmmabmelfaaDoorDL21
import Derived.Test.YtkpobmmabmelfaaDoorDR02
import Derived.Test.YtkpobmmabmelfaaDoorDR22
import Derived.Test.YtkpobmmabmelfaaDoorDbarrier
import Derived.Test.YtkpobmmabmelfaaDoorDbitset
namespace Go.Proofs.YtkpobmmabmelfaaDoorV
set_option linter.unusedVariables false
def L22_Small (a0 : (Bool × Int × Unit) × ((List Int) × (List Int) × Unit) × Int × Unit) : Option Bool :=
  bif decide ((a0.2.1.1.length : Int) ≤ 40) then
    some (decide ((a0.2.1.2.1.length : Int) ≤ 40))
  else
    some false
def L22_alive : Option Bool :=
  Option.bind (barrier_New (false, 1, ())) fun r1 =>
  Option.bind (barrier_Enrol r1.1 2) fun r2 =>
  Option.bind (barrier_Offer r2.1 2 true) fun r3 =>
  Option.bind (barrier_Offer r2.1 2 false) fun r4 =>
  Option.bind (barrier_Fire r4.1) fun r5 =>
  Option.bind (barrier_Offer r5.1 2 false) fun r6 =>
  bif decide (r1.2.1 = 0) then
    bif decide (r2.2.1 = 0) then
      bif decide (r3.2.1 = 12) then
        bif decide (r4.2.1 = 0) then
          Option.bind (barrier_Ready r4.1) fun r7 =>
          bif r7 then
            Option.bind (barrier_Withdraw r4.1 2) fun r8 =>
            Option.bind (barrier_Ready r8) fun r9 =>
            bif !r9 then
              bif decide (r5.2.2.1 = 0) then
                bif decide (r5.1.2.2.1 = 1) then
                  Option.bind (R02_Same r5.2.1 [2]) fun r10 =>
                  bif r10 then
                    bif decide (r6.2.1 = 14) then
                      Option.bind (barrier_Fine r5.1) fun r11 =>
                      bif r11 then
                        Option.bind (barrier_Check (false, 0, ())) fun r12 =>
                        some (decide (r12 = 8))
                      else
                        some false
                    else
                      some false
                  else
                    some false
                else
                  some false
              else
                some false
            else
              some false
          else
            some false
        else
          some false
      else
        some false
    else
      some false
  else
    some false
def L22_Plain (a0 : (Bool × Int × Unit) × ((List Int) × (List Int) × Unit) × Int × Unit) : Option ((Bool × Int × Unit) × ((List Int) × (List Int) × Unit) × Int × Unit) :=
  Option.bind (L21_Plain a0.2.1) fun r1 =>
  some (a0.1, r1, a0.2.2.1, ())
def L22_To (a0 : (Bool × Int × Unit) × ((List Int) × (List Int) × Unit) × Int × Unit) : Option ((Bool × Int × Unit) × ((List Int) × (List Int) × Unit) × Int × Unit) :=
  Option.bind (L21_Plain a0.2.1) fun r1 =>
  Option.bind (L21_To r1) fun r2 =>
  some (a0.1, r2, a0.2.2.1, ())
def L22_Same (a0 : (Bool × Int × Unit) × ((List Int) × (List Int) × Unit) × Int × Unit) (a1 : (Bool × Int × Unit) × ((List Int) × (List Int) × Unit) × Int × Unit) : Option Bool :=
  bif (a0.1.1 == a1.1.1) && ((decide (a0.1.2.1 = a1.1.2.1)) && true) then
    Option.bind (L21_Same a0.2.1 a1.2.1) fun r1 =>
    bif r1 then
      some (decide (a0.2.2.1 = a1.2.2.1))
    else
      some false
  else
    some false
def L22_From (a0 : (Bool × Int × Unit) × ((List Int) × (List Int) × Unit) × Int × Unit) : Option ((Bool × Int × Unit) × ((List Int) × (List Int) × Unit) × Int × Unit) :=
  Option.bind (L21_From a0.2.1) fun r1 =>
  some (a0.1, r1, a0.2.2.1, ())
end Go.Proofs.YtkpobmmabmelfaaDoorV
