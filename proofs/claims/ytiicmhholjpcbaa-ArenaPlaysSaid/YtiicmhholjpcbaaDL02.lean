import Derived.Test.YtiicmhholjpcbaaVcMt
import Derived.Test.YtiicmhholjpcbaaDR02
import Derived.Test.YtiicmhholjpcbaaDarena
namespace Go.Proofs.YtiicmhholjpcbaaV
set_option linter.unusedVariables false
def L02_alive_C1 (k1 : ((List (Int × Bool × Int × Unit))) → Option Bool) : Option Bool :=
  chk ((1 : Int) = (1 : Int) ∧ 0 ≤ (1 : Int) ∧ (1 : Int) ≤ 4294967296) <|
  letv (List.replicate (1 : Int).toNat (0, false, 0, ())) fun l1 =>
  k1 l1
def L02_alive_C2 (r1 : (Int × Int × (List (Int × Bool × Int × Unit)) × Unit) × (Int × Int × Unit)) (r2 : (Int × Int × (List (Int × Bool × Int × Unit)) × Unit) × (Int × Unit)) (r3 : (Int × Int × (List (Int × Bool × Int × Unit)) × Unit) × (Int × Int × Unit)) (r4 : (Int × Int × (List (Int × Bool × Int × Unit)) × Unit) × (Int × Int × Unit)) (r5 : (Int × Int × (List (Int × Bool × Int × Unit)) × Unit) × (Int × Int × Unit)) (r7 : (Int × Int × (List (Int × Bool × Int × Unit)) × Unit) × (Int × Int × Unit)) (k2 : Bool → Option Bool) : Option Bool :=
  bif decide (r1.2.1 = 4096) then
    bif decide (r1.2.2.1 = 0) then
      bif decide (r2.2.1 = 0) then
        bif decide (r3.2.1 = 8192) then
          bif decide (r3.2.2.1 = 0) then
            bif decide (r4.2.1 = 6) then
              bif decide (r4.2.2.1 = 0) then
                bif decide (r5.2.2.1 = 9) then
                  bif decide (r7.2.2.1 = 10) then
                    Option.bind (arena_Table_int_Len r7.1) fun r8 =>
                    bif decide (r8.2.1 = 0) then
                      Option.bind (arena_Table_int_Free r8.1) fun r9 =>
                      bif decide (r9.2.1 = 0) then
                        Option.bind (arena_Table_int_Handles r9.1) fun r10 =>
                        k2 (decide ((r10.2.1.length : Int) = 0))
                      else
                        k2 false
                    else
                      k2 false
                  else
                    k2 false
                else
                  k2 false
              else
                k2 false
            else
              k2 false
          else
            k2 false
        else
          k2 false
      else
        k2 false
    else
      k2 false
  else
    k2 false
def L02_alive_R2 (x2 : Bool) : Option Bool :=
  some x2
def L02_alive_R1 (x1 : (List (Int × Bool × Int × Unit))) : Option Bool :=
  Option.bind (arena_Table_int_Add (2, 0, x1, ()) 5) fun r1 =>
  Option.bind (arena_Table_int_Drop r1.1 r1.2.1) fun r2 =>
  Option.bind (arena_Table_int_Add r2.1 6) fun r3 =>
  Option.bind (arena_Table_int_Get r3.1 r3.2.1) fun r4 =>
  Option.bind (arena_Table_int_Get r4.1 r1.2.1) fun r5 =>
  Option.bind (arena_Table_int_Drop r5.1 r3.2.1) fun r6 =>
  Option.bind (arena_Table_int_Add r6.1 7) fun r7 =>
  cutv 2 (L02_alive_C2 r1 r2 r3 r4 r5 r7) L02_alive_R2
def L02_alive : Option Bool :=
  cutv 1 L02_alive_C1 L02_alive_R1
def L02_as_C1 (r1 : (Int × Int × (List (Int × Bool × Int × Unit)) × Unit) × (Int × Int × Unit)) (r2 : Int × Int × Unit) (a0 : Int × (List Int) × (List (Int × Int × Unit)) × Unit) (k1 : (Bool × Int × Int × (List (Int × Bool × Int × Unit))) → Option ((Int × Int × (List (Int × Bool × Int × Unit)) × Unit) × (Bool × Unit))) : Option ((Int × Int × (List (Int × Bool × Int × Unit)) × Unit) × (Bool × Unit)) :=
  bif decide (r1.2.1 = r2.1) then
    bif decide (r1.2.2.1 = r2.2.1) then
      Option.bind (arena_Table_int_Handles r1.1) fun r3 =>
      Option.bind (R02_Handles a0) fun r4 =>
      Option.bind (R02_Same r3.2.1 r4) fun r5 =>
      bif r5 then
        Option.bind (arena_Table_int_Len r3.1) fun r6 =>
        bif decide (r6.2.1 = (a0.2.2.1.length : Int)) then
          Option.bind (arena_Table_int_Free r6.1) fun r7 =>
          Option.bind (R02_Free a0) fun r8 =>
          k1 (decide (r7.2.1 = r8), r7.1.1, r7.1.2.1, r7.1.2.2.1)
        else
          k1 (false, r6.1.1, r6.1.2.1, r6.1.2.2.1)
      else
        k1 (false, r3.1.1, r3.1.2.1, r3.1.2.2.1)
    else
      k1 (false, r1.1.1, r1.1.2.1, r1.1.2.2.1)
  else
    k1 (false, r1.1.1, r1.1.2.1, r1.1.2.2.1)
def L02_as_R1 (x1 : Bool × Int × Int × (List (Int × Bool × Int × Unit))) : Option ((Int × Int × (List (Int × Bool × Int × Unit)) × Unit) × (Bool × Unit)) :=
  some ((x1.2.1, x1.2.2.1, x1.2.2.2, ()), (x1.1, ()))
def L02_as (x : Int × Int × (List (Int × Bool × Int × Unit)) × Unit) (a0 : Int × (List Int) × (List (Int × Int × Unit)) × Unit) (a1 : Int) : Option ((Int × Int × (List (Int × Bool × Int × Unit)) × Unit) × (Bool × Unit)) :=
  Option.bind (arena_Table_int_Get x a1) fun r1 =>
  Option.bind (R02_Get a0 a1) fun r2 =>
  cutv 1 (L02_as_C1 r1 r2 a0) L02_as_R1
end Go.Proofs.YtiicmhholjpcbaaV
