import Derived.Test.YtiicmhholjpcbaaVcMt
import Derived.Test.YtiicmhholjpcbaaDhandle
namespace Go.Proofs.YtiicmhholjpcbaaV
set_option linter.unusedVariables false
def arena_Table_int_ok (x : Int × Int × (List (Int × Bool × Int × Unit)) × Unit) : Option ((Int × Int × (List (Int × Bool × Int × Unit)) × Unit) × (Bool × Unit)) :=
  some (x, (decide ((x.2.2.1.length : Int) > 0), ()))
def arena_Table_int_Drop (x : Int × Int × (List (Int × Bool × Int × Unit)) × Unit) (a0 : Int) : Option ((Int × Int × (List (Int × Bool × Int × Unit)) × Unit) × (Int × Unit)) :=
  Option.bind (arena_Table_int_ok x) fun r1 =>
  bif !r1.2.1 then
    some (r1.1, (2, ()))
  else
    Option.bind (handle_Slot a0) fun r2 =>
    bif decide (r2 < 0) then
      some (r1.1, (8, ()))
    else
      bif decide (r2 ≥ (r1.1.2.2.1.length : Int)) then
        some (r1.1, (8, ()))
      else
        chk (0 ≤ r2 ∧ r2 < (r1.1.2.2.1.length : Int)) <|
        bif !(r1.1.2.2.1.getD r2.toNat (0, false, 0, ())).2.1 then
          some (r1.1, (9, ()))
        else
          Option.bind (handle_Gen a0) fun r3 =>
          bif !decide ((r1.1.2.2.1.getD r2.toNat (0, false, 0, ())).1 = r3) then
            some (r1.1, (9, ()))
          else
            letv (r1.1.2.2.1.set r2.toNat ((r1.1.2.2.1.getD r2.toNat (0, false, 0, ())).1, false, (r1.1.2.2.1.getD r2.toNat (0, false, 0, ())).2.2.1, ())) fun l1 =>
            letv (l1.set r2.toNat ((l1.getD r2.toNat (0, false, 0, ())).1, (l1.getD r2.toNat (0, false, 0, ())).2.1, 0, ())) fun l2 =>
            some ((r1.1.1, IntKind.i64.wrap (r1.1.2.1 - 1), l2, ()), (0, ()))
def arena_Table_int_open (x : Int × Int × (List (Int × Bool × Int × Unit)) × Unit) (a0 : Int) : Option ((Int × Int × (List (Int × Bool × Int × Unit)) × Unit) × (Bool × Unit)) :=
  chk (0 ≤ a0 ∧ a0 < (x.2.2.1.length : Int)) <|
  bif !(x.2.2.1.getD a0.toNat (0, false, 0, ())).2.1 then
    chk (0 ≤ a0 ∧ a0 < (x.2.2.1.length : Int)) <|
    letv (decide ((x.2.2.1.getD a0.toNat (0, false, 0, ())).1 < x.1)) fun v1 =>
    some (x, (v1, ()))
  else
    some (x, (false, ()))
def arena_Table_int_Add_J1 (p1 : Int) (p2 : Int) (p3 : List (Int × Bool × Int × Unit)) : Option ((Int × Int × (List (Int × Bool × Int × Unit)) × Unit) × (Int × Int × Unit)) :=
  some ((p1, p2, p3, ()), (0, 10, ()))
def arena_Table_int_Add_L1 (p4 : Int) (a0 : Int) (k1 : (Int × Int × Int × (List (Int × Bool × Int × Unit))) → Option ((Int × Int × (List (Int × Bool × Int × Unit)) × Unit) × (Int × Int × Unit))) (x1 : Int × Int × Int × (List (Int × Bool × Int × Unit))) : Option ((Int × Int × (List (Int × Bool × Int × Unit)) × Unit) × (Int × Int × Unit)) :=
  bif decide (x1.1 < p4) then
    Option.bind (arena_Table_int_open (x1.2.1, x1.2.2.1, x1.2.2.2, ()) x1.1) fun r2 =>
    bif r2.2.1 then
      chk (0 ≤ x1.1 ∧ x1.1 < (r2.1.2.2.1.length : Int)) <|
      letv (r2.1.2.2.1.set x1.1.toNat (IntKind.i64.wrap ((r2.1.2.2.1.getD x1.1.toNat (0, false, 0, ())).1 + 1), (r2.1.2.2.1.getD x1.1.toNat (0, false, 0, ())).2.1, (r2.1.2.2.1.getD x1.1.toNat (0, false, 0, ())).2.2.1, ())) fun l1 =>
      letv (l1.set x1.1.toNat ((l1.getD x1.1.toNat (0, false, 0, ())).1, true, (l1.getD x1.1.toNat (0, false, 0, ())).2.2.1, ())) fun l2 =>
      letv (l2.set x1.1.toNat ((l2.getD x1.1.toNat (0, false, 0, ())).1, (l2.getD x1.1.toNat (0, false, 0, ())).2.1, a0, ())) fun l3 =>
      Option.bind (handle_Make x1.1 (l3.getD x1.1.toNat (0, false, 0, ())).1) fun r3 =>
      some ((r2.1.1, IntKind.i64.wrap (r2.1.2.1 + 1), l3, ()), (r3.1, r3.2.1, ()))
    else
      k1 (IntKind.i64.wrap (x1.1 + 1), r2.1.1, r2.1.2.1, r2.1.2.2.1)
  else
    arena_Table_int_Add_J1 x1.2.1 x1.2.2.1 x1.2.2.2
def arena_Table_int_Add (x : Int × Int × (List (Int × Bool × Int × Unit)) × Unit) (a0 : Int) : Option ((Int × Int × (List (Int × Bool × Int × Unit)) × Unit) × (Int × Int × Unit)) :=
  Option.bind (arena_Table_int_ok x) fun r1 =>
  bif !r1.2.1 then
    some (r1.1, (0, 2, ()))
  else
    loop (arena_Table_int_Add_L1 (r1.1.2.2.1.length : Int) a0) (0, r1.1.1, r1.1.2.1, r1.1.2.2.1)
def arena_Table_int_Get (x : Int × Int × (List (Int × Bool × Int × Unit)) × Unit) (a0 : Int) : Option ((Int × Int × (List (Int × Bool × Int × Unit)) × Unit) × (Int × Int × Unit)) :=
  Option.bind (arena_Table_int_ok x) fun r1 =>
  bif !r1.2.1 then
    some (r1.1, (0, 2, ()))
  else
    Option.bind (handle_Slot a0) fun r2 =>
    bif decide (r2 < 0) then
      some (r1.1, (0, 8, ()))
    else
      bif decide (r2 ≥ (r1.1.2.2.1.length : Int)) then
        some (r1.1, (0, 8, ()))
      else
        chk (0 ≤ r2 ∧ r2 < (r1.1.2.2.1.length : Int)) <|
        bif !(r1.1.2.2.1.getD r2.toNat (0, false, 0, ())).2.1 then
          some (r1.1, (0, 9, ()))
        else
          Option.bind (handle_Gen a0) fun r3 =>
          bif !decide ((r1.1.2.2.1.getD r2.toNat (0, false, 0, ())).1 = r3) then
            some (r1.1, (0, 9, ()))
          else
            letv ((r1.1.2.2.1.getD r2.toNat (0, false, 0, ())).2.2.1) fun v1 =>
            some (r1.1, (v1, 0, ()))
def arena_Table_int_Len (x : Int × Int × (List (Int × Bool × Int × Unit)) × Unit) : Option ((Int × Int × (List (Int × Bool × Int × Unit)) × Unit) × (Int × Unit)) :=
  Option.bind (arena_Table_int_ok x) fun r1 =>
  bif !r1.2.1 then
    some (r1.1, (0, ()))
  else
    some (r1.1, (r1.1.2.1, ()))
def arena_Table_int_Free_J1 (p1 : Int) (p2 : Int) (p3 : Int) (p4 : List (Int × Bool × Int × Unit)) : Option ((Int × Int × (List (Int × Bool × Int × Unit)) × Unit) × (Int × Unit)) :=
  some ((p2, p3, p4, ()), (p1, ()))
def arena_Table_int_Free_L1 (p5 : Int) (k1 : (Int × Int × Int × Int × (List (Int × Bool × Int × Unit))) → Option ((Int × Int × (List (Int × Bool × Int × Unit)) × Unit) × (Int × Unit))) (x1 : Int × Int × Int × Int × (List (Int × Bool × Int × Unit))) : Option ((Int × Int × (List (Int × Bool × Int × Unit)) × Unit) × (Int × Unit)) :=
  bif decide (x1.2.1 < p5) then
    Option.bind (arena_Table_int_open (x1.2.2.1, x1.2.2.2.1, x1.2.2.2.2, ()) x1.2.1) fun r2 =>
    bif r2.2.1 then
      k1 (IntKind.i64.wrap (x1.1 + 1), IntKind.i64.wrap (x1.2.1 + 1), r2.1.1, r2.1.2.1, r2.1.2.2.1)
    else
      k1 (x1.1, IntKind.i64.wrap (x1.2.1 + 1), r2.1.1, r2.1.2.1, r2.1.2.2.1)
  else
    arena_Table_int_Free_J1 x1.1 x1.2.2.1 x1.2.2.2.1 x1.2.2.2.2
def arena_Table_int_Free (x : Int × Int × (List (Int × Bool × Int × Unit)) × Unit) : Option ((Int × Int × (List (Int × Bool × Int × Unit)) × Unit) × (Int × Unit)) :=
  Option.bind (arena_Table_int_ok x) fun r1 =>
  bif !r1.2.1 then
    some (r1.1, (0, ()))
  else
    loop (arena_Table_int_Free_L1 (r1.1.2.2.1.length : Int)) (0, 0, r1.1.1, r1.1.2.1, r1.1.2.2.1)
def arena_Table_int_Handles_J1 (r1 : (Int × Int × (List (Int × Bool × Int × Unit)) × Unit) × (Bool × Unit)) (p1 : List Int) : Option ((Int × Int × (List (Int × Bool × Int × Unit)) × Unit) × ((List Int) × Unit)) :=
  some (r1.1, (p1, ()))
def arena_Table_int_Handles_L1 (p2 : Int) (r1 : (Int × Int × (List (Int × Bool × Int × Unit)) × Unit) × (Bool × Unit)) (k1 : (Int × List Int) → Option ((Int × Int × (List (Int × Bool × Int × Unit)) × Unit) × ((List Int) × Unit))) (x1 : Int × List Int) : Option ((Int × Int × (List (Int × Bool × Int × Unit)) × Unit) × ((List Int) × Unit)) :=
  bif decide (x1.1 < p2) then
    chk (0 ≤ x1.1 ∧ x1.1 < (r1.1.2.2.1.length : Int)) <|
    bif (r1.1.2.2.1.getD x1.1.toNat (0, false, 0, ())).2.1 then
      Option.bind (handle_Make x1.1 (r1.1.2.2.1.getD x1.1.toNat (0, false, 0, ())).1) fun r2 =>
      chk (x1.2.length + ([r2.1] : List Int).length ≤ 4294967296) <|
      k1 (IntKind.i64.wrap (x1.1 + 1), x1.2 ++ [r2.1])
    else
      k1 (IntKind.i64.wrap (x1.1 + 1), x1.2)
  else
    arena_Table_int_Handles_J1 r1 x1.2
def arena_Table_int_Handles (x : Int × Int × (List (Int × Bool × Int × Unit)) × Unit) : Option ((Int × Int × (List (Int × Bool × Int × Unit)) × Unit) × ((List Int) × Unit)) :=
  Option.bind (arena_Table_int_ok x) fun r1 =>
  bif !r1.2.1 then
    some (r1.1, ([], ()))
  else
    loop (arena_Table_int_Handles_L1 (r1.1.2.2.1.length : Int) r1) (0, [])
def arena_Table_int_Set (x : Int × Int × (List (Int × Bool × Int × Unit)) × Unit) (a0 : Int) (a1 : Int) : Option ((Int × Int × (List (Int × Bool × Int × Unit)) × Unit) × (Int × Unit)) :=
  Option.bind (arena_Table_int_ok x) fun r1 =>
  bif !r1.2.1 then
    some (r1.1, (2, ()))
  else
    Option.bind (handle_Slot a0) fun r2 =>
    bif decide (r2 < 0) then
      some (r1.1, (8, ()))
    else
      bif decide (r2 ≥ (r1.1.2.2.1.length : Int)) then
        some (r1.1, (8, ()))
      else
        chk (0 ≤ r2 ∧ r2 < (r1.1.2.2.1.length : Int)) <|
        bif !(r1.1.2.2.1.getD r2.toNat (0, false, 0, ())).2.1 then
          some (r1.1, (9, ()))
        else
          Option.bind (handle_Gen a0) fun r3 =>
          bif !decide ((r1.1.2.2.1.getD r2.toNat (0, false, 0, ())).1 = r3) then
            some (r1.1, (9, ()))
          else
            letv (r1.1.2.2.1.set r2.toNat ((r1.1.2.2.1.getD r2.toNat (0, false, 0, ())).1, (r1.1.2.2.1.getD r2.toNat (0, false, 0, ())).2.1, a1, ())) fun l1 =>
            some ((r1.1.1, r1.1.2.1, l1, ()), (0, ()))
end Go.Proofs.YtiicmhholjpcbaaV
