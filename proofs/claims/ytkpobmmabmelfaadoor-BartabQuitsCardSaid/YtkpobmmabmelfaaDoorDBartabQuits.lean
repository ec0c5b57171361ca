import Derived.Test.YtkpobmmabmelfaaDoorVcG1
import Derived.Test.YtkpobmmabmelfaaDoorDL23
import Derived.Test.YtkpobmmabmelfaaDoorDbarrier
import Derived.Test.YtkpobmmabmelfaaDoorDbartab
import Derived.Test.YtkpobmmabmelfaaDoorDbitset
namespace Go.Proofs.YtkpobmmabmelfaaDoorV
set_option linter.unusedVariables false
def L23_BartabQuits_J1 (r6 : (List ((Bool × Int × Unit) × ((List Int) × (List Int) × Unit) × Int × Unit)) × Int × Int × Unit) (a2 : Int) (p1 : Bool) : Option Bool :=
  Option.bind (bartab_Fire r6.1 a2) fun r11 =>
  bif p1 == (decide (r11.2.2.1 = 0)) then
    Option.bind (L23_alive) fun r12 =>
    some r12
  else
    some false
def L23_BartabQuits_L1 (p2 : Int) (r10 : List Int) (a2 : Int) (r6 : (List ((Bool × Int × Unit) × ((List Int) × (List Int) × Unit) × Int × Unit)) × Int × Int × Unit) (k1 : (Bool × Int) → Option Bool) (x1 : Bool × Int) : Option Bool :=
  bif decide (x1.2 < p2) then
    chk (0 ≤ x1.2 ∧ x1.2 < (r10.length : Int)) <|
    bif x1.1 then
      k1 (true, IntKind.i64.wrap (x1.2 + 1))
    else
      k1 (decide ((r10.getD x1.2.toNat 0) = a2), IntKind.i64.wrap (x1.2 + 1))
  else
    L23_BartabQuits_J1 r6 a2 x1.1
def L23_BartabQuits_J2 (r6 : (List ((Bool × Int × Unit) × ((List Int) × (List Int) × Unit) × Int × Unit)) × Int × Int × Unit) (a2 : Int) : Option Bool :=
  Option.bind (bartab_Ready r6.1) fun r10 =>
  loop (L23_BartabQuits_L1 (r10.length : Int) r10 a2 r6) (false, 0)
def L23_BartabQuits_L2 (p3 : Int) (r9 : List ((Bool × Int × Unit) × ((List Int) × (List Int) × Unit) × Int × Unit)) (a1 : Int × (List (Int × Int × Int × Int × Int × Unit)) × Bool × Unit) (r6 : (List ((Bool × Int × Unit) × ((List Int) × (List Int) × Unit) × Int × Unit)) × Int × Int × Unit) (a2 : Int) (k2 : Int → Option Bool) (x2 : Int) : Option Bool :=
  bif decide (x2 < p3) then
    chk (0 ≤ x2 ∧ x2 < (r9.length : Int)) <|
    Option.bind (barrier_Fine (r9.getD x2.toNat ((false, 0, ()), ((List.replicate 4 0), (List.replicate 4 0), ()), 0, ()))) fun r13 =>
    bif r13 then
      Option.bind (bitset_Has (r9.getD x2.toNat ((false, 0, ()), ((List.replicate 4 0), (List.replicate 4 0), ()), 0, ())).2.1.1 a1.1) fun r14 =>
      bif r14 then
        some false
      else
        Option.bind (bitset_Has (r9.getD x2.toNat ((false, 0, ()), ((List.replicate 4 0), (List.replicate 4 0), ()), 0, ())).2.1.2.1 a1.1) fun r15 =>
        bif r15 then
          some false
        else
          k2 (IntKind.i64.wrap (x2 + 1))
    else
      k2 (IntKind.i64.wrap (x2 + 1))
  else
    L23_BartabQuits_J2 r6 a2
def L23_BartabQuits_J3 (r6 : (List ((Bool × Int × Unit) × ((List Int) × (List Int) × Unit) × Int × Unit)) × Int × Int × Unit) (a2 : Int) (p4 : Bool) : Option Bool :=
  Option.bind (bartab_Fire r6.1 a2) fun r18 =>
  bif p4 == (decide (r18.2.2.1 = 0)) then
    Option.bind (L23_alive) fun r19 =>
    some r19
  else
    some false
def L23_BartabQuits_L3 (p5 : Int) (r17 : List Int) (a2 : Int) (r6 : (List ((Bool × Int × Unit) × ((List Int) × (List Int) × Unit) × Int × Unit)) × Int × Int × Unit) (k3 : (Bool × Int) → Option Bool) (x3 : Bool × Int) : Option Bool :=
  bif decide (x3.2 < p5) then
    chk (0 ≤ x3.2 ∧ x3.2 < (r17.length : Int)) <|
    bif x3.1 then
      k3 (true, IntKind.i64.wrap (x3.2 + 1))
    else
      k3 (decide ((r17.getD x3.2.toNat 0) = a2), IntKind.i64.wrap (x3.2 + 1))
  else
    L23_BartabQuits_J3 r6 a2 x3.1
def L23_BartabQuits_J4 (r6 : (List ((Bool × Int × Unit) × ((List Int) × (List Int) × Unit) × Int × Unit)) × Int × Int × Unit) (a2 : Int) : Option Bool :=
  Option.bind (bartab_Ready r6.1) fun r17 =>
  loop (L23_BartabQuits_L3 (r17.length : Int) r17 a2 r6) (false, 0)
def L23_BartabQuits_L4 (p6 : Int) (r16 : List ((Bool × Int × Unit) × ((List Int) × (List Int) × Unit) × Int × Unit)) (a1 : Int × (List (Int × Int × Int × Int × Int × Unit)) × Bool × Unit) (r6 : (List ((Bool × Int × Unit) × ((List Int) × (List Int) × Unit) × Int × Unit)) × Int × Int × Unit) (a2 : Int) (k4 : Int → Option Bool) (x4 : Int) : Option Bool :=
  bif decide (x4 < p6) then
    chk (0 ≤ x4 ∧ x4 < (r16.length : Int)) <|
    Option.bind (barrier_Fine (r16.getD x4.toNat ((false, 0, ()), ((List.replicate 4 0), (List.replicate 4 0), ()), 0, ()))) fun r20 =>
    bif r20 then
      Option.bind (bitset_Has (r16.getD x4.toNat ((false, 0, ()), ((List.replicate 4 0), (List.replicate 4 0), ()), 0, ())).2.1.1 a1.1) fun r21 =>
      bif r21 then
        some false
      else
        Option.bind (bitset_Has (r16.getD x4.toNat ((false, 0, ()), ((List.replicate 4 0), (List.replicate 4 0), ()), 0, ())).2.1.2.1 a1.1) fun r22 =>
        bif r22 then
          some false
        else
          k4 (IntKind.i64.wrap (x4 + 1))
    else
      k4 (IntKind.i64.wrap (x4 + 1))
  else
    L23_BartabQuits_J4 r6 a2
def L23_BartabQuits (a0 : List ((Bool × Int × Unit) × ((List Int) × (List Int) × Unit) × Int × Unit)) (a1 : Int × (List (Int × Int × Int × Int × Int × Unit)) × Bool × Unit) (a2 : Int) : Option Bool :=
  Option.bind (L23_Small a0) fun r1 =>
  bif !r1 then
    Option.bind (L23_alive) fun r2 =>
    some r2
  else
    bif decide ((a1.2.1.length : Int) > 8) then
      Option.bind (L23_alive) fun r3 =>
      some r3
    else
      Option.bind (L23_Plain a0) fun r4 =>
      Option.bind (L23_To r4) fun r5 =>
      Option.bind (bartab_Offer r5 a1.1 a1.2.1 a1.2.2.1) fun r6 =>
      bif !decide (r6.2.2.1 = 0) then
        Option.bind (L23_From r6.1) fun r7 =>
        Option.bind (L23_Same r7 r4) fun r8 =>
        bif !r8 then
          some false
        else
          Option.bind (bartab_Quit r6.1 a1.1) fun r9 =>
          loop (L23_BartabQuits_L2 (r9.length : Int) r9 a1 r6 a2) 0
      else
        Option.bind (bartab_Quit r6.1 a1.1) fun r16 =>
        loop (L23_BartabQuits_L4 (r16.length : Int) r16 a1 r6 a2) 0
end Go.Proofs.YtkpobmmabmelfaaDoorV
