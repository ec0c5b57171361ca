import Derived.Test.YtdddmgbbjifkdaaDoorVcG1
namespace Go.Proofs.YtdddmgbbjifkdaaDoorV
set_option linter.unusedVariables false
def opcode_fine (a0 : Int) : Option Bool :=
  bif decide (a0 ≥ 0) then
    some (decide (a0 < 48))
  else
    some false
def opcode_Name (a0 : Int) : Option ByteArray :=
  Option.bind (opcode_fine a0) fun r1 =>
  bif !r1 then
    some (⟨#[]⟩ : ByteArray)
  else
    chk (0 ≤ a0 ∧ a0 < (48 : Int)) <|
    letv ((gl_becket_opcode_kinds.getD a0.toNat (⟨#[]⟩, ⟨#[]⟩, 0, ())).1) fun v1 =>
    some v1
def opcode_Form (a0 : Int) : Option ByteArray :=
  Option.bind (opcode_fine a0) fun r1 =>
  bif !r1 then
    some (⟨#[]⟩ : ByteArray)
  else
    chk (0 ≤ a0 ∧ a0 < (48 : Int)) <|
    letv ((gl_becket_opcode_kinds.getD a0.toNat (⟨#[]⟩, ⟨#[]⟩, 0, ())).2.1) fun v1 =>
    some v1
def opcode_Class (a0 : Int) : Option Int :=
  Option.bind (opcode_fine a0) fun r1 =>
  bif !r1 then
    some (-1)
  else
    chk (0 ≤ a0 ∧ a0 < (48 : Int)) <|
    letv ((gl_becket_opcode_kinds.getD a0.toNat (⟨#[]⟩, ⟨#[]⟩, 0, ())).2.2.1) fun v1 =>
    some v1
def opcode_Find_J1 : Option (Int × Bool × Unit) :=
  some (0, false, ())
def opcode_Find_L1 (a0 : ByteArray) (k1 : Int → Option (Int × Bool × Unit)) (x1 : Int) : Option (Int × Bool × Unit) :=
  bif decide (x1 < 48) then
    chk (0 ≤ x1 ∧ x1 < (48 : Int)) <|
    bif (gl_becket_opcode_kinds.getD x1.toNat (⟨#[]⟩, ⟨#[]⟩, 0, ())).1.toList == a0.toList then
      some (x1, true, ())
    else
      k1 (IntKind.i64.wrap (x1 + 1))
  else
    opcode_Find_J1
def opcode_Find (a0 : ByteArray) : Option (Int × Bool × Unit) :=
  loop (opcode_Find_L1 a0) 0
end Go.Proofs.YtdddmgbbjifkdaaDoorV
