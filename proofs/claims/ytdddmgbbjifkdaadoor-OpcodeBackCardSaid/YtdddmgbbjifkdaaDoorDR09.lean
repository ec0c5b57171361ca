import Derived.Test.YtdddmgbbjifkdaaDoorVcG1
namespace Go.Proofs.YtdddmgbbjifkdaaDoorV
set_option linter.unusedVariables false
def R09_Table : Option (List (ByteArray × ByteArray × Int × Unit)) :=
  letv ([((⟨#[110, 111, 112]⟩ : ByteArray), (⟨#[45, 45, 45]⟩ : ByteArray), 0, ()), ((⟨#[104, 97, 108, 116]⟩ : ByteArray), (⟨#[45, 45, 45]⟩ : ByteArray), 5, ()), ((⟨#[109, 111, 118]⟩ : ByteArray), (⟨#[114, 114, 45]⟩ : ByteArray), 0, ()), ((⟨#[115, 101, 116]⟩ : ByteArray), (⟨#[114, 105, 106]⟩ : ByteArray), 0, ()), ((⟨#[97, 100, 100]⟩ : ByteArray), (⟨#[114, 114, 114]⟩ : ByteArray), 0, ()), ((⟨#[115, 117, 98]⟩ : ByteArray), (⟨#[114, 114, 114]⟩ : ByteArray), 0, ()), ((⟨#[109, 117, 108]⟩ : ByteArray), (⟨#[114, 114, 114]⟩ : ByteArray), 0, ()), ((⟨#[100, 105, 118]⟩ : ByteArray), (⟨#[114, 114, 114]⟩ : ByteArray), 0, ()), ((⟨#[114, 101, 109]⟩ : ByteArray), (⟨#[114, 114, 114]⟩ : ByteArray), 0, ()), ((⟨#[97, 110, 100]⟩ : ByteArray), (⟨#[114, 114, 114]⟩ : ByteArray), 0, ()), ((⟨#[111, 114]⟩ : ByteArray), (⟨#[114, 114, 114]⟩ : ByteArray), 0, ()), ((⟨#[120, 111, 114]⟩ : ByteArray), (⟨#[114, 114, 114]⟩ : ByteArray), 0, ()), ((⟨#[115, 104, 108]⟩ : ByteArray), (⟨#[114, 114, 114]⟩ : ByteArray), 0, ()), ((⟨#[115, 104, 114]⟩ : ByteArray), (⟨#[114, 114, 114]⟩ : ByteArray), 0, ()), ((⟨#[110, 111, 116]⟩ : ByteArray), (⟨#[114, 114, 45]⟩ : ByteArray), 0, ()), ((⟨#[110, 101, 103]⟩ : ByteArray), (⟨#[114, 114, 45]⟩ : ByteArray), 0, ()), ((⟨#[108, 116]⟩ : ByteArray), (⟨#[114, 114, 114]⟩ : ByteArray), 0, ()), ((⟨#[101, 113]⟩ : ByteArray), (⟨#[114, 114, 114]⟩ : ByteArray), 0, ()), ((⟨#[106, 109, 112]⟩ : ByteArray), (⟨#[116, 45, 45]⟩ : ByteArray), 1, ()), ((⟨#[106, 122]⟩ : ByteArray), (⟨#[114, 116, 45]⟩ : ByteArray), 1, ()), ((⟨#[106, 110, 122]⟩ : ByteArray), (⟨#[114, 116, 45]⟩ : ByteArray), 1, ()), ((⟨#[106, 98, 97, 100]⟩ : ByteArray), (⟨#[116, 45, 45]⟩ : ByteArray), 1, ()), ((⟨#[99, 97, 108, 108]⟩ : ByteArray), (⟨#[116, 45, 45]⟩ : ByteArray), 1, ()), ((⟨#[114, 101, 116]⟩ : ByteArray), (⟨#[45, 45, 45]⟩ : ByteArray), 1, ()), ((⟨#[108, 111, 97, 100]⟩ : ByteArray), (⟨#[114, 114, 45]⟩ : ByteArray), 0, ()), ((⟨#[115, 116, 111, 114, 101]⟩ : ByteArray), (⟨#[114, 114, 45]⟩ : ByteArray), 0, ()), ((⟨#[102, 97, 105, 108]⟩ : ByteArray), (⟨#[115, 45, 45]⟩ : ByteArray), 5, ()), ((⟨#[101, 109, 105, 116]⟩ : ByteArray), (⟨#[114, 45, 45]⟩ : ByteArray), 4, ()), ((⟨#[110, 111, 119]⟩ : ByteArray), (⟨#[114, 45, 45]⟩ : ByteArray), 4, ()), ((⟨#[109, 101]⟩ : ByteArray), (⟨#[114, 45, 45]⟩ : ByteArray), 4, ()), ((⟨#[115, 112, 97, 119, 110]⟩ : ByteArray), (⟨#[114, 112, 114]⟩ : ByteArray), 4, ()), ((⟨#[106, 111, 105, 110]⟩ : ByteArray), (⟨#[114, 45, 45]⟩ : ByteArray), 2, ()), ((⟨#[115, 108, 101, 101, 112]⟩ : ByteArray), (⟨#[114, 45, 45]⟩ : ByteArray), 2, ()), ((⟨#[115, 101, 110, 100]⟩ : ByteArray), (⟨#[99, 114, 45]⟩ : ByteArray), 2, ()), ((⟨#[114, 101, 99, 118]⟩ : ByteArray), (⟨#[99, 114, 45]⟩ : ByteArray), 2, ()), ((⟨#[112, 111, 105, 115, 111, 110]⟩ : ByteArray), (⟨#[99, 114, 45]⟩ : ByteArray), 4, ()), ((⟨#[101, 110, 114, 111, 108]⟩ : ByteArray), (⟨#[98, 45, 45]⟩ : ByteArray), 4, ()), ((⟨#[114, 101, 115, 105, 103, 110]⟩ : ByteArray), (⟨#[98, 45, 45]⟩ : ByteArray), 4, ()), ((⟨#[115, 121, 110, 99]⟩ : ByteArray), (⟨#[98, 45, 45]⟩ : ByteArray), 2, ()), ((⟨#[102, 97, 108, 108]⟩ : ByteArray), (⟨#[107, 45, 45]⟩ : ByteArray), 2, ()), ((⟨#[102, 108, 117, 115, 104]⟩ : ByteArray), (⟨#[114, 107, 45]⟩ : ByteArray), 4, ()), ((⟨#[97, 108, 116]⟩ : ByteArray), (⟨#[114, 109, 110]⟩ : ByteArray), 2, ()), ((⟨#[103, 105, 110]⟩ : ByteArray), (⟨#[99, 114, 103]⟩ : ByteArray), 3, ()), ((⟨#[103, 98, 97, 114]⟩ : ByteArray), (⟨#[98, 45, 103]⟩ : ByteArray), 3, ()), ((⟨#[103, 116, 105, 109, 101]⟩ : ByteArray), (⟨#[114, 45, 103]⟩ : ByteArray), 3, ()), ((⟨#[103, 115, 107, 105, 112]⟩ : ByteArray), (⟨#[45, 45, 103]⟩ : ByteArray), 3, ()), ((⟨#[112, 104, 97, 115, 101]⟩ : ByteArray), (⟨#[114, 98, 45]⟩ : ByteArray), 4, ()), ((⟨#[115, 105, 122, 101]⟩ : ByteArray), (⟨#[114, 98, 45]⟩ : ByteArray), 4, ())]) fun l1 =>
  some l1
def R09_Of (a0 : Int) : Option (ByteArray × ByteArray × Int × Unit) :=
  Option.bind (R09_Table) fun r1 =>
  bif decide (a0 < 0) then
    some ((⟨#[]⟩ : ByteArray), (⟨#[]⟩ : ByteArray), (-1), ())
  else
    bif decide (a0 ≥ (r1.length : Int)) then
      some ((⟨#[]⟩ : ByteArray), (⟨#[]⟩ : ByteArray), (-1), ())
    else
      chk (0 ≤ a0 ∧ a0 < (r1.length : Int)) <|
      some (r1.getD a0.toNat (⟨#[]⟩, ⟨#[]⟩, 0, ()))
def R09_Find_J1 : Option (Int × Bool × Unit) :=
  some (0, false, ())
def R09_Find_L1 (r1 : List (ByteArray × ByteArray × Int × Unit)) (a0 : ByteArray) (k1 : Int → Option (Int × Bool × Unit)) (x1 : Int) : Option (Int × Bool × Unit) :=
  bif decide (x1 < (r1.length : Int)) then
    chk (0 ≤ x1 ∧ x1 < (r1.length : Int)) <|
    bif (r1.getD x1.toNat (⟨#[]⟩, ⟨#[]⟩, 0, ())).1.toList == a0.toList then
      some (x1, true, ())
    else
      k1 (IntKind.i64.wrap (x1 + 1))
  else
    R09_Find_J1
def R09_Find (a0 : ByteArray) : Option (Int × Bool × Unit) :=
  Option.bind (R09_Table) fun r1 =>
  loop (R09_Find_L1 r1 a0) 0
end Go.Proofs.YtdddmgbbjifkdaaDoorV
