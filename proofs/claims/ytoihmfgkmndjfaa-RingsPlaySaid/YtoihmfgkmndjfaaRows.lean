/-
  No cell of these rows narrows 'for every input' (looked for: loops, veiled, ifaces, maps, wideKeys, modest, calm, conditions, laid).
  DERIVED. THE GIVEN ROWS OF THIS SEAT. 12 by the template 'for every input the law returns true; each argument reads behind the call as it read before'; 0 by the template 'total and deterministic' (their statements: YtoihmfgkmndjfaaTotals.lean).
  GIVEN WITH THE SEED: the statements are not yours to turn. If you find one false, say at which input.
  Laid BY PROGRAM, IN A SANDBOX (cutbox-rows.mjs): the forced cells as the released guide's own fill.sh prints them over the translation 1bb50d51d70461bd… (all of the seat's roots in one cut). By AI agents, Wed Nov 11 2026. No macro, syntax, notation, axiom, sorry.
-/
import Derived.Test.YtoihmfgkmndjfaaChecked
import GoSem.Claim
import GoSem.ClaimJoined
import GoSem.ClaimMapViews
import Derived.JoinedTies
import Derived.KernelRfl
namespace Go.Proofs.Ytoihmfgkmndjfaa
/- THE CELL 'sum', in the pinned program and in every row, IS THE sha256 OF THE DUMP (.gsa) THAT YtoihmfgkmndjfaaProg.lean LOADS. Nothing in Lean hashes anything: it is a label: what it is worth is what the hold of that sum in a sandbox is worth. -/
noncomputable def Try.pinned : Pinned := { name := "ytoihmfgkmndjfaa", sum := "1bb50d51d70461bdde7cfddbb41cf9f883937a0826d0d6d2e79d3bcd2f632024", checked := Try.checked }
namespace Rows
def none {H : Type} : Left H := { results := [], args := [] }

/-- 'becketlaw27.ChooseTells': WHATEVER THE INPUT: true; the input reads as it did. -/
def chooseTellsSpec : ChangeSpec := { name := "chooseTells", fn := fun _ => fun
  | [d1, d2] => { results := [.lit (.bool true)], args := [d1, d2] }
  | _ => none }
def chooseTellsRow : OpenClaim := { program := "ytoihmfgkmndjfaa", sum := "1bb50d51d70461bdde7cfddbb41cf9f883937a0826d0d6d2e79d3bcd2f632024", func := "becket/becketlaw27.ChooseTells", spec := "chooseTells", apart := false }
def ChooseTellsSaid : Prop := chooseTellsRow.holds Try.pinned (OpenSpec.ofChange chooseTellsSpec)

/-- ITS FALSE NEIGHBOUR: 'it returns false'. Refute it at one input. -/
def chooseTellsWrong : ChangeSpec := { name := "chooseTells", fn := fun _ => fun
  | [d1, d2] => { results := [.lit (.bool false)], args := [d1, d2] }
  | _ => none }
def ChooseTellsWrongFalsely : Prop := chooseTellsRow.holds Try.pinned (OpenSpec.ofChange chooseTellsWrong)

/-- 'becketlaw27.ChooseFair': WHATEVER THE INPUT: true; the input reads as it did. -/
def chooseFairSpec : ChangeSpec := { name := "chooseFair", fn := fun _ => fun
  | [d1, d2] => { results := [.lit (.bool true)], args := [d1, d2] }
  | _ => none }
def chooseFairRow : OpenClaim := { program := "ytoihmfgkmndjfaa", sum := "1bb50d51d70461bdde7cfddbb41cf9f883937a0826d0d6d2e79d3bcd2f632024", func := "becket/becketlaw27.ChooseFair", spec := "chooseFair", apart := false }
def ChooseFairSaid : Prop := chooseFairRow.holds Try.pinned (OpenSpec.ofChange chooseFairSpec)

/-- ITS FALSE NEIGHBOUR: 'it returns false'. Refute it at one input. -/
def chooseFairWrong : ChangeSpec := { name := "chooseFair", fn := fun _ => fun
  | [d1, d2] => { results := [.lit (.bool false)], args := [d1, d2] }
  | _ => none }
def ChooseFairWrongFalsely : Prop := chooseFairRow.holds Try.pinned (OpenSpec.ofChange chooseFairWrong)

/-- 'becketlaw27.ChooseEach': WHATEVER THE INPUT: true; the input reads as it did. -/
def chooseEachSpec : ChangeSpec := { name := "chooseEach", fn := fun _ => fun
  | [d1, d2] => { results := [.lit (.bool true)], args := [d1, d2] }
  | _ => none }
def chooseEachRow : OpenClaim := { program := "ytoihmfgkmndjfaa", sum := "1bb50d51d70461bdde7cfddbb41cf9f883937a0826d0d6d2e79d3bcd2f632024", func := "becket/becketlaw27.ChooseEach", spec := "chooseEach", apart := false }
def ChooseEachSaid : Prop := chooseEachRow.holds Try.pinned (OpenSpec.ofChange chooseEachSpec)

/-- ITS FALSE NEIGHBOUR: 'it returns false'. Refute it at one input. -/
def chooseEachWrong : ChangeSpec := { name := "chooseEach", fn := fun _ => fun
  | [d1, d2] => { results := [.lit (.bool false)], args := [d1, d2] }
  | _ => none }
def ChooseEachWrongFalsely : Prop := chooseEachRow.holds Try.pinned (OpenSpec.ofChange chooseEachWrong)

/-- 'becketlaw07.RingsOrder': WHATEVER THE INPUT: true; the input reads as it did. -/
def ringsOrderSpec : ChangeSpec := { name := "ringsOrder", fn := fun _ => fun
  | [d1, d2, d3] => { results := [.lit (.bool true)], args := [d1, d2, d3] }
  | _ => none }
def ringsOrderRow : OpenClaim := { program := "ytoihmfgkmndjfaa", sum := "1bb50d51d70461bdde7cfddbb41cf9f883937a0826d0d6d2e79d3bcd2f632024", func := "becket/becketlaw07.RingsOrder", spec := "ringsOrder", apart := false }
def RingsOrderSaid : Prop := ringsOrderRow.holds Try.pinned (OpenSpec.ofChange ringsOrderSpec)

/-- ITS FALSE NEIGHBOUR: 'it returns false'. Refute it at one input. -/
def ringsOrderWrong : ChangeSpec := { name := "ringsOrder", fn := fun _ => fun
  | [d1, d2, d3] => { results := [.lit (.bool false)], args := [d1, d2, d3] }
  | _ => none }
def RingsOrderWrongFalsely : Prop := ringsOrderRow.holds Try.pinned (OpenSpec.ofChange ringsOrderWrong)

/-- 'becketlaw07.RingsPlay': WHATEVER THE INPUT: true; the input reads as it did. -/
def ringsPlaySpec : ChangeSpec := { name := "ringsPlay", fn := fun _ => fun
  | [d1, d2] => { results := [.lit (.bool true)], args := [d1, d2] }
  | _ => none }
def ringsPlayRow : OpenClaim := { program := "ytoihmfgkmndjfaa", sum := "1bb50d51d70461bdde7cfddbb41cf9f883937a0826d0d6d2e79d3bcd2f632024", func := "becket/becketlaw07.RingsPlay", spec := "ringsPlay", apart := false }
def RingsPlaySaid : Prop := ringsPlayRow.holds Try.pinned (OpenSpec.ofChange ringsPlaySpec)

/-- ITS FALSE NEIGHBOUR: 'it returns false'. Refute it at one input. -/
def ringsPlayWrong : ChangeSpec := { name := "ringsPlay", fn := fun _ => fun
  | [d1, d2] => { results := [.lit (.bool false)], args := [d1, d2] }
  | _ => none }
def RingsPlayWrongFalsely : Prop := ringsPlayRow.holds Try.pinned (OpenSpec.ofChange ringsPlayWrong)

/-- 'becketlaw07.RingsNobody': WHATEVER THE INPUT: true; the input reads as it did. -/
def ringsNobodySpec : ChangeSpec := { name := "ringsNobody", fn := fun _ => fun
  | [d] => { results := [.lit (.bool true)], args := [d] }
  | _ => none }
def ringsNobodyRow : OpenClaim := { program := "ytoihmfgkmndjfaa", sum := "1bb50d51d70461bdde7cfddbb41cf9f883937a0826d0d6d2e79d3bcd2f632024", func := "becket/becketlaw07.RingsNobody", spec := "ringsNobody", apart := false }
def RingsNobodySaid : Prop := ringsNobodyRow.holds Try.pinned (OpenSpec.ofChange ringsNobodySpec)

/-- ITS FALSE NEIGHBOUR: 'it returns false'. Refute it at one input. -/
def ringsNobodyWrong : ChangeSpec := { name := "ringsNobody", fn := fun _ => fun
  | [d] => { results := [.lit (.bool false)], args := [d] }
  | _ => none }
def RingsNobodyWrongFalsely : Prop := ringsNobodyRow.holds Try.pinned (OpenSpec.ofChange ringsNobodyWrong)

/-- 'becketlaw17.ClaimsTell': WHATEVER THE INPUT: true; the input reads as it did. -/
def claimsTellSpec : ChangeSpec := { name := "claimsTell", fn := fun _ => fun
  | [d1, d2] => { results := [.lit (.bool true)], args := [d1, d2] }
  | _ => none }
def claimsTellRow : OpenClaim := { program := "ytoihmfgkmndjfaa", sum := "1bb50d51d70461bdde7cfddbb41cf9f883937a0826d0d6d2e79d3bcd2f632024", func := "becket/becketlaw17.ClaimsTell", spec := "claimsTell", apart := false }
def ClaimsTellSaid : Prop := claimsTellRow.holds Try.pinned (OpenSpec.ofChange claimsTellSpec)

/-- ITS FALSE NEIGHBOUR: 'it returns false'. Refute it at one input. -/
def claimsTellWrong : ChangeSpec := { name := "claimsTell", fn := fun _ => fun
  | [d1, d2] => { results := [.lit (.bool false)], args := [d1, d2] }
  | _ => none }
def ClaimsTellWrongFalsely : Prop := claimsTellRow.holds Try.pinned (OpenSpec.ofChange claimsTellWrong)

/-- 'becketlaw17.ClaimsServe': WHATEVER THE INPUT: true; the input reads as it did. -/
def claimsServeSpec : ChangeSpec := { name := "claimsServe", fn := fun _ => fun
  | [d] => { results := [.lit (.bool true)], args := [d] }
  | _ => none }
def claimsServeRow : OpenClaim := { program := "ytoihmfgkmndjfaa", sum := "1bb50d51d70461bdde7cfddbb41cf9f883937a0826d0d6d2e79d3bcd2f632024", func := "becket/becketlaw17.ClaimsServe", spec := "claimsServe", apart := false }
def ClaimsServeSaid : Prop := claimsServeRow.holds Try.pinned (OpenSpec.ofChange claimsServeSpec)

/-- ITS FALSE NEIGHBOUR: 'it returns false'. Refute it at one input. -/
def claimsServeWrong : ChangeSpec := { name := "claimsServe", fn := fun _ => fun
  | [d] => { results := [.lit (.bool false)], args := [d] }
  | _ => none }
def ClaimsServeWrongFalsely : Prop := claimsServeRow.holds Try.pinned (OpenSpec.ofChange claimsServeWrong)

/-- 'becketlaw30.AltOnce': WHATEVER THE INPUT: true; the input reads as it did. -/
def altOnceSpec : ChangeSpec := { name := "altOnce", fn := fun _ => fun
  | [d1, d2] => { results := [.lit (.bool true)], args := [d1, d2] }
  | _ => none }
def altOnceRow : OpenClaim := { program := "ytoihmfgkmndjfaa", sum := "1bb50d51d70461bdde7cfddbb41cf9f883937a0826d0d6d2e79d3bcd2f632024", func := "becket/becketlaw30.AltOnce", spec := "altOnce", apart := false }
def AltOnceSaid : Prop := altOnceRow.holds Try.pinned (OpenSpec.ofChange altOnceSpec)

/-- ITS FALSE NEIGHBOUR: 'it returns false'. Refute it at one input. -/
def altOnceWrong : ChangeSpec := { name := "altOnce", fn := fun _ => fun
  | [d1, d2] => { results := [.lit (.bool false)], args := [d1, d2] }
  | _ => none }
def AltOnceWrongFalsely : Prop := altOnceRow.holds Try.pinned (OpenSpec.ofChange altOnceWrong)

/-- 'becketlaw33.ChoiceTells': WHATEVER THE INPUT: true; the input reads as it did. -/
def choiceTellsSpec : ChangeSpec := { name := "choiceTells", fn := fun _ => fun
  | [d1, d2] => { results := [.lit (.bool true)], args := [d1, d2] }
  | _ => none }
def choiceTellsRow : OpenClaim := { program := "ytoihmfgkmndjfaa", sum := "1bb50d51d70461bdde7cfddbb41cf9f883937a0826d0d6d2e79d3bcd2f632024", func := "becket/becketlaw33.ChoiceTells", spec := "choiceTells", inPlace := ["internal/abi.NoEscape"], unfollowed := true, recurses := true, apart := false }
def ChoiceTellsSaid : Prop := choiceTellsRow.holds Try.pinned (OpenSpec.ofChange choiceTellsSpec)

/-- ITS FALSE NEIGHBOUR: 'it returns false'. Refute it at one input. -/
def choiceTellsWrong : ChangeSpec := { name := "choiceTells", fn := fun _ => fun
  | [d1, d2] => { results := [.lit (.bool false)], args := [d1, d2] }
  | _ => none }
def ChoiceTellsWrongFalsely : Prop := choiceTellsRow.holds Try.pinned (OpenSpec.ofChange choiceTellsWrong)

/-- 'becketlaw33.ChoiceReads': WHATEVER THE INPUT: true; the input reads as it did. -/
def choiceReadsSpec : ChangeSpec := { name := "choiceReads", fn := fun _ => fun
  | [d1, d2] => { results := [.lit (.bool true)], args := [d1, d2] }
  | _ => none }
def choiceReadsRow : OpenClaim := { program := "ytoihmfgkmndjfaa", sum := "1bb50d51d70461bdde7cfddbb41cf9f883937a0826d0d6d2e79d3bcd2f632024", func := "becket/becketlaw33.ChoiceReads", spec := "choiceReads", inPlace := ["internal/abi.NoEscape"], unfollowed := true, recurses := true, apart := false }
def ChoiceReadsSaid : Prop := choiceReadsRow.holds Try.pinned (OpenSpec.ofChange choiceReadsSpec)

/-- ITS FALSE NEIGHBOUR: 'it returns false'. Refute it at one input. -/
def choiceReadsWrong : ChangeSpec := { name := "choiceReads", fn := fun _ => fun
  | [d1, d2] => { results := [.lit (.bool false)], args := [d1, d2] }
  | _ => none }
def ChoiceReadsWrongFalsely : Prop := choiceReadsRow.holds Try.pinned (OpenSpec.ofChange choiceReadsWrong)

/-- 'becketlaw33.ChoiceBack': WHATEVER THE INPUT: true; the input reads as it did. -/
def choiceBackSpec : ChangeSpec := { name := "choiceBack", fn := fun _ => fun
  | [d1, d2, d3] => { results := [.lit (.bool true)], args := [d1, d2, d3] }
  | _ => none }
def choiceBackRow : OpenClaim := { program := "ytoihmfgkmndjfaa", sum := "1bb50d51d70461bdde7cfddbb41cf9f883937a0826d0d6d2e79d3bcd2f632024", func := "becket/becketlaw33.ChoiceBack", spec := "choiceBack", inPlace := ["internal/abi.NoEscape"], unfollowed := true, recurses := true, apart := false }
def ChoiceBackSaid : Prop := choiceBackRow.holds Try.pinned (OpenSpec.ofChange choiceBackSpec)

/-- ITS FALSE NEIGHBOUR: 'it returns false'. Refute it at one input. -/
def choiceBackWrong : ChangeSpec := { name := "choiceBack", fn := fun _ => fun
  | [d1, d2, d3] => { results := [.lit (.bool false)], args := [d1, d2, d3] }
  | _ => none }
def ChoiceBackWrongFalsely : Prop := choiceBackRow.holds Try.pinned (OpenSpec.ofChange choiceBackWrong)

/- THE SECOND FORM. 'bulk': how many values and letters a reading holds, each counted each time it is reached (what is shared counts as often as it is met; a slice's spare places count too). A statement '..UptoSaid' is the law's where the arguments, and the package variables that the reading takes, are together of bulk at most 1048576: NARROWER than '..Said'. Prove '..Said' where nothing that the law and all that it calls make is longer than what came in: it says more and counts as full. Else prove '..UptoSaid'. A law counts once. -/
mutual
def uptoBulk {H : Type} : DataW H → Nat
  | .lit (.string bytes) => bytes.length + 1
  | .lit _ => 1
  | .nil => 1
  | .ptr d => uptoBulk d + 1
  | .slice elems spare => uptoBulkAll elems + uptoBulkAll spare + 1
  | .agg parts => uptoBulkAll parts + 1
  | .iface _ d => uptoBulk d + 1
  | .map entries => uptoBulkEntries entries + 1
  | .held _ => 1
def uptoBulkAll {H : Type} : List (DataW H) → Nat
  | [] => 0
  | d :: r => uptoBulk d + uptoBulkAll r
def uptoBulkEntries {H : Type} : List (Lit × DataW H) → Nat
  | [] => 0
  | x :: r => uptoBulkEntry x + uptoBulkEntries r
def uptoBulkEntry {H : Type} : Lit × DataW H → Nat
  | (.string bytes, d) => bytes.length + uptoBulk d + 1
  | (_, d) => uptoBulk d + 1
 end
def uptoSmall : (H : Type) → List (DataW H) → Bool := fun _ ds => decide (uptoBulkAll ds ≤ 1048576)
def OpenSpec.upto (s : _root_.Go.ChangeSpec) : _root_.Go.OpenSpec := { _root_.Go.OpenSpec.ofChange s with cond := some uptoSmall }

/-- 'becketlaw27.ChooseTells', WHERE WHAT IT READS IS OF BULK AT MOST 1048576: true; the input reads as it did. -/
def chooseTellsUptoRow : OpenClaim := { program := "ytoihmfgkmndjfaa", sum := "1bb50d51d70461bdde7cfddbb41cf9f883937a0826d0d6d2e79d3bcd2f632024", func := "becket/becketlaw27.ChooseTells", spec := "chooseTells", apart := false, narrowed := true }
def ChooseTellsUptoSaid : Prop := chooseTellsUptoRow.holds Try.pinned (OpenSpec.upto chooseTellsSpec)

/-- 'becketlaw27.ChooseFair', WHERE WHAT IT READS IS OF BULK AT MOST 1048576: true; the input reads as it did. -/
def chooseFairUptoRow : OpenClaim := { program := "ytoihmfgkmndjfaa", sum := "1bb50d51d70461bdde7cfddbb41cf9f883937a0826d0d6d2e79d3bcd2f632024", func := "becket/becketlaw27.ChooseFair", spec := "chooseFair", apart := false, narrowed := true }
def ChooseFairUptoSaid : Prop := chooseFairUptoRow.holds Try.pinned (OpenSpec.upto chooseFairSpec)

/-- 'becketlaw27.ChooseEach', WHERE WHAT IT READS IS OF BULK AT MOST 1048576: true; the input reads as it did. -/
def chooseEachUptoRow : OpenClaim := { program := "ytoihmfgkmndjfaa", sum := "1bb50d51d70461bdde7cfddbb41cf9f883937a0826d0d6d2e79d3bcd2f632024", func := "becket/becketlaw27.ChooseEach", spec := "chooseEach", apart := false, narrowed := true }
def ChooseEachUptoSaid : Prop := chooseEachUptoRow.holds Try.pinned (OpenSpec.upto chooseEachSpec)

/-- 'becketlaw07.RingsOrder', WHERE WHAT IT READS IS OF BULK AT MOST 1048576: true; the input reads as it did. -/
def ringsOrderUptoRow : OpenClaim := { program := "ytoihmfgkmndjfaa", sum := "1bb50d51d70461bdde7cfddbb41cf9f883937a0826d0d6d2e79d3bcd2f632024", func := "becket/becketlaw07.RingsOrder", spec := "ringsOrder", apart := false, narrowed := true }
def RingsOrderUptoSaid : Prop := ringsOrderUptoRow.holds Try.pinned (OpenSpec.upto ringsOrderSpec)

/-- 'becketlaw07.RingsPlay', WHERE WHAT IT READS IS OF BULK AT MOST 1048576: true; the input reads as it did. -/
def ringsPlayUptoRow : OpenClaim := { program := "ytoihmfgkmndjfaa", sum := "1bb50d51d70461bdde7cfddbb41cf9f883937a0826d0d6d2e79d3bcd2f632024", func := "becket/becketlaw07.RingsPlay", spec := "ringsPlay", apart := false, narrowed := true }
def RingsPlayUptoSaid : Prop := ringsPlayUptoRow.holds Try.pinned (OpenSpec.upto ringsPlaySpec)

/-- 'becketlaw07.RingsNobody', WHERE WHAT IT READS IS OF BULK AT MOST 1048576: true; the input reads as it did. -/
def ringsNobodyUptoRow : OpenClaim := { program := "ytoihmfgkmndjfaa", sum := "1bb50d51d70461bdde7cfddbb41cf9f883937a0826d0d6d2e79d3bcd2f632024", func := "becket/becketlaw07.RingsNobody", spec := "ringsNobody", apart := false, narrowed := true }
def RingsNobodyUptoSaid : Prop := ringsNobodyUptoRow.holds Try.pinned (OpenSpec.upto ringsNobodySpec)

/-- 'becketlaw17.ClaimsTell', WHERE WHAT IT READS IS OF BULK AT MOST 1048576: true; the input reads as it did. -/
def claimsTellUptoRow : OpenClaim := { program := "ytoihmfgkmndjfaa", sum := "1bb50d51d70461bdde7cfddbb41cf9f883937a0826d0d6d2e79d3bcd2f632024", func := "becket/becketlaw17.ClaimsTell", spec := "claimsTell", apart := false, narrowed := true }
def ClaimsTellUptoSaid : Prop := claimsTellUptoRow.holds Try.pinned (OpenSpec.upto claimsTellSpec)

/-- 'becketlaw17.ClaimsServe', WHERE WHAT IT READS IS OF BULK AT MOST 1048576: true; the input reads as it did. -/
def claimsServeUptoRow : OpenClaim := { program := "ytoihmfgkmndjfaa", sum := "1bb50d51d70461bdde7cfddbb41cf9f883937a0826d0d6d2e79d3bcd2f632024", func := "becket/becketlaw17.ClaimsServe", spec := "claimsServe", apart := false, narrowed := true }
def ClaimsServeUptoSaid : Prop := claimsServeUptoRow.holds Try.pinned (OpenSpec.upto claimsServeSpec)

/-- 'becketlaw30.AltOnce', WHERE WHAT IT READS IS OF BULK AT MOST 1048576: true; the input reads as it did. -/
def altOnceUptoRow : OpenClaim := { program := "ytoihmfgkmndjfaa", sum := "1bb50d51d70461bdde7cfddbb41cf9f883937a0826d0d6d2e79d3bcd2f632024", func := "becket/becketlaw30.AltOnce", spec := "altOnce", apart := false, narrowed := true }
def AltOnceUptoSaid : Prop := altOnceUptoRow.holds Try.pinned (OpenSpec.upto altOnceSpec)

/-- 'becketlaw33.ChoiceTells', WHERE WHAT IT READS IS OF BULK AT MOST 1048576: true; the input reads as it did. -/
def choiceTellsUptoRow : OpenClaim := { program := "ytoihmfgkmndjfaa", sum := "1bb50d51d70461bdde7cfddbb41cf9f883937a0826d0d6d2e79d3bcd2f632024", func := "becket/becketlaw33.ChoiceTells", spec := "choiceTells", inPlace := ["internal/abi.NoEscape"], unfollowed := true, recurses := true, apart := false, narrowed := true }
def ChoiceTellsUptoSaid : Prop := choiceTellsUptoRow.holds Try.pinned (OpenSpec.upto choiceTellsSpec)

/-- 'becketlaw33.ChoiceReads', WHERE WHAT IT READS IS OF BULK AT MOST 1048576: true; the input reads as it did. -/
def choiceReadsUptoRow : OpenClaim := { program := "ytoihmfgkmndjfaa", sum := "1bb50d51d70461bdde7cfddbb41cf9f883937a0826d0d6d2e79d3bcd2f632024", func := "becket/becketlaw33.ChoiceReads", spec := "choiceReads", inPlace := ["internal/abi.NoEscape"], unfollowed := true, recurses := true, apart := false, narrowed := true }
def ChoiceReadsUptoSaid : Prop := choiceReadsUptoRow.holds Try.pinned (OpenSpec.upto choiceReadsSpec)

/-- 'becketlaw33.ChoiceBack', WHERE WHAT IT READS IS OF BULK AT MOST 1048576: true; the input reads as it did. -/
def choiceBackUptoRow : OpenClaim := { program := "ytoihmfgkmndjfaa", sum := "1bb50d51d70461bdde7cfddbb41cf9f883937a0826d0d6d2e79d3bcd2f632024", func := "becket/becketlaw33.ChoiceBack", spec := "choiceBack", inPlace := ["internal/abi.NoEscape"], unfollowed := true, recurses := true, apart := false, narrowed := true }
def ChoiceBackUptoSaid : Prop := choiceBackUptoRow.holds Try.pinned (OpenSpec.upto choiceBackSpec)

end Rows
end Go.Proofs.Ytoihmfgkmndjfaa
