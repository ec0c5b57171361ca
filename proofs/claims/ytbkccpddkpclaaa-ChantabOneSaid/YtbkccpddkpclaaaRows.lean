/-
  No cell of these rows narrows 'for every input' (looked for: loops, veiled, ifaces, maps, wideKeys, modest, calm, conditions, laid).
  DERIVED. THE GIVEN ROWS OF THIS SEAT. 6 by the template 'for every input the law returns true; each argument reads behind the call as it read before'; 0 by the template 'total and deterministic' (their statements: YtbkccpddkpclaaaTotals.lean).
  GIVEN WITH THE SEED: the statements are not yours to turn. If you find one false, say at which input.
  Laid BY PROGRAM, IN A SANDBOX (cutbox-rows.mjs): the forced cells as the released guide's own fill.sh prints them over the translation 2f11678712d9a96f… (all of the seat's roots in one cut). By AI agents, Wed Nov 11 2026. No macro, syntax, notation, axiom, sorry.
-/
import Derived.Test.YtbkccpddkpclaaaChecked
import GoSem.Claim
import GoSem.ClaimJoined
import GoSem.ClaimMapViews
import Derived.JoinedTies
import Derived.KernelRfl
namespace Go.Proofs.Ytbkccpddkpclaaa
/- THE CELL 'sum', in the pinned program and in every row, IS THE sha256 OF THE DUMP (.gsa) THAT YtbkccpddkpclaaaProg.lean LOADS. Nothing in Lean hashes anything: it is a label: what it is worth is what the hold of that sum in a sandbox is worth. -/
noncomputable def Try.pinned : Pinned := { name := "ytbkccpddkpclaaa", sum := "2f11678712d9a96f0b616748fb7be9c30a9ac293b10f0a5fb77dfaeec3e6a449", checked := Try.checked }
namespace Rows
def none {H : Type} : Left H := { results := [], args := [] }

/-- 'becketlaw18.ChannelActs': WHATEVER THE INPUT: true; the input reads as it did. -/
def channelActsSpec : ChangeSpec := { name := "channelActs", fn := fun _ => fun
  | [d1, d2, d3] => { results := [.lit (.bool true)], args := [d1, d2, d3] }
  | _ => none }
def channelActsRow : OpenClaim := { program := "ytbkccpddkpclaaa", sum := "2f11678712d9a96f0b616748fb7be9c30a9ac293b10f0a5fb77dfaeec3e6a449", func := "becket/becketlaw18.ChannelActs", spec := "channelActs", unfollowed := true, recurses := true, apart := false }
def ChannelActsSaid : Prop := channelActsRow.holds Try.pinned (OpenSpec.ofChange channelActsSpec)

/-- ITS FALSE NEIGHBOUR: 'it returns false'. Refute it at one input. -/
def channelActsWrong : ChangeSpec := { name := "channelActs", fn := fun _ => fun
  | [d1, d2, d3] => { results := [.lit (.bool false)], args := [d1, d2, d3] }
  | _ => none }
def ChannelActsWrongFalsely : Prop := channelActsRow.holds Try.pinned (OpenSpec.ofChange channelActsWrong)

/-- 'becketlaw18.ChannelOrder': WHATEVER THE INPUT: true; the input reads as it did. -/
def channelOrderSpec : ChangeSpec := { name := "channelOrder", fn := fun _ => fun
  | [d1, d2] => { results := [.lit (.bool true)], args := [d1, d2] }
  | _ => none }
def channelOrderRow : OpenClaim := { program := "ytbkccpddkpclaaa", sum := "2f11678712d9a96f0b616748fb7be9c30a9ac293b10f0a5fb77dfaeec3e6a449", func := "becket/becketlaw18.ChannelOrder", spec := "channelOrder", unfollowed := true, recurses := true, apart := false }
def ChannelOrderSaid : Prop := channelOrderRow.holds Try.pinned (OpenSpec.ofChange channelOrderSpec)

/-- ITS FALSE NEIGHBOUR: 'it returns false'. Refute it at one input. -/
def channelOrderWrong : ChangeSpec := { name := "channelOrder", fn := fun _ => fun
  | [d1, d2] => { results := [.lit (.bool false)], args := [d1, d2] }
  | _ => none }
def ChannelOrderWrongFalsely : Prop := channelOrderRow.holds Try.pinned (OpenSpec.ofChange channelOrderWrong)

/-- 'becketlaw18.ChannelTells': WHATEVER THE INPUT: true; the input reads as it did. -/
def channelTellsSpec : ChangeSpec := { name := "channelTells", fn := fun _ => fun
  | [d1, d2] => { results := [.lit (.bool true)], args := [d1, d2] }
  | _ => none }
def channelTellsRow : OpenClaim := { program := "ytbkccpddkpclaaa", sum := "2f11678712d9a96f0b616748fb7be9c30a9ac293b10f0a5fb77dfaeec3e6a449", func := "becket/becketlaw18.ChannelTells", spec := "channelTells", unfollowed := true, recurses := true, apart := false }
def ChannelTellsSaid : Prop := channelTellsRow.holds Try.pinned (OpenSpec.ofChange channelTellsSpec)

/-- ITS FALSE NEIGHBOUR: 'it returns false'. Refute it at one input. -/
def channelTellsWrong : ChangeSpec := { name := "channelTells", fn := fun _ => fun
  | [d1, d2] => { results := [.lit (.bool false)], args := [d1, d2] }
  | _ => none }
def ChannelTellsWrongFalsely : Prop := channelTellsRow.holds Try.pinned (OpenSpec.ofChange channelTellsWrong)

/-- 'becketlaw19.ChantabTells': WHATEVER THE INPUT: true; the input reads as it did. -/
def chantabTellsSpec : ChangeSpec := { name := "chantabTells", fn := fun _ => fun
  | [d1, d2, d3] => { results := [.lit (.bool true)], args := [d1, d2, d3] }
  | _ => none }
def chantabTellsRow : OpenClaim := { program := "ytbkccpddkpclaaa", sum := "2f11678712d9a96f0b616748fb7be9c30a9ac293b10f0a5fb77dfaeec3e6a449", func := "becket/becketlaw19.ChantabTells", spec := "chantabTells", unfollowed := true, recurses := true, apart := false }
def ChantabTellsSaid : Prop := chantabTellsRow.holds Try.pinned (OpenSpec.ofChange chantabTellsSpec)

/-- ITS FALSE NEIGHBOUR: 'it returns false'. Refute it at one input. -/
def chantabTellsWrong : ChangeSpec := { name := "chantabTells", fn := fun _ => fun
  | [d1, d2, d3] => { results := [.lit (.bool false)], args := [d1, d2, d3] }
  | _ => none }
def ChantabTellsWrongFalsely : Prop := chantabTellsRow.holds Try.pinned (OpenSpec.ofChange chantabTellsWrong)

/-- 'becketlaw19.ChantabOne': WHATEVER THE INPUT: true; the input reads as it did. -/
def chantabOneSpec : ChangeSpec := { name := "chantabOne", fn := fun _ => fun
  | [d1, d2, d3] => { results := [.lit (.bool true)], args := [d1, d2, d3] }
  | _ => none }
def chantabOneRow : OpenClaim := { program := "ytbkccpddkpclaaa", sum := "2f11678712d9a96f0b616748fb7be9c30a9ac293b10f0a5fb77dfaeec3e6a449", func := "becket/becketlaw19.ChantabOne", spec := "chantabOne", unfollowed := true, recurses := true, apart := false }
def ChantabOneSaid : Prop := chantabOneRow.holds Try.pinned (OpenSpec.ofChange chantabOneSpec)

/-- ITS FALSE NEIGHBOUR: 'it returns false'. Refute it at one input. -/
def chantabOneWrong : ChangeSpec := { name := "chantabOne", fn := fun _ => fun
  | [d1, d2, d3] => { results := [.lit (.bool false)], args := [d1, d2, d3] }
  | _ => none }
def ChantabOneWrongFalsely : Prop := chantabOneRow.holds Try.pinned (OpenSpec.ofChange chantabOneWrong)

/-- 'becketlaw19.ChantabActs': WHATEVER THE INPUT: true; the input reads as it did. -/
def chantabActsSpec : ChangeSpec := { name := "chantabActs", fn := fun _ => fun
  | [d1, d2] => { results := [.lit (.bool true)], args := [d1, d2] }
  | _ => none }
def chantabActsRow : OpenClaim := { program := "ytbkccpddkpclaaa", sum := "2f11678712d9a96f0b616748fb7be9c30a9ac293b10f0a5fb77dfaeec3e6a449", func := "becket/becketlaw19.ChantabActs", spec := "chantabActs", unfollowed := true, recurses := true, apart := false }
def ChantabActsSaid : Prop := chantabActsRow.holds Try.pinned (OpenSpec.ofChange chantabActsSpec)

/-- ITS FALSE NEIGHBOUR: 'it returns false'. Refute it at one input. -/
def chantabActsWrong : ChangeSpec := { name := "chantabActs", fn := fun _ => fun
  | [d1, d2] => { results := [.lit (.bool false)], args := [d1, d2] }
  | _ => none }
def ChantabActsWrongFalsely : Prop := chantabActsRow.holds Try.pinned (OpenSpec.ofChange chantabActsWrong)

/- THE SECOND FORM. 'bulk': how many values and letters a reading holds, each counted each time it is reached (what is shared counts as often as it is met; a slice's spare places count too). A statement '..UptoSaid' is the law's where the arguments, and the package variables that the reading takes, are together of bulk at most 1048576: NARROWER than '..Said'. Prove '..Said' where nothing that the law and all that it calls make is longer than what came in: it says more and counts as full. Else prove '..UptoSaid'. A law counts once. -/
mutual
def uptoBulk {H : Type} : DataW H → Nat
  | .lit (.string bytes) => bytes.length + 1
  | .lit _ => 1
  | .nil => 1
  | .ptr d => uptoBulk d + 1
  | .slice elems spare => uptoBulkAll elems + uptoBulkAll spare + 1
  | .agg parts => uptoBulkAll parts + 1
  | .iface _ d => uptoBulk d + 1
  | .map entries => uptoBulkEntries entries + 1
  | .held _ => 1
def uptoBulkAll {H : Type} : List (DataW H) → Nat
  | [] => 0
  | d :: r => uptoBulk d + uptoBulkAll r
def uptoBulkEntries {H : Type} : List (Lit × DataW H) → Nat
  | [] => 0
  | x :: r => uptoBulkEntry x + uptoBulkEntries r
def uptoBulkEntry {H : Type} : Lit × DataW H → Nat
  | (.string bytes, d) => bytes.length + uptoBulk d + 1
  | (_, d) => uptoBulk d + 1
 end
def uptoSmall : (H : Type) → List (DataW H) → Bool := fun _ ds => decide (uptoBulkAll ds ≤ 1048576)
def OpenSpec.upto (s : _root_.Go.ChangeSpec) : _root_.Go.OpenSpec := { _root_.Go.OpenSpec.ofChange s with cond := some uptoSmall }

/-- 'becketlaw18.ChannelActs', WHERE WHAT IT READS IS OF BULK AT MOST 1048576: true; the input reads as it did. -/
def channelActsUptoRow : OpenClaim := { program := "ytbkccpddkpclaaa", sum := "2f11678712d9a96f0b616748fb7be9c30a9ac293b10f0a5fb77dfaeec3e6a449", func := "becket/becketlaw18.ChannelActs", spec := "channelActs", unfollowed := true, recurses := true, apart := false, narrowed := true }
def ChannelActsUptoSaid : Prop := channelActsUptoRow.holds Try.pinned (OpenSpec.upto channelActsSpec)

/-- 'becketlaw18.ChannelOrder', WHERE WHAT IT READS IS OF BULK AT MOST 1048576: true; the input reads as it did. -/
def channelOrderUptoRow : OpenClaim := { program := "ytbkccpddkpclaaa", sum := "2f11678712d9a96f0b616748fb7be9c30a9ac293b10f0a5fb77dfaeec3e6a449", func := "becket/becketlaw18.ChannelOrder", spec := "channelOrder", unfollowed := true, recurses := true, apart := false, narrowed := true }
def ChannelOrderUptoSaid : Prop := channelOrderUptoRow.holds Try.pinned (OpenSpec.upto channelOrderSpec)

/-- 'becketlaw18.ChannelTells', WHERE WHAT IT READS IS OF BULK AT MOST 1048576: true; the input reads as it did. -/
def channelTellsUptoRow : OpenClaim := { program := "ytbkccpddkpclaaa", sum := "2f11678712d9a96f0b616748fb7be9c30a9ac293b10f0a5fb77dfaeec3e6a449", func := "becket/becketlaw18.ChannelTells", spec := "channelTells", unfollowed := true, recurses := true, apart := false, narrowed := true }
def ChannelTellsUptoSaid : Prop := channelTellsUptoRow.holds Try.pinned (OpenSpec.upto channelTellsSpec)

/-- 'becketlaw19.ChantabTells', WHERE WHAT IT READS IS OF BULK AT MOST 1048576: true; the input reads as it did. -/
def chantabTellsUptoRow : OpenClaim := { program := "ytbkccpddkpclaaa", sum := "2f11678712d9a96f0b616748fb7be9c30a9ac293b10f0a5fb77dfaeec3e6a449", func := "becket/becketlaw19.ChantabTells", spec := "chantabTells", unfollowed := true, recurses := true, apart := false, narrowed := true }
def ChantabTellsUptoSaid : Prop := chantabTellsUptoRow.holds Try.pinned (OpenSpec.upto chantabTellsSpec)

/-- 'becketlaw19.ChantabOne', WHERE WHAT IT READS IS OF BULK AT MOST 1048576: true; the input reads as it did. -/
def chantabOneUptoRow : OpenClaim := { program := "ytbkccpddkpclaaa", sum := "2f11678712d9a96f0b616748fb7be9c30a9ac293b10f0a5fb77dfaeec3e6a449", func := "becket/becketlaw19.ChantabOne", spec := "chantabOne", unfollowed := true, recurses := true, apart := false, narrowed := true }
def ChantabOneUptoSaid : Prop := chantabOneUptoRow.holds Try.pinned (OpenSpec.upto chantabOneSpec)

/-- 'becketlaw19.ChantabActs', WHERE WHAT IT READS IS OF BULK AT MOST 1048576: true; the input reads as it did. -/
def chantabActsUptoRow : OpenClaim := { program := "ytbkccpddkpclaaa", sum := "2f11678712d9a96f0b616748fb7be9c30a9ac293b10f0a5fb77dfaeec3e6a449", func := "becket/becketlaw19.ChantabActs", spec := "chantabActs", unfollowed := true, recurses := true, apart := false, narrowed := true }
def ChantabActsUptoSaid : Prop := chantabActsUptoRow.holds Try.pinned (OpenSpec.upto chantabActsSpec)

end Rows
end Go.Proofs.Ytbkccpddkpclaaa
