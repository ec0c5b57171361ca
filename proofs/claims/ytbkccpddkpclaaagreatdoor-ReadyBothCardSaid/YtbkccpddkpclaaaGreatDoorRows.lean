/-
  NARROWER THAN 'FOR EVERY INPUT', by the rows' own cells (each row's printed sentence says how): ReadyGuards: laid · ReadyBoth: laid.
  DERIVED. THE GIVEN ROWS OF THIS SEAT. 2 by the template 'for every input the law returns true; each argument reads behind the call as it read before'; 0 by the template 'total and deterministic' (their statements: YtbkccpddkpclaaaGreatDoorTotals.lean).
  GIVEN WITH THE SEED: the statements are not yours to turn. If you find one false, say at which input.
  Laid BY PROGRAM, IN A SANDBOX (cutbox-rows.mjs): the forced cells as the released guide's own fill.sh prints them over the translation ad9657dde1790f89… (all of the seat's roots in one cut). By AI agents, Wed Nov 11 2026. No macro, syntax, notation, axiom, sorry.
-/
import Derived.Test.YtbkccpddkpclaaaGreatDoorChecked
import GoSem.Claim
import GoSem.ClaimJoined
import GoSem.ClaimMapViews
import Derived.JoinedTies
import Derived.KernelRfl
namespace Go.Proofs.YtbkccpddkpclaaaGreatDoor
/- THE CELL 'sum', in the pinned program and in every row, IS THE sha256 OF THE DUMP (.gsa) THAT YtbkccpddkpclaaaGreatDoorProg.lean LOADS. Nothing in Lean hashes anything: it is a label: what it is worth is what the hold of that sum in a sandbox is worth. -/
noncomputable def Tryz.pinned : Pinned := { name := "ytbkccpddkpclaaagreatdoor", sum := "ad9657dde1790f897238547e02be68e8fb3b27eaf86e8aac065bb4c6705f4a70", checked := Tryz.checked }
namespace Rows
def none {H : Type} : Left H := { results := [], args := [] }

/- WHAT THE LISTED PACKAGE-LEVEL VARIABLES READ AS WHEN THE CALL BEGINS. Each datum BY PROGRAM (the guide's laid-datum.mjs) off the statement by which the dump's own 'gosem.cut.vars' lays the variable. In a bare row this is a premise. The card (YtbkccpddkpclaaaGreatDoorCards.lean) ties it to the program's text. -/
def laid_becket_roll_everybody {H : Type} : DataW H := .agg [.lit (.int .u64 65535), .lit (.int .u64 0), .lit (.int .u64 0), .lit (.int .u64 0)]

/-- 'becketlaw29.ReadyGuards': WHATEVER THE INPUT: true; the input reads as it did. -/
def readyGuardsSpec : ChangeSpec := { name := "readyGuards", fn := fun _ => fun
  | [d1, d2, d3] => { results := [.lit (.bool true)], args := [d1, d2, d3] }
  | _ => none }
def readyGuardsRow : OpenClaim := { program := "ytbkccpddkpclaaagreatdoor", sum := "ad9657dde1790f897238547e02be68e8fb3b27eaf86e8aac065bb4c6705f4a70", func := "becket/becketlaw29.ReadyGuards", spec := "readyGuards", unfollowed := true, recurses := true, named := ["becket/roll.everybody"], apart := false, laid := [("becket/roll.everybody", laid_becket_roll_everybody)] }
def ReadyGuardsSaid : Prop := readyGuardsRow.holds Tryz.pinned (OpenSpec.ofChange readyGuardsSpec)

/-- ITS FALSE NEIGHBOUR: 'it returns false'. Refute it at one input. -/
def readyGuardsWrong : ChangeSpec := { name := "readyGuards", fn := fun _ => fun
  | [d1, d2, d3] => { results := [.lit (.bool false)], args := [d1, d2, d3] }
  | _ => none }
def ReadyGuardsWrongFalsely : Prop := readyGuardsRow.holds Tryz.pinned (OpenSpec.ofChange readyGuardsWrong)

/-- 'becketlaw29.ReadyBoth': WHATEVER THE INPUT: true; the input reads as it did. -/
def readyBothSpec : ChangeSpec := { name := "readyBoth", fn := fun _ => fun
  | [d] => { results := [.lit (.bool true)], args := [d] }
  | _ => none }
def readyBothRow : OpenClaim := { program := "ytbkccpddkpclaaagreatdoor", sum := "ad9657dde1790f897238547e02be68e8fb3b27eaf86e8aac065bb4c6705f4a70", func := "becket/becketlaw29.ReadyBoth", spec := "readyBoth", unfollowed := true, recurses := true, named := ["becket/roll.everybody"], apart := false, laid := [("becket/roll.everybody", laid_becket_roll_everybody)] }
def ReadyBothSaid : Prop := readyBothRow.holds Tryz.pinned (OpenSpec.ofChange readyBothSpec)

/-- ITS FALSE NEIGHBOUR: 'it returns false'. Refute it at one input. -/
def readyBothWrong : ChangeSpec := { name := "readyBoth", fn := fun _ => fun
  | [d] => { results := [.lit (.bool false)], args := [d] }
  | _ => none }
def ReadyBothWrongFalsely : Prop := readyBothRow.holds Tryz.pinned (OpenSpec.ofChange readyBothWrong)

/- THE SECOND FORM. 'bulk': how many values and letters a reading holds, each counted each time it is reached (what is shared counts as often as it is met; a slice's spare places count too). A statement '..UptoSaid' is the law's where the arguments, and the package variables that the reading takes, are together of bulk at most 1048576: NARROWER than '..Said'. Prove '..Said' where nothing that the law and all that it calls make is longer than what came in: it says more and counts as full. Else prove '..UptoSaid'. A law counts once. -/
mutual
def uptoBulk {H : Type} : DataW H → Nat
  | .lit (.string bytes) => bytes.length + 1
  | .lit _ => 1
  | .nil => 1
  | .ptr d => uptoBulk d + 1
  | .slice elems spare => uptoBulkAll elems + uptoBulkAll spare + 1
  | .agg parts => uptoBulkAll parts + 1
  | .iface _ d => uptoBulk d + 1
  | .map entries => uptoBulkEntries entries + 1
  | .held _ => 1
def uptoBulkAll {H : Type} : List (DataW H) → Nat
  | [] => 0
  | d :: r => uptoBulk d + uptoBulkAll r
def uptoBulkEntries {H : Type} : List (Lit × DataW H) → Nat
  | [] => 0
  | x :: r => uptoBulkEntry x + uptoBulkEntries r
def uptoBulkEntry {H : Type} : Lit × DataW H → Nat
  | (.string bytes, d) => bytes.length + uptoBulk d + 1
  | (_, d) => uptoBulk d + 1
 end
def uptoSmall : (H : Type) → List (DataW H) → Bool := fun _ ds => decide (uptoBulkAll ds ≤ 1048576)
def OpenSpec.upto (s : _root_.Go.ChangeSpec) : _root_.Go.OpenSpec := { _root_.Go.OpenSpec.ofChange s with cond := some uptoSmall }

/-- 'becketlaw29.ReadyGuards', WHERE WHAT IT READS IS OF BULK AT MOST 1048576: true; the input reads as it did. -/
def readyGuardsUptoRow : OpenClaim := { program := "ytbkccpddkpclaaagreatdoor", sum := "ad9657dde1790f897238547e02be68e8fb3b27eaf86e8aac065bb4c6705f4a70", func := "becket/becketlaw29.ReadyGuards", spec := "readyGuards", unfollowed := true, recurses := true, named := ["becket/roll.everybody"], apart := false, laid := [("becket/roll.everybody", laid_becket_roll_everybody)], narrowed := true }
def ReadyGuardsUptoSaid : Prop := readyGuardsUptoRow.holds Tryz.pinned (OpenSpec.upto readyGuardsSpec)

/-- 'becketlaw29.ReadyBoth', WHERE WHAT IT READS IS OF BULK AT MOST 1048576: true; the input reads as it did. -/
def readyBothUptoRow : OpenClaim := { program := "ytbkccpddkpclaaagreatdoor", sum := "ad9657dde1790f897238547e02be68e8fb3b27eaf86e8aac065bb4c6705f4a70", func := "becket/becketlaw29.ReadyBoth", spec := "readyBoth", unfollowed := true, recurses := true, named := ["becket/roll.everybody"], apart := false, laid := [("becket/roll.everybody", laid_becket_roll_everybody)], narrowed := true }
def ReadyBothUptoSaid : Prop := readyBothUptoRow.holds Tryz.pinned (OpenSpec.upto readyBothSpec)

end Rows
end Go.Proofs.YtbkccpddkpclaaaGreatDoor
