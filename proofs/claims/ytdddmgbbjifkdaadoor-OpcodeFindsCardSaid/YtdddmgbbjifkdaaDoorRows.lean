/-
  NARROWER THAN 'FOR EVERY INPUT', by the rows' own cells (each row's printed sentence says how): OpcodeTells: laid · OpcodeFinds: laid · OpcodeBack: laid.
  DERIVED. THE GIVEN ROWS OF THIS SEAT. 3 by the template 'for every input the law returns true; each argument reads behind the call as it read before'; 0 by the template 'total and deterministic' (their statements: YtdddmgbbjifkdaaDoorTotals.lean).
  GIVEN WITH THE SEED: the statements are not yours to turn. If you find one false, say at which input.
  Laid BY PROGRAM, IN A SANDBOX (cutbox-rows.mjs): the forced cells as the released guide's own fill.sh prints them over the translation a6e5605120633be0… (all of the seat's roots in one cut). By AI agents, Wed Nov 11 2026. No macro, syntax, notation, axiom, sorry.
-/
import Derived.Test.YtdddmgbbjifkdaaDoorChecked
import GoSem.Claim
import GoSem.ClaimJoined
import GoSem.ClaimMapViews
import Derived.JoinedTies
import Derived.KernelRfl
namespace Go.Proofs.YtdddmgbbjifkdaaDoor
/- THE CELL 'sum', in the pinned program and in every row, IS THE sha256 OF THE DUMP (.gsa) THAT YtdddmgbbjifkdaaDoorProg.lean LOADS. Nothing in Lean hashes anything: it is a label: what it is worth is what the hold of that sum in a sandbox is worth. -/
noncomputable def Tryd.pinned : Pinned := { name := "ytdddmgbbjifkdaadoor", sum := "a6e5605120633be0f4cc84612170bf9f7fef5b4b8a7965a5a600dbf91fc6ed9e", checked := Tryd.checked }
namespace Rows
def none {H : Type} : Left H := { results := [], args := [] }

/- WHAT THE LISTED PACKAGE-LEVEL VARIABLES READ AS WHEN THE CALL BEGINS. Each datum BY PROGRAM (the guide's laid-datum.mjs) off the statement by which the dump's own 'gosem.cut.vars' lays the variable. In a bare row this is a premise. The card (YtdddmgbbjifkdaaDoorCards.lean) ties it to the program's text. -/
def laid_becket_opcode_kinds {H : Type} : DataW H := .agg [.agg [.lit (.string [110, 111, 112]), .lit (.string [45, 45, 45]), .lit (.int .i64 0)], .agg [.lit (.string [104, 97, 108, 116]), .lit (.string [45, 45, 45]), .lit (.int .i64 5)], .agg [.lit (.string [109, 111, 118]), .lit (.string [114, 114, 45]), .lit (.int .i64 0)], .agg [.lit (.string [115, 101, 116]), .lit (.string [114, 105, 106]), .lit (.int .i64 0)], .agg [.lit (.string [97, 100, 100]), .lit (.string [114, 114, 114]), .lit (.int .i64 0)], .agg [.lit (.string [115, 117, 98]), .lit (.string [114, 114, 114]), .lit (.int .i64 0)], .agg [.lit (.string [109, 117, 108]), .lit (.string [114, 114, 114]), .lit (.int .i64 0)], .agg [.lit (.string [100, 105, 118]), .lit (.string [114, 114, 114]), .lit (.int .i64 0)], .agg [.lit (.string [114, 101, 109]), .lit (.string [114, 114, 114]), .lit (.int .i64 0)], .agg [.lit (.string [97, 110, 100]), .lit (.string [114, 114, 114]), .lit (.int .i64 0)], .agg [.lit (.string [111, 114]), .lit (.string [114, 114, 114]), .lit (.int .i64 0)], .agg [.lit (.string [120, 111, 114]), .lit (.string [114, 114, 114]), .lit (.int .i64 0)], .agg [.lit (.string [115, 104, 108]), .lit (.string [114, 114, 114]), .lit (.int .i64 0)], .agg [.lit (.string [115, 104, 114]), .lit (.string [114, 114, 114]), .lit (.int .i64 0)], .agg [.lit (.string [110, 111, 116]), .lit (.string [114, 114, 45]), .lit (.int .i64 0)], .agg [.lit (.string [110, 101, 103]), .lit (.string [114, 114, 45]), .lit (.int .i64 0)], .agg [.lit (.string [108, 116]), .lit (.string [114, 114, 114]), .lit (.int .i64 0)], .agg [.lit (.string [101, 113]), .lit (.string [114, 114, 114]), .lit (.int .i64 0)], .agg [.lit (.string [106, 109, 112]), .lit (.string [116, 45, 45]), .lit (.int .i64 1)], .agg [.lit (.string [106, 122]), .lit (.string [114, 116, 45]), .lit (.int .i64 1)], .agg [.lit (.string [106, 110, 122]), .lit (.string [114, 116, 45]), .lit (.int .i64 1)], .agg [.lit (.string [106, 98, 97, 100]), .lit (.string [116, 45, 45]), .lit (.int .i64 1)], .agg [.lit (.string [99, 97, 108, 108]), .lit (.string [116, 45, 45]), .lit (.int .i64 1)], .agg [.lit (.string [114, 101, 116]), .lit (.string [45, 45, 45]), .lit (.int .i64 1)], .agg [.lit (.string [108, 111, 97, 100]), .lit (.string [114, 114, 45]), .lit (.int .i64 0)], .agg [.lit (.string [115, 116, 111, 114, 101]), .lit (.string [114, 114, 45]), .lit (.int .i64 0)], .agg [.lit (.string [102, 97, 105, 108]), .lit (.string [115, 45, 45]), .lit (.int .i64 5)], .agg [.lit (.string [101, 109, 105, 116]), .lit (.string [114, 45, 45]), .lit (.int .i64 4)], .agg [.lit (.string [110, 111, 119]), .lit (.string [114, 45, 45]), .lit (.int .i64 4)], .agg [.lit (.string [109, 101]), .lit (.string [114, 45, 45]), .lit (.int .i64 4)], .agg [.lit (.string [115, 112, 97, 119, 110]), .lit (.string [114, 112, 114]), .lit (.int .i64 4)], .agg [.lit (.string [106, 111, 105, 110]), .lit (.string [114, 45, 45]), .lit (.int .i64 2)], .agg [.lit (.string [115, 108, 101, 101, 112]), .lit (.string [114, 45, 45]), .lit (.int .i64 2)], .agg [.lit (.string [115, 101, 110, 100]), .lit (.string [99, 114, 45]), .lit (.int .i64 2)], .agg [.lit (.string [114, 101, 99, 118]), .lit (.string [99, 114, 45]), .lit (.int .i64 2)], .agg [.lit (.string [112, 111, 105, 115, 111, 110]), .lit (.string [99, 114, 45]), .lit (.int .i64 4)], .agg [.lit (.string [101, 110, 114, 111, 108]), .lit (.string [98, 45, 45]), .lit (.int .i64 4)], .agg [.lit (.string [114, 101, 115, 105, 103, 110]), .lit (.string [98, 45, 45]), .lit (.int .i64 4)], .agg [.lit (.string [115, 121, 110, 99]), .lit (.string [98, 45, 45]), .lit (.int .i64 2)], .agg [.lit (.string [102, 97, 108, 108]), .lit (.string [107, 45, 45]), .lit (.int .i64 2)], .agg [.lit (.string [102, 108, 117, 115, 104]), .lit (.string [114, 107, 45]), .lit (.int .i64 4)], .agg [.lit (.string [97, 108, 116]), .lit (.string [114, 109, 110]), .lit (.int .i64 2)], .agg [.lit (.string [103, 105, 110]), .lit (.string [99, 114, 103]), .lit (.int .i64 3)], .agg [.lit (.string [103, 98, 97, 114]), .lit (.string [98, 45, 103]), .lit (.int .i64 3)], .agg [.lit (.string [103, 116, 105, 109, 101]), .lit (.string [114, 45, 103]), .lit (.int .i64 3)], .agg [.lit (.string [103, 115, 107, 105, 112]), .lit (.string [45, 45, 103]), .lit (.int .i64 3)], .agg [.lit (.string [112, 104, 97, 115, 101]), .lit (.string [114, 98, 45]), .lit (.int .i64 4)], .agg [.lit (.string [115, 105, 122, 101]), .lit (.string [114, 98, 45]), .lit (.int .i64 4)]]

/-- 'becketlaw09.OpcodeTells': WHATEVER THE INPUT: true; the input reads as it did. -/
def opcodeTellsSpec : ChangeSpec := { name := "opcodeTells", fn := fun _ => fun
  | [d] => { results := [.lit (.bool true)], args := [d] }
  | _ => none }
def opcodeTellsRow : OpenClaim := { program := "ytdddmgbbjifkdaadoor", sum := "a6e5605120633be0f4cc84612170bf9f7fef5b4b8a7965a5a600dbf91fc6ed9e", func := "becket/becketlaw09.OpcodeTells", spec := "opcodeTells", named := ["becket/opcode.kinds"], apart := false, laid := [("becket/opcode.kinds", laid_becket_opcode_kinds)] }
def OpcodeTellsSaid : Prop := opcodeTellsRow.holds Tryd.pinned (OpenSpec.ofChange opcodeTellsSpec)

/-- ITS FALSE NEIGHBOUR: 'it returns false'. Refute it at one input. -/
def opcodeTellsWrong : ChangeSpec := { name := "opcodeTells", fn := fun _ => fun
  | [d] => { results := [.lit (.bool false)], args := [d] }
  | _ => none }
def OpcodeTellsWrongFalsely : Prop := opcodeTellsRow.holds Tryd.pinned (OpenSpec.ofChange opcodeTellsWrong)

/-- 'becketlaw09.OpcodeFinds': WHATEVER THE INPUT: true; the input reads as it did. -/
def opcodeFindsSpec : ChangeSpec := { name := "opcodeFinds", fn := fun _ => fun
  | [d] => { results := [.lit (.bool true)], args := [d] }
  | _ => none }
def opcodeFindsRow : OpenClaim := { program := "ytdddmgbbjifkdaadoor", sum := "a6e5605120633be0f4cc84612170bf9f7fef5b4b8a7965a5a600dbf91fc6ed9e", func := "becket/becketlaw09.OpcodeFinds", spec := "opcodeFinds", named := ["becket/opcode.kinds"], apart := false, laid := [("becket/opcode.kinds", laid_becket_opcode_kinds)] }
def OpcodeFindsSaid : Prop := opcodeFindsRow.holds Tryd.pinned (OpenSpec.ofChange opcodeFindsSpec)

/-- ITS FALSE NEIGHBOUR: 'it returns false'. Refute it at one input. -/
def opcodeFindsWrong : ChangeSpec := { name := "opcodeFinds", fn := fun _ => fun
  | [d] => { results := [.lit (.bool false)], args := [d] }
  | _ => none }
def OpcodeFindsWrongFalsely : Prop := opcodeFindsRow.holds Tryd.pinned (OpenSpec.ofChange opcodeFindsWrong)

/-- 'becketlaw09.OpcodeBack': WHATEVER THE INPUT: true; the input reads as it did. -/
def opcodeBackSpec : ChangeSpec := { name := "opcodeBack", fn := fun _ => fun
  | [d1, d2] => { results := [.lit (.bool true)], args := [d1, d2] }
  | _ => none }
def opcodeBackRow : OpenClaim := { program := "ytdddmgbbjifkdaadoor", sum := "a6e5605120633be0f4cc84612170bf9f7fef5b4b8a7965a5a600dbf91fc6ed9e", func := "becket/becketlaw09.OpcodeBack", spec := "opcodeBack", named := ["becket/opcode.kinds"], apart := false, laid := [("becket/opcode.kinds", laid_becket_opcode_kinds)] }
def OpcodeBackSaid : Prop := opcodeBackRow.holds Tryd.pinned (OpenSpec.ofChange opcodeBackSpec)

/-- ITS FALSE NEIGHBOUR: 'it returns false'. Refute it at one input. -/
def opcodeBackWrong : ChangeSpec := { name := "opcodeBack", fn := fun _ => fun
  | [d1, d2] => { results := [.lit (.bool false)], args := [d1, d2] }
  | _ => none }
def OpcodeBackWrongFalsely : Prop := opcodeBackRow.holds Tryd.pinned (OpenSpec.ofChange opcodeBackWrong)

/- THE SECOND FORM. 'bulk': how many values and letters a reading holds, each counted each time it is reached (what is shared counts as often as it is met; a slice's spare places count too). A statement '..UptoSaid' is the law's where the arguments, and the package variables that the reading takes, are together of bulk at most 1048576: NARROWER than '..Said'. Prove '..Said' where nothing that the law and all that it calls make is longer than what came in: it says more and counts as full. Else prove '..UptoSaid'. A law counts once. -/
mutual
def uptoBulk {H : Type} : DataW H → Nat
  | .lit (.string bytes) => bytes.length + 1
  | .lit _ => 1
  | .nil => 1
  | .ptr d => uptoBulk d + 1
  | .slice elems spare => uptoBulkAll elems + uptoBulkAll spare + 1
  | .agg parts => uptoBulkAll parts + 1
  | .iface _ d => uptoBulk d + 1
  | .map entries => uptoBulkEntries entries + 1
  | .held _ => 1
def uptoBulkAll {H : Type} : List (DataW H) → Nat
  | [] => 0
  | d :: r => uptoBulk d + uptoBulkAll r
def uptoBulkEntries {H : Type} : List (Lit × DataW H) → Nat
  | [] => 0
  | x :: r => uptoBulkEntry x + uptoBulkEntries r
def uptoBulkEntry {H : Type} : Lit × DataW H → Nat
  | (.string bytes, d) => bytes.length + uptoBulk d + 1
  | (_, d) => uptoBulk d + 1
 end
def uptoSmall : (H : Type) → List (DataW H) → Bool := fun _ ds => decide (uptoBulkAll ds ≤ 1048576)
def OpenSpec.upto (s : _root_.Go.ChangeSpec) : _root_.Go.OpenSpec := { _root_.Go.OpenSpec.ofChange s with cond := some uptoSmall }

/-- 'becketlaw09.OpcodeTells', WHERE WHAT IT READS IS OF BULK AT MOST 1048576: true; the input reads as it did. -/
def opcodeTellsUptoRow : OpenClaim := { program := "ytdddmgbbjifkdaadoor", sum := "a6e5605120633be0f4cc84612170bf9f7fef5b4b8a7965a5a600dbf91fc6ed9e", func := "becket/becketlaw09.OpcodeTells", spec := "opcodeTells", named := ["becket/opcode.kinds"], apart := false, laid := [("becket/opcode.kinds", laid_becket_opcode_kinds)], narrowed := true }
def OpcodeTellsUptoSaid : Prop := opcodeTellsUptoRow.holds Tryd.pinned (OpenSpec.upto opcodeTellsSpec)

/-- 'becketlaw09.OpcodeFinds', WHERE WHAT IT READS IS OF BULK AT MOST 1048576: true; the input reads as it did. -/
def opcodeFindsUptoRow : OpenClaim := { program := "ytdddmgbbjifkdaadoor", sum := "a6e5605120633be0f4cc84612170bf9f7fef5b4b8a7965a5a600dbf91fc6ed9e", func := "becket/becketlaw09.OpcodeFinds", spec := "opcodeFinds", named := ["becket/opcode.kinds"], apart := false, laid := [("becket/opcode.kinds", laid_becket_opcode_kinds)], narrowed := true }
def OpcodeFindsUptoSaid : Prop := opcodeFindsUptoRow.holds Tryd.pinned (OpenSpec.upto opcodeFindsSpec)

/-- 'becketlaw09.OpcodeBack', WHERE WHAT IT READS IS OF BULK AT MOST 1048576: true; the input reads as it did. -/
def opcodeBackUptoRow : OpenClaim := { program := "ytdddmgbbjifkdaadoor", sum := "a6e5605120633be0f4cc84612170bf9f7fef5b4b8a7965a5a600dbf91fc6ed9e", func := "becket/becketlaw09.OpcodeBack", spec := "opcodeBack", named := ["becket/opcode.kinds"], apart := false, laid := [("becket/opcode.kinds", laid_becket_opcode_kinds)], narrowed := true }
def OpcodeBackUptoSaid : Prop := opcodeBackUptoRow.holds Tryd.pinned (OpenSpec.upto opcodeBackSpec)

end Rows
end Go.Proofs.YtdddmgbbjifkdaaDoor
