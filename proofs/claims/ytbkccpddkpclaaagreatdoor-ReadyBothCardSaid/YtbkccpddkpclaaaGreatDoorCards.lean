/-
  DERIVED. GIVEN WITH THE SEED: THE CARDS: each row of YtbkccpddkpclaaaGreatDoorRows.lean that lists a variable, with what it lists TIED to the program's text (the seventh form; the later family's looks); each row that meets fmt, with fmt's text TOLD by the authors' own Lean function (tested against real Go, not proved from fmt's source: count such statements apart). THE CARD IS WHAT COUNTS. Prove the row's statement (the work); the ties are given (YtbkccpddkpclaaaGreatDoorTie.lean); close each card by the builder's one call (the guide's Derived/Test/ToyasCard.lean, 'card_holds'). Laid BY PROGRAM, IN A SANDBOX (cutbox-door.mjs). By AI agents, Wed Nov 11 2026. No macro, syntax, notation, axiom, sorry.
-/
import Derived.Test.YtbkccpddkpclaaaGreatDoorRows
import GoSem.ClaimSeven
namespace Go.Proofs.YtbkccpddkpclaaaGreatDoor
namespace Rows

/-- THE TIED CARD OF 'becketlaw29.ReadyGuards'. -/
def readyGuardsCard : Claim7 := { stood := { row := readyGuardsRow, standIns := [], harness := (true, "686ed4b1ff36f154cca0019cb91a4391a68617ce616bac50a2ee2e98c1a789c3"), looks := false }, kinds := [], alts := [], laidByText := true, laidKinds := [.data], laidTests := true, laidLooks := .later }
def ReadyGuardsCardSaid : Prop := Claim7.holds Tryz.pinned (.plain (OpenSpec.ofChange readyGuardsSpec)) readyGuardsCard

/-- THE TIED CARD OF 'becketlaw29.ReadyBoth'. -/
def readyBothCard : Claim7 := { stood := { row := readyBothRow, standIns := [], harness := (true, "686ed4b1ff36f154cca0019cb91a4391a68617ce616bac50a2ee2e98c1a789c3"), looks := false }, kinds := [], alts := [], laidByText := true, laidKinds := [.data], laidTests := true, laidLooks := .later }
def ReadyBothCardSaid : Prop := Claim7.holds Tryz.pinned (.plain (OpenSpec.ofChange readyBothSpec)) readyBothCard

/-- THE SECOND FORM's CARD OF 'becketlaw29.ReadyGuards'. -/
def readyGuardsUptoCard : Claim7 := { stood := { row := readyGuardsUptoRow, standIns := [], harness := (true, "686ed4b1ff36f154cca0019cb91a4391a68617ce616bac50a2ee2e98c1a789c3"), looks := false }, kinds := [], alts := [], laidByText := true, laidKinds := [.data], laidTests := true, laidLooks := .later }
def ReadyGuardsUptoCardSaid : Prop := Claim7.holds Tryz.pinned (.plain (OpenSpec.upto readyGuardsSpec)) readyGuardsUptoCard

/-- THE SECOND FORM's CARD OF 'becketlaw29.ReadyBoth'. -/
def readyBothUptoCard : Claim7 := { stood := { row := readyBothUptoRow, standIns := [], harness := (true, "686ed4b1ff36f154cca0019cb91a4391a68617ce616bac50a2ee2e98c1a789c3"), looks := false }, kinds := [], alts := [], laidByText := true, laidKinds := [.data], laidTests := true, laidLooks := .later }
def ReadyBothUptoCardSaid : Prop := Claim7.holds Tryz.pinned (.plain (OpenSpec.upto readyBothSpec)) readyBothUptoCard
end Rows
end Go.Proofs.YtbkccpddkpclaaaGreatDoor
