/-
  DERIVED. GIVEN WITH THE SEED: THE CARDS: each row of YtdddmgbbjifkdaaDoorRows.lean that lists a variable, with what it lists TIED to the program's text (the seventh form; the later family's looks); each row that meets fmt, with fmt's text TOLD by the authors' own Lean function (tested against real Go, not proved from fmt's source: count such statements apart). THE CARD IS WHAT COUNTS. Prove the row's statement (the work); the ties are given (YtdddmgbbjifkdaaDoorTie.lean); close each card by the builder's one call (the guide's Derived/Test/ToyasCard.lean, 'card_holds'). Laid BY PROGRAM, IN A SANDBOX (cutbox-door.mjs). By AI agents, Wed Nov 11 2026. No macro, syntax, notation, axiom, sorry.
-/
import Derived.Test.YtdddmgbbjifkdaaDoorRows
import GoSem.ClaimSeven
namespace Go.Proofs.YtdddmgbbjifkdaaDoor
namespace Rows

/-- THE TIED CARD OF 'becketlaw09.OpcodeTells'. -/
def opcodeTellsCard : Claim7 := { stood := { row := opcodeTellsRow, standIns := [], harness := (true, "3be0d0e9aed72d26eb42261fde3b4d23621c4b5d4697c1909e82c8db419e8610"), looks := false }, kinds := [], alts := [], laidByText := true, laidKinds := [.data], laidTests := true, laidLooks := .later }
def OpcodeTellsCardSaid : Prop := Claim7.holds Tryd.pinned (.plain (OpenSpec.ofChange opcodeTellsSpec)) opcodeTellsCard

/-- THE TIED CARD OF 'becketlaw09.OpcodeFinds'. -/
def opcodeFindsCard : Claim7 := { stood := { row := opcodeFindsRow, standIns := [], harness := (true, "3be0d0e9aed72d26eb42261fde3b4d23621c4b5d4697c1909e82c8db419e8610"), looks := false }, kinds := [], alts := [], laidByText := true, laidKinds := [.data], laidTests := true, laidLooks := .later }
def OpcodeFindsCardSaid : Prop := Claim7.holds Tryd.pinned (.plain (OpenSpec.ofChange opcodeFindsSpec)) opcodeFindsCard

/-- THE TIED CARD OF 'becketlaw09.OpcodeBack'. -/
def opcodeBackCard : Claim7 := { stood := { row := opcodeBackRow, standIns := [], harness := (true, "3be0d0e9aed72d26eb42261fde3b4d23621c4b5d4697c1909e82c8db419e8610"), looks := false }, kinds := [], alts := [], laidByText := true, laidKinds := [.data], laidTests := true, laidLooks := .later }
def OpcodeBackCardSaid : Prop := Claim7.holds Tryd.pinned (.plain (OpenSpec.ofChange opcodeBackSpec)) opcodeBackCard

/-- THE SECOND FORM's CARD OF 'becketlaw09.OpcodeTells'. -/
def opcodeTellsUptoCard : Claim7 := { stood := { row := opcodeTellsUptoRow, standIns := [], harness := (true, "3be0d0e9aed72d26eb42261fde3b4d23621c4b5d4697c1909e82c8db419e8610"), looks := false }, kinds := [], alts := [], laidByText := true, laidKinds := [.data], laidTests := true, laidLooks := .later }
def OpcodeTellsUptoCardSaid : Prop := Claim7.holds Tryd.pinned (.plain (OpenSpec.upto opcodeTellsSpec)) opcodeTellsUptoCard

/-- THE SECOND FORM's CARD OF 'becketlaw09.OpcodeFinds'. -/
def opcodeFindsUptoCard : Claim7 := { stood := { row := opcodeFindsUptoRow, standIns := [], harness := (true, "3be0d0e9aed72d26eb42261fde3b4d23621c4b5d4697c1909e82c8db419e8610"), looks := false }, kinds := [], alts := [], laidByText := true, laidKinds := [.data], laidTests := true, laidLooks := .later }
def OpcodeFindsUptoCardSaid : Prop := Claim7.holds Tryd.pinned (.plain (OpenSpec.upto opcodeFindsSpec)) opcodeFindsUptoCard

/-- THE SECOND FORM's CARD OF 'becketlaw09.OpcodeBack'. -/
def opcodeBackUptoCard : Claim7 := { stood := { row := opcodeBackUptoRow, standIns := [], harness := (true, "3be0d0e9aed72d26eb42261fde3b4d23621c4b5d4697c1909e82c8db419e8610"), looks := false }, kinds := [], alts := [], laidByText := true, laidKinds := [.data], laidTests := true, laidLooks := .later }
def OpcodeBackUptoCardSaid : Prop := Claim7.holds Tryd.pinned (.plain (OpenSpec.upto opcodeBackSpec)) opcodeBackUptoCard
end Rows
end Go.Proofs.YtdddmgbbjifkdaaDoor
