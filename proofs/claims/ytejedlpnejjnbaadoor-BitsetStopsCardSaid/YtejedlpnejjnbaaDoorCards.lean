/-
  DERIVED. GIVEN WITH THE SEED: THE CARDS: each row of YtejedlpnejjnbaaDoorRows.lean that lists a variable, with what it lists TIED to the program's text (the seventh form; the later family's looks); each row that meets fmt, with fmt's text TOLD by the authors' own Lean function (tested against real Go, not proved from fmt's source: count such statements apart). THE CARD IS WHAT COUNTS. Prove the row's statement (the work); the ties are given (YtejedlpnejjnbaaDoorTie.lean); close each card by the builder's one call (the guide's Derived/Test/ToyasCard.lean, 'card_holds'). Laid BY PROGRAM, IN A SANDBOX (cutbox-door.mjs). By AI agents, Wed Nov 11 2026. No macro, syntax, notation, axiom, sorry.
-/
import Derived.Test.YtejedlpnejjnbaaDoorRows
import GoSem.ClaimSeven
namespace Go.Proofs.YtejedlpnejjnbaaDoor
namespace Rows

/-- THE TIED CARD OF 'becketlaw04.BitsetOne'. -/
def bitsetOneCard : Claim7 := { stood := { row := bitsetOneRow, standIns := [], harness := (true, "f02cc16e840ace84d354975b68e0cdb8c84005bc15e9044edee3ba878c7e3c6a"), looks := false }, kinds := [], alts := [], laidByText := true, laidKinds := [.data], laidTests := true, laidLooks := .later }
def BitsetOneCardSaid : Prop := Claim7.holds Tryd.pinned (.plain (OpenSpec.ofChange bitsetOneSpec)) bitsetOneCard

/-- THE TIED CARD OF 'becketlaw04.BitsetStops'. -/
def bitsetStopsCard : Claim7 := { stood := { row := bitsetStopsRow, standIns := [], harness := (true, "f02cc16e840ace84d354975b68e0cdb8c84005bc15e9044edee3ba878c7e3c6a"), looks := false }, kinds := [], alts := [], laidByText := true, laidKinds := [.data], laidTests := true, laidLooks := .later }
def BitsetStopsCardSaid : Prop := Claim7.holds Tryd.pinned (.plain (OpenSpec.ofChange bitsetStopsSpec)) bitsetStopsCard

/-- THE TIED CARD OF 'becketlaw04.BitsetTwo'. -/
def bitsetTwoCard : Claim7 := { stood := { row := bitsetTwoRow, standIns := [], harness := (true, "f02cc16e840ace84d354975b68e0cdb8c84005bc15e9044edee3ba878c7e3c6a"), looks := false }, kinds := [], alts := [], laidByText := true, laidKinds := [.data], laidTests := true, laidLooks := .later }
def BitsetTwoCardSaid : Prop := Claim7.holds Tryd.pinned (.plain (OpenSpec.ofChange bitsetTwoSpec)) bitsetTwoCard

/-- THE TIED CARD OF 'becketlaw04.BitsetLaws'. -/
def bitsetLawsCard : Claim7 := { stood := { row := bitsetLawsRow, standIns := [], harness := (true, "f02cc16e840ace84d354975b68e0cdb8c84005bc15e9044edee3ba878c7e3c6a"), looks := false }, kinds := [], alts := [], laidByText := true, laidKinds := [.data], laidTests := true, laidLooks := .later }
def BitsetLawsCardSaid : Prop := Claim7.holds Tryd.pinned (.plain (OpenSpec.ofChange bitsetLawsSpec)) bitsetLawsCard

/-- THE TIED CARD OF 'becketlaw21.RollActs'. -/
def rollActsCard : Claim7 := { stood := { row := rollActsRow, standIns := [], harness := (true, "f02cc16e840ace84d354975b68e0cdb8c84005bc15e9044edee3ba878c7e3c6a"), looks := false }, kinds := [], alts := [], laidByText := true, laidKinds := [.data, .data], laidTests := true, laidLooks := .later }
def RollActsCardSaid : Prop := Claim7.holds Tryd.pinned (.plain (OpenSpec.ofChange rollActsSpec)) rollActsCard

/-- THE TIED CARD OF 'becketlaw21.RollFires'. -/
def rollFiresCard : Claim7 := { stood := { row := rollFiresRow, standIns := [], harness := (true, "f02cc16e840ace84d354975b68e0cdb8c84005bc15e9044edee3ba878c7e3c6a"), looks := false }, kinds := [], alts := [], laidByText := true, laidKinds := [.data, .data], laidTests := true, laidLooks := .later }
def RollFiresCardSaid : Prop := Claim7.holds Tryd.pinned (.plain (OpenSpec.ofChange rollFiresSpec)) rollFiresCard

/-- THE TIED CARD OF 'becketlaw21.RollCounts'. -/
def rollCountsCard : Claim7 := { stood := { row := rollCountsRow, standIns := [], harness := (true, "f02cc16e840ace84d354975b68e0cdb8c84005bc15e9044edee3ba878c7e3c6a"), looks := false }, kinds := [], alts := [], laidByText := true, laidKinds := [.data, .data], laidTests := true, laidLooks := .later }
def RollCountsCardSaid : Prop := Claim7.holds Tryd.pinned (.plain (OpenSpec.ofChange rollCountsSpec)) rollCountsCard

/-- THE SECOND FORM's CARD OF 'becketlaw04.BitsetOne'. -/
def bitsetOneUptoCard : Claim7 := { stood := { row := bitsetOneUptoRow, standIns := [], harness := (true, "f02cc16e840ace84d354975b68e0cdb8c84005bc15e9044edee3ba878c7e3c6a"), looks := false }, kinds := [], alts := [], laidByText := true, laidKinds := [.data], laidTests := true, laidLooks := .later }
def BitsetOneUptoCardSaid : Prop := Claim7.holds Tryd.pinned (.plain (OpenSpec.upto bitsetOneSpec)) bitsetOneUptoCard

/-- THE SECOND FORM's CARD OF 'becketlaw04.BitsetStops'. -/
def bitsetStopsUptoCard : Claim7 := { stood := { row := bitsetStopsUptoRow, standIns := [], harness := (true, "f02cc16e840ace84d354975b68e0cdb8c84005bc15e9044edee3ba878c7e3c6a"), looks := false }, kinds := [], alts := [], laidByText := true, laidKinds := [.data], laidTests := true, laidLooks := .later }
def BitsetStopsUptoCardSaid : Prop := Claim7.holds Tryd.pinned (.plain (OpenSpec.upto bitsetStopsSpec)) bitsetStopsUptoCard

/-- THE SECOND FORM's CARD OF 'becketlaw04.BitsetTwo'. -/
def bitsetTwoUptoCard : Claim7 := { stood := { row := bitsetTwoUptoRow, standIns := [], harness := (true, "f02cc16e840ace84d354975b68e0cdb8c84005bc15e9044edee3ba878c7e3c6a"), looks := false }, kinds := [], alts := [], laidByText := true, laidKinds := [.data], laidTests := true, laidLooks := .later }
def BitsetTwoUptoCardSaid : Prop := Claim7.holds Tryd.pinned (.plain (OpenSpec.upto bitsetTwoSpec)) bitsetTwoUptoCard

/-- THE SECOND FORM's CARD OF 'becketlaw04.BitsetLaws'. -/
def bitsetLawsUptoCard : Claim7 := { stood := { row := bitsetLawsUptoRow, standIns := [], harness := (true, "f02cc16e840ace84d354975b68e0cdb8c84005bc15e9044edee3ba878c7e3c6a"), looks := false }, kinds := [], alts := [], laidByText := true, laidKinds := [.data], laidTests := true, laidLooks := .later }
def BitsetLawsUptoCardSaid : Prop := Claim7.holds Tryd.pinned (.plain (OpenSpec.upto bitsetLawsSpec)) bitsetLawsUptoCard

/-- THE SECOND FORM's CARD OF 'becketlaw21.RollActs'. -/
def rollActsUptoCard : Claim7 := { stood := { row := rollActsUptoRow, standIns := [], harness := (true, "f02cc16e840ace84d354975b68e0cdb8c84005bc15e9044edee3ba878c7e3c6a"), looks := false }, kinds := [], alts := [], laidByText := true, laidKinds := [.data, .data], laidTests := true, laidLooks := .later }
def RollActsUptoCardSaid : Prop := Claim7.holds Tryd.pinned (.plain (OpenSpec.upto rollActsSpec)) rollActsUptoCard

/-- THE SECOND FORM's CARD OF 'becketlaw21.RollFires'. -/
def rollFiresUptoCard : Claim7 := { stood := { row := rollFiresUptoRow, standIns := [], harness := (true, "f02cc16e840ace84d354975b68e0cdb8c84005bc15e9044edee3ba878c7e3c6a"), looks := false }, kinds := [], alts := [], laidByText := true, laidKinds := [.data, .data], laidTests := true, laidLooks := .later }
def RollFiresUptoCardSaid : Prop := Claim7.holds Tryd.pinned (.plain (OpenSpec.upto rollFiresSpec)) rollFiresUptoCard

/-- THE SECOND FORM's CARD OF 'becketlaw21.RollCounts'. -/
def rollCountsUptoCard : Claim7 := { stood := { row := rollCountsUptoRow, standIns := [], harness := (true, "f02cc16e840ace84d354975b68e0cdb8c84005bc15e9044edee3ba878c7e3c6a"), looks := false }, kinds := [], alts := [], laidByText := true, laidKinds := [.data, .data], laidTests := true, laidLooks := .later }
def RollCountsUptoCardSaid : Prop := Claim7.holds Tryd.pinned (.plain (OpenSpec.upto rollCountsSpec)) rollCountsUptoCard
end Rows
end Go.Proofs.YtejedlpnejjnbaaDoor
