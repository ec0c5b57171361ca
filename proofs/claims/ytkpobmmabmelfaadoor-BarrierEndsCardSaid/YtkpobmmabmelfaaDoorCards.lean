/-
  DERIVED. GIVEN WITH THE SEED: THE CARDS: each row of YtkpobmmabmelfaaDoorRows.lean that lists a variable, with what it lists TIED to the program's text (the seventh form; the later family's looks); each row that meets fmt, with fmt's text TOLD by the authors' own Lean function (tested against real Go, not proved from fmt's source: count such statements apart). THE CARD IS WHAT COUNTS. Prove the row's statement (the work); the ties are given (YtkpobmmabmelfaaDoorTie.lean); close each card by the builder's one call (the guide's Derived/Test/ToyasCard.lean, 'card_holds'). Laid BY PROGRAM, IN A SANDBOX (cutbox-door.mjs). By AI agents, Wed Nov 11 2026. No macro, syntax, notation, axiom, sorry.
-/
import Derived.Test.YtkpobmmabmelfaaDoorRows
import GoSem.ClaimSeven
namespace Go.Proofs.YtkpobmmabmelfaaDoor
namespace Rows

/-- THE TIED CARD OF 'becketlaw22.BarrierFires'. -/
def barrierFiresCard : Claim7 := { stood := { row := barrierFiresRow, standIns := [], harness := (true, "c67c4ed1d90af463eb488493ed02f63d1fb3e147c496d63791b7857adfba86c8"), looks := false }, kinds := [], alts := [], laidByText := true, laidKinds := [.data, .data], laidTests := true, laidLooks := .later }
def BarrierFiresCardSaid : Prop := Claim7.holds Tryd.pinned (.plain (OpenSpec.ofChange barrierFiresSpec)) barrierFiresCard

/-- THE TIED CARD OF 'becketlaw22.BarrierActs'. -/
def barrierActsCard : Claim7 := { stood := { row := barrierActsRow, standIns := [], harness := (true, "c67c4ed1d90af463eb488493ed02f63d1fb3e147c496d63791b7857adfba86c8"), looks := false }, kinds := [], alts := [], laidByText := true, laidKinds := [.data, .data], laidTests := true, laidLooks := .later }
def BarrierActsCardSaid : Prop := Claim7.holds Tryd.pinned (.plain (OpenSpec.ofChange barrierActsSpec)) barrierActsCard

/-- THE TIED CARD OF 'becketlaw22.BarrierEnds'. -/
def barrierEndsCard : Claim7 := { stood := { row := barrierEndsRow, standIns := [], harness := (true, "c67c4ed1d90af463eb488493ed02f63d1fb3e147c496d63791b7857adfba86c8"), looks := false }, kinds := [], alts := [], laidByText := true, laidKinds := [.data, .data], laidTests := true, laidLooks := .later }
def BarrierEndsCardSaid : Prop := Claim7.holds Tryd.pinned (.plain (OpenSpec.ofChange barrierEndsSpec)) barrierEndsCard

/-- THE TIED CARD OF 'becketlaw23.BartabOffers'. -/
def bartabOffersCard : Claim7 := { stood := { row := bartabOffersRow, standIns := [], harness := (true, "c67c4ed1d90af463eb488493ed02f63d1fb3e147c496d63791b7857adfba86c8"), looks := false }, kinds := [], alts := [], laidByText := true, laidKinds := [.data, .data], laidTests := true, laidLooks := .later }
def BartabOffersCardSaid : Prop := Claim7.holds Tryd.pinned (.plain (OpenSpec.ofChange bartabOffersSpec)) bartabOffersCard

/-- THE TIED CARD OF 'becketlaw23.BartabActs'. -/
def bartabActsCard : Claim7 := { stood := { row := bartabActsRow, standIns := [], harness := (true, "c67c4ed1d90af463eb488493ed02f63d1fb3e147c496d63791b7857adfba86c8"), looks := false }, kinds := [], alts := [], laidByText := true, laidKinds := [.data, .data], laidTests := true, laidLooks := .later }
def BartabActsCardSaid : Prop := Claim7.holds Tryd.pinned (.plain (OpenSpec.ofChange bartabActsSpec)) bartabActsCard

/-- THE TIED CARD OF 'becketlaw23.BartabNew'. -/
def bartabNewCard : Claim7 := { stood := { row := bartabNewRow, standIns := [], harness := (true, "c67c4ed1d90af463eb488493ed02f63d1fb3e147c496d63791b7857adfba86c8"), looks := false }, kinds := [], alts := [], laidByText := true, laidKinds := [.data, .data], laidTests := true, laidLooks := .later }
def BartabNewCardSaid : Prop := Claim7.holds Tryd.pinned (.plain (OpenSpec.ofChange bartabNewSpec)) bartabNewCard

/-- THE TIED CARD OF 'becketlaw23.BartabQuits'. -/
def bartabQuitsCard : Claim7 := { stood := { row := bartabQuitsRow, standIns := [], harness := (true, "c67c4ed1d90af463eb488493ed02f63d1fb3e147c496d63791b7857adfba86c8"), looks := false }, kinds := [], alts := [], laidByText := true, laidKinds := [.data, .data], laidTests := true, laidLooks := .later }
def BartabQuitsCardSaid : Prop := Claim7.holds Tryd.pinned (.plain (OpenSpec.ofChange bartabQuitsSpec)) bartabQuitsCard

/-- THE SECOND FORM's CARD OF 'becketlaw22.BarrierFires'. -/
def barrierFiresUptoCard : Claim7 := { stood := { row := barrierFiresUptoRow, standIns := [], harness := (true, "c67c4ed1d90af463eb488493ed02f63d1fb3e147c496d63791b7857adfba86c8"), looks := false }, kinds := [], alts := [], laidByText := true, laidKinds := [.data, .data], laidTests := true, laidLooks := .later }
def BarrierFiresUptoCardSaid : Prop := Claim7.holds Tryd.pinned (.plain (OpenSpec.upto barrierFiresSpec)) barrierFiresUptoCard

/-- THE SECOND FORM's CARD OF 'becketlaw22.BarrierActs'. -/
def barrierActsUptoCard : Claim7 := { stood := { row := barrierActsUptoRow, standIns := [], harness := (true, "c67c4ed1d90af463eb488493ed02f63d1fb3e147c496d63791b7857adfba86c8"), looks := false }, kinds := [], alts := [], laidByText := true, laidKinds := [.data, .data], laidTests := true, laidLooks := .later }
def BarrierActsUptoCardSaid : Prop := Claim7.holds Tryd.pinned (.plain (OpenSpec.upto barrierActsSpec)) barrierActsUptoCard

/-- THE SECOND FORM's CARD OF 'becketlaw22.BarrierEnds'. -/
def barrierEndsUptoCard : Claim7 := { stood := { row := barrierEndsUptoRow, standIns := [], harness := (true, "c67c4ed1d90af463eb488493ed02f63d1fb3e147c496d63791b7857adfba86c8"), looks := false }, kinds := [], alts := [], laidByText := true, laidKinds := [.data, .data], laidTests := true, laidLooks := .later }
def BarrierEndsUptoCardSaid : Prop := Claim7.holds Tryd.pinned (.plain (OpenSpec.upto barrierEndsSpec)) barrierEndsUptoCard

/-- THE SECOND FORM's CARD OF 'becketlaw23.BartabOffers'. -/
def bartabOffersUptoCard : Claim7 := { stood := { row := bartabOffersUptoRow, standIns := [], harness := (true, "c67c4ed1d90af463eb488493ed02f63d1fb3e147c496d63791b7857adfba86c8"), looks := false }, kinds := [], alts := [], laidByText := true, laidKinds := [.data, .data], laidTests := true, laidLooks := .later }
def BartabOffersUptoCardSaid : Prop := Claim7.holds Tryd.pinned (.plain (OpenSpec.upto bartabOffersSpec)) bartabOffersUptoCard

/-- THE SECOND FORM's CARD OF 'becketlaw23.BartabActs'. -/
def bartabActsUptoCard : Claim7 := { stood := { row := bartabActsUptoRow, standIns := [], harness := (true, "c67c4ed1d90af463eb488493ed02f63d1fb3e147c496d63791b7857adfba86c8"), looks := false }, kinds := [], alts := [], laidByText := true, laidKinds := [.data, .data], laidTests := true, laidLooks := .later }
def BartabActsUptoCardSaid : Prop := Claim7.holds Tryd.pinned (.plain (OpenSpec.upto bartabActsSpec)) bartabActsUptoCard

/-- THE SECOND FORM's CARD OF 'becketlaw23.BartabNew'. -/
def bartabNewUptoCard : Claim7 := { stood := { row := bartabNewUptoRow, standIns := [], harness := (true, "c67c4ed1d90af463eb488493ed02f63d1fb3e147c496d63791b7857adfba86c8"), looks := false }, kinds := [], alts := [], laidByText := true, laidKinds := [.data, .data], laidTests := true, laidLooks := .later }
def BartabNewUptoCardSaid : Prop := Claim7.holds Tryd.pinned (.plain (OpenSpec.upto bartabNewSpec)) bartabNewUptoCard

/-- THE SECOND FORM's CARD OF 'becketlaw23.BartabQuits'. -/
def bartabQuitsUptoCard : Claim7 := { stood := { row := bartabQuitsUptoRow, standIns := [], harness := (true, "c67c4ed1d90af463eb488493ed02f63d1fb3e147c496d63791b7857adfba86c8"), looks := false }, kinds := [], alts := [], laidByText := true, laidKinds := [.data, .data], laidTests := true, laidLooks := .later }
def BartabQuitsUptoCardSaid : Prop := Claim7.holds Tryd.pinned (.plain (OpenSpec.upto bartabQuitsSpec)) bartabQuitsUptoCard
end Rows
end Go.Proofs.YtkpobmmabmelfaaDoor
