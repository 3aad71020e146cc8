/-
  DERIVED. GIVEN WITH THE SEED: THE CARDS: each row of YtmlgcbjkfcapaaaGreatDoorRows.lean that lists a variable, with what it lists TIED to the program's text (the seventh form; the later family's looks); each row that meets fmt, with fmt's text TOLD by the authors' own Lean function (tested against real Go, not proved from fmt's source: count such statements apart). THE CARD IS WHAT COUNTS. Prove the row's statement (the work); the ties are given (YtmlgcbjkfcapaaaGreatDoorTie.lean); close each card by the builder's one call (the guide's Derived/Test/ToyasCard.lean, 'card_holds'). Laid BY PROGRAM, IN A SANDBOX (cutbox-door.mjs). By AI agents, Wed Nov 11 2026. No macro, syntax, notation, axiom, sorry.
-/
import Derived.Test.YtmlgcbjkfcapaaaGreatDoorRows
import GoSem.ClaimSeven
namespace Go.Proofs.YtmlgcbjkfcapaaaGreatDoor
namespace Rows

/-- THE TIED CARD OF 'laws.FnExactMinimalSimulation'. -/
def fnExactMinimalSimulationCard : Claim7 := { stood := { row := fnExactMinimalSimulationRow, standIns := [], harness := (true, "efca3e8c6a8493801a05fb7e0c7ce4ada21feb1919e17268e0f8a7a3b40e46e8"), looks := true }, kinds := [], alts := [], laidByText := true, laidKinds := [.data, .data, .data, .data, .sentinel, .sentinel, .pinned], laidTests := true, laidLooks := .later }
def FnExactMinimalSimulationCardSaid : Prop := Claim7.holds Tryz.pinned (.plain (OpenSpec.ofChange fnExactMinimalSimulationSpec)) fnExactMinimalSimulationCard

/-- THE TIED CARD OF 'laws.FnExactCommonTraces'. -/
def fnExactCommonTracesCard : Claim7 := { stood := { row := fnExactCommonTracesRow, standIns := [], harness := (true, "efca3e8c6a8493801a05fb7e0c7ce4ada21feb1919e17268e0f8a7a3b40e46e8"), looks := true }, kinds := [], alts := [], laidByText := true, laidKinds := [.data, .data, .data, .data, .sentinel, .sentinel, .pinned], laidTests := true, laidLooks := .later }
def FnExactCommonTracesCardSaid : Prop := Claim7.holds Tryz.pinned (.plain (OpenSpec.ofChange fnExactCommonTracesSpec)) fnExactCommonTracesCard

/-- THE TIED CARD OF 'laws.FnExactSupervisorOf'. -/
def fnExactSupervisorOfCard : Claim7 := { stood := { row := fnExactSupervisorOfRow, standIns := [], harness := (true, "efca3e8c6a8493801a05fb7e0c7ce4ada21feb1919e17268e0f8a7a3b40e46e8"), looks := true }, kinds := [], alts := [], laidByText := true, laidKinds := [.data, .data, .data, .data, .sentinel, .sentinel, .pinned], laidTests := true, laidLooks := .later }
def FnExactSupervisorOfCardSaid : Prop := Claim7.holds Tryz.pinned (.plain (OpenSpec.ofChange fnExactSupervisorOfSpec)) fnExactSupervisorOfCard

/-- THE SECOND FORM's CARD OF 'laws.FnExactMinimalSimulation'. -/
def fnExactMinimalSimulationUptoCard : Claim7 := { stood := { row := fnExactMinimalSimulationUptoRow, standIns := [], harness := (true, "efca3e8c6a8493801a05fb7e0c7ce4ada21feb1919e17268e0f8a7a3b40e46e8"), looks := true }, kinds := [], alts := [], laidByText := true, laidKinds := [.data, .data, .data, .data, .sentinel, .sentinel, .pinned], laidTests := true, laidLooks := .later }
def FnExactMinimalSimulationUptoCardSaid : Prop := Claim7.holds Tryz.pinned (.plain (OpenSpec.upto fnExactMinimalSimulationSpec)) fnExactMinimalSimulationUptoCard

/-- THE SECOND FORM's CARD OF 'laws.FnExactCommonTraces'. -/
def fnExactCommonTracesUptoCard : Claim7 := { stood := { row := fnExactCommonTracesUptoRow, standIns := [], harness := (true, "efca3e8c6a8493801a05fb7e0c7ce4ada21feb1919e17268e0f8a7a3b40e46e8"), looks := true }, kinds := [], alts := [], laidByText := true, laidKinds := [.data, .data, .data, .data, .sentinel, .sentinel, .pinned], laidTests := true, laidLooks := .later }
def FnExactCommonTracesUptoCardSaid : Prop := Claim7.holds Tryz.pinned (.plain (OpenSpec.upto fnExactCommonTracesSpec)) fnExactCommonTracesUptoCard

/-- THE SECOND FORM's CARD OF 'laws.FnExactSupervisorOf'. -/
def fnExactSupervisorOfUptoCard : Claim7 := { stood := { row := fnExactSupervisorOfUptoRow, standIns := [], harness := (true, "efca3e8c6a8493801a05fb7e0c7ce4ada21feb1919e17268e0f8a7a3b40e46e8"), looks := true }, kinds := [], alts := [], laidByText := true, laidKinds := [.data, .data, .data, .data, .sentinel, .sentinel, .pinned], laidTests := true, laidLooks := .later }
def FnExactSupervisorOfUptoCardSaid : Prop := Claim7.holds Tryz.pinned (.plain (OpenSpec.upto fnExactSupervisorOfSpec)) fnExactSupervisorOfUptoCard
end Rows
end Go.Proofs.YtmlgcbjkfcapaaaGreatDoor
