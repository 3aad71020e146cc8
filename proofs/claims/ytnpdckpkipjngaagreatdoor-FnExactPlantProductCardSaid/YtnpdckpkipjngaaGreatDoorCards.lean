/-
  DERIVED. GIVEN WITH THE SEED: THE CARDS: each row of YtnpdckpkipjngaaGreatDoorRows.lean that lists a variable, with what it lists TIED to the program's text (the seventh form; the later family's looks); each row that meets fmt, with fmt's text TOLD by the authors' own Lean function (tested against real Go, not proved from fmt's source: count such statements apart). THE CARD IS WHAT COUNTS. Prove the row's statement (the work); the ties are given (YtnpdckpkipjngaaGreatDoorTie.lean); close each card by the builder's one call (the guide's Derived/Test/ToyasCard.lean, 'card_holds'). Laid BY PROGRAM, IN A SANDBOX (cutbox-door.mjs). By AI agents, Wed Nov 11 2026. No macro, syntax, notation, axiom, sorry.
-/
import Derived.Test.YtnpdckpkipjngaaGreatDoorRows
import GoSem.ClaimSeven
namespace Go.Proofs.YtnpdckpkipjngaaGreatDoor
namespace Rows

/-- THE TIED CARD OF 'laws.FnExactPlainMonitor'. -/
def fnExactPlainMonitorCard : Claim7 := { stood := { row := fnExactPlainMonitorRow, standIns := [], harness := (true, "5ee7cf087480fc7d5a92dae8b17d3d45d54c86e7de72fd9e3d4e4a4ff55ca350"), looks := true }, kinds := [], alts := [], laidByText := true, laidKinds := [.data, .data, .data, .data, .sentinel, .sentinel, .pinned], laidTests := true, laidLooks := .later }
def FnExactPlainMonitorCardSaid : Prop := Claim7.holds Tryz.pinned (.plain (OpenSpec.ofChange fnExactPlainMonitorSpec)) fnExactPlainMonitorCard

/-- THE TIED CARD OF 'laws.FnExactPlantProduct'. -/
def fnExactPlantProductCard : Claim7 := { stood := { row := fnExactPlantProductRow, standIns := [], harness := (true, "5ee7cf087480fc7d5a92dae8b17d3d45d54c86e7de72fd9e3d4e4a4ff55ca350"), looks := true }, kinds := [], alts := [], laidByText := true, laidKinds := [.data, .data, .data, .data, .sentinel, .sentinel, .pinned], laidTests := true, laidLooks := .later }
def FnExactPlantProductCardSaid : Prop := Claim7.holds Tryz.pinned (.plain (OpenSpec.ofChange fnExactPlantProductSpec)) fnExactPlantProductCard

/-- THE SECOND FORM's CARD OF 'laws.FnExactPlainMonitor'. -/
def fnExactPlainMonitorUptoCard : Claim7 := { stood := { row := fnExactPlainMonitorUptoRow, standIns := [], harness := (true, "5ee7cf087480fc7d5a92dae8b17d3d45d54c86e7de72fd9e3d4e4a4ff55ca350"), looks := true }, kinds := [], alts := [], laidByText := true, laidKinds := [.data, .data, .data, .data, .sentinel, .sentinel, .pinned], laidTests := true, laidLooks := .later }
def FnExactPlainMonitorUptoCardSaid : Prop := Claim7.holds Tryz.pinned (.plain (OpenSpec.upto fnExactPlainMonitorSpec)) fnExactPlainMonitorUptoCard

/-- THE SECOND FORM's CARD OF 'laws.FnExactPlantProduct'. -/
def fnExactPlantProductUptoCard : Claim7 := { stood := { row := fnExactPlantProductUptoRow, standIns := [], harness := (true, "5ee7cf087480fc7d5a92dae8b17d3d45d54c86e7de72fd9e3d4e4a4ff55ca350"), looks := true }, kinds := [], alts := [], laidByText := true, laidKinds := [.data, .data, .data, .data, .sentinel, .sentinel, .pinned], laidTests := true, laidLooks := .later }
def FnExactPlantProductUptoCardSaid : Prop := Claim7.holds Tryz.pinned (.plain (OpenSpec.upto fnExactPlantProductSpec)) fnExactPlantProductUptoCard
end Rows
end Go.Proofs.YtnpdckpkipjngaaGreatDoor
