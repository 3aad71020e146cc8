/-
  DERIVED. GIVEN WITH THE SEED: THE CARDS: each row of YtnaggbljhaoimaaGreatDoorRows.lean that lists a variable, with what it lists TIED to the program's text (the seventh form; the later family's looks); each row that meets fmt, with fmt's text TOLD by the authors' own Lean function (tested against real Go, not proved from fmt's source: count such statements apart). THE CARD IS WHAT COUNTS. Prove the row's statement (the work); the ties are given (YtnaggbljhaoimaaGreatDoorTie.lean); close each card by the builder's one call (the guide's Derived/Test/ToyasCard.lean, 'card_holds'). Laid BY PROGRAM, IN A SANDBOX (cutbox-door.mjs). By AI agents, Wed Nov 11 2026. No macro, syntax, notation, axiom, sorry.
-/
import Derived.Test.YtnaggbljhaoimaaGreatDoorRows
import GoSem.ClaimSeven
namespace Go.Proofs.YtnaggbljhaoimaaGreatDoor
namespace Rows

/-- THE TIED CARD OF 'laws.FnExactMinimizeParts'. -/
def fnExactMinimizePartsCard : Claim7 := { stood := { row := fnExactMinimizePartsRow, standIns := [], harness := (true, "9d3a14650c486e006a048e61127723250e2b244ac2c50fac4cab2941f0722a9f"), looks := true }, kinds := [], alts := [], laidByText := true, laidKinds := [.data, .data, .data, .data, .sentinel, .sentinel, .pinned], laidTests := true, laidLooks := .later }
def FnExactMinimizePartsCardSaid : Prop := Claim7.holds Tryz.pinned (.plain (OpenSpec.ofChange fnExactMinimizePartsSpec)) fnExactMinimizePartsCard

/-- THE SECOND FORM's CARD OF 'laws.FnExactMinimizeParts'. -/
def fnExactMinimizePartsUptoCard : Claim7 := { stood := { row := fnExactMinimizePartsUptoRow, standIns := [], harness := (true, "9d3a14650c486e006a048e61127723250e2b244ac2c50fac4cab2941f0722a9f"), looks := true }, kinds := [], alts := [], laidByText := true, laidKinds := [.data, .data, .data, .data, .sentinel, .sentinel, .pinned], laidTests := true, laidLooks := .later }
def FnExactMinimizePartsUptoCardSaid : Prop := Claim7.holds Tryz.pinned (.plain (OpenSpec.upto fnExactMinimizePartsSpec)) fnExactMinimizePartsUptoCard
end Rows
end Go.Proofs.YtnaggbljhaoimaaGreatDoor
