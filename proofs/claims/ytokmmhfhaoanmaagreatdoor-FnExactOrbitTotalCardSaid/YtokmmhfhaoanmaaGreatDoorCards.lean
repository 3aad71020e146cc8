/-
  DERIVED. GIVEN WITH THE SEED: THE CARDS: each row of YtokmmhfhaoanmaaGreatDoorRows.lean that lists a variable, with what it lists TIED to the program's text (the seventh form; the later family's looks); each row that meets fmt, with fmt's text TOLD by the authors' own Lean function (tested against real Go, not proved from fmt's source: count such statements apart). THE CARD IS WHAT COUNTS. Prove the row's statement (the work); the ties are given (YtokmmhfhaoanmaaGreatDoorTie.lean); close each card by the builder's one call (the guide's Derived/Test/ToyasCard.lean, 'card_holds'). Laid BY PROGRAM, IN A SANDBOX (cutbox-door.mjs). By AI agents, Wed Nov 11 2026. No macro, syntax, notation, axiom, sorry.
-/
import Derived.Test.YtokmmhfhaoanmaaGreatDoorRows
import GoSem.ClaimSeven
namespace Go.Proofs.YtokmmhfhaoanmaaGreatDoor
namespace Rows

/-- THE TIED CARD OF 'laws.FnExactOrbitTotal'. -/
def fnExactOrbitTotalCard : Claim7 := { stood := { row := fnExactOrbitTotalRow, standIns := [], harness := (true, "47c1e53de90dfaee99a17b5b05494c90ca121c0ac66e98dcfef23801a7ada3a8"), looks := true }, kinds := [], alts := [], laidByText := true, laidKinds := [.data, .data, .data, .data, .sentinel, .sentinel, .pinned], laidTests := true, laidLooks := .later }
def FnExactOrbitTotalCardSaid : Prop := Claim7.holds Tryz.pinned (.plain (OpenSpec.ofChange fnExactOrbitTotalSpec)) fnExactOrbitTotalCard

/-- THE SECOND FORM's CARD OF 'laws.FnExactOrbitTotal'. -/
def fnExactOrbitTotalUptoCard : Claim7 := { stood := { row := fnExactOrbitTotalUptoRow, standIns := [], harness := (true, "47c1e53de90dfaee99a17b5b05494c90ca121c0ac66e98dcfef23801a7ada3a8"), looks := true }, kinds := [], alts := [], laidByText := true, laidKinds := [.data, .data, .data, .data, .sentinel, .sentinel, .pinned], laidTests := true, laidLooks := .later }
def FnExactOrbitTotalUptoCardSaid : Prop := Claim7.holds Tryz.pinned (.plain (OpenSpec.upto fnExactOrbitTotalSpec)) fnExactOrbitTotalUptoCard
end Rows
end Go.Proofs.YtokmmhfhaoanmaaGreatDoor
