/-
  DERIVED. GIVEN WITH THE SEED: THE CARDS: each row of YtlechllgdgniaaaGreatDoorRows.lean that lists a variable, with what it lists TIED to the program's text (the seventh form; the later family's looks); each row that meets fmt, with fmt's text TOLD by the authors' own Lean function (tested against real Go, not proved from fmt's source: count such statements apart). THE CARD IS WHAT COUNTS. Prove the row's statement (the work); the ties are given (YtlechllgdgniaaaGreatDoorTie.lean); close each card by the builder's one call (the guide's Derived/Test/ToyasCard.lean, 'card_holds'). Laid BY PROGRAM, IN A SANDBOX (cutbox-door.mjs). By AI agents, Wed Nov 11 2026. No macro, syntax, notation, axiom, sorry.
-/
import Derived.Test.YtlechllgdgniaaaGreatDoorRows
import GoSem.ClaimSeven
namespace Go.Proofs.YtlechllgdgniaaaGreatDoor
namespace Rows

/-- THE TIED CARD OF 'laws.FnExactNetworkOf'. -/
def fnExactNetworkOfCard : Claim7 := { stood := { row := fnExactNetworkOfRow, standIns := [], harness := (true, "c795d69c925051dca00f0b5bfae87a837c6ca7193f05418ae84688b3f229cace"), looks := true }, kinds := [], alts := [], laidByText := true, laidKinds := [.data, .data, .data, .data, .sentinel, .sentinel, .pinned], laidTests := true, laidLooks := .later }
def FnExactNetworkOfCardSaid : Prop := Claim7.holds Tryz.pinned (.plain (OpenSpec.ofChange fnExactNetworkOfSpec)) fnExactNetworkOfCard

/-- THE SECOND FORM's CARD OF 'laws.FnExactNetworkOf'. -/
def fnExactNetworkOfUptoCard : Claim7 := { stood := { row := fnExactNetworkOfUptoRow, standIns := [], harness := (true, "c795d69c925051dca00f0b5bfae87a837c6ca7193f05418ae84688b3f229cace"), looks := true }, kinds := [], alts := [], laidByText := true, laidKinds := [.data, .data, .data, .data, .sentinel, .sentinel, .pinned], laidTests := true, laidLooks := .later }
def FnExactNetworkOfUptoCardSaid : Prop := Claim7.holds Tryz.pinned (.plain (OpenSpec.upto fnExactNetworkOfSpec)) fnExactNetworkOfUptoCard
end Rows
end Go.Proofs.YtlechllgdgniaaaGreatDoor
