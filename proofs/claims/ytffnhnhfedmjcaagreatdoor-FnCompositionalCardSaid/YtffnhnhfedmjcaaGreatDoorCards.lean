/-
  DERIVED. GIVEN WITH THE SEED: THE CARDS: each row of YtffnhnhfedmjcaaGreatDoorRows.lean that lists a variable, with what it lists TIED to the program's text (the seventh form; the later family's looks); each row that meets fmt, with fmt's text TOLD by the authors' own Lean function (tested against real Go, not proved from fmt's source: count such statements apart). THE CARD IS WHAT COUNTS. Prove the row's statement (the work); the ties are given (YtffnhnhfedmjcaaGreatDoorTie.lean); close each card by the builder's one call (the guide's Derived/Test/ToyasCard.lean, 'card_holds'). Laid BY PROGRAM, IN A SANDBOX (cutbox-door.mjs). By AI agents, Wed Nov 11 2026. No macro, syntax, notation, axiom, sorry.
-/
import Derived.Test.YtffnhnhfedmjcaaGreatDoorRows
import GoSem.ClaimSeven
namespace Go.Proofs.YtffnhnhfedmjcaaGreatDoor
namespace Rows

/-- THE TIED CARD OF 'laws.FnCompositional'. -/
def fnCompositionalCard : Claim7 := { stood := { row := fnCompositionalRow, standIns := [], harness := (true, "eee0e84221fe0f592aba0ba9f34497365c71ce1bb8c6d234af0f0f08e4b0c219"), looks := true }, kinds := [], alts := [], laidByText := true, laidKinds := [.data, .data, .data, .data, .sentinel, .sentinel, .pinned], laidTests := true, laidLooks := .later }
def FnCompositionalCardSaid : Prop := Claim7.holds Tryz.pinned (.plain (OpenSpec.ofChange fnCompositionalSpec)) fnCompositionalCard

/-- THE SECOND FORM's CARD OF 'laws.FnCompositional'. -/
def fnCompositionalUptoCard : Claim7 := { stood := { row := fnCompositionalUptoRow, standIns := [], harness := (true, "eee0e84221fe0f592aba0ba9f34497365c71ce1bb8c6d234af0f0f08e4b0c219"), looks := true }, kinds := [], alts := [], laidByText := true, laidKinds := [.data, .data, .data, .data, .sentinel, .sentinel, .pinned], laidTests := true, laidLooks := .later }
def FnCompositionalUptoCardSaid : Prop := Claim7.holds Tryz.pinned (.plain (OpenSpec.upto fnCompositionalSpec)) fnCompositionalUptoCard
end Rows
end Go.Proofs.YtffnhnhfedmjcaaGreatDoor
