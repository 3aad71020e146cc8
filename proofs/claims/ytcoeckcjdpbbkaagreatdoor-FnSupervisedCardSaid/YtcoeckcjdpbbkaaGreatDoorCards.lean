/-
  DERIVED. GIVEN WITH THE SEED: THE CARDS: each row of YtcoeckcjdpbbkaaGreatDoorRows.lean that lists a variable, with what it lists TIED to the program's text (the seventh form; the later family's looks); each row that meets fmt, with fmt's text TOLD by the authors' own Lean function (tested against real Go, not proved from fmt's source: count such statements apart). THE CARD IS WHAT COUNTS. Prove the row's statement (the work); the ties are given (YtcoeckcjdpbbkaaGreatDoorTie.lean); close each card by the builder's one call (the guide's Derived/Test/ToyasCard.lean, 'card_holds'). Laid BY PROGRAM, IN A SANDBOX (cutbox-door.mjs). By AI agents, Wed Nov 11 2026. No macro, syntax, notation, axiom, sorry.
-/
import Derived.Test.YtcoeckcjdpbbkaaGreatDoorRows
import GoSem.ClaimSeven
namespace Go.Proofs.YtcoeckcjdpbbkaaGreatDoor
namespace Rows

/-- THE TIED CARD OF 'laws.FnSupervised'. -/
def fnSupervisedCard : Claim7 := { stood := { row := fnSupervisedRow, standIns := [], harness := (true, "f0b924f3d735a3e8c7533f7b8bfe6ce5e722be1db33cc1277694e919a2a1a80c"), looks := true }, kinds := [], alts := [], laidByText := true, laidKinds := [.data, .data, .data, .data, .sentinel, .sentinel, .pinned], laidTests := true, laidLooks := .later }
def FnSupervisedCardSaid : Prop := Claim7.holds Tryz.pinned (.plain (OpenSpec.ofChange fnSupervisedSpec)) fnSupervisedCard

/-- THE SECOND FORM's CARD OF 'laws.FnSupervised'. -/
def fnSupervisedUptoCard : Claim7 := { stood := { row := fnSupervisedUptoRow, standIns := [], harness := (true, "f0b924f3d735a3e8c7533f7b8bfe6ce5e722be1db33cc1277694e919a2a1a80c"), looks := true }, kinds := [], alts := [], laidByText := true, laidKinds := [.data, .data, .data, .data, .sentinel, .sentinel, .pinned], laidTests := true, laidLooks := .later }
def FnSupervisedUptoCardSaid : Prop := Claim7.holds Tryz.pinned (.plain (OpenSpec.upto fnSupervisedSpec)) fnSupervisedUptoCard
end Rows
end Go.Proofs.YtcoeckcjdpbbkaaGreatDoor
