/-
  DERIVED. GIVEN WITH THE SEED: THE CARDS: each row of YthbfapccpmppoaaGreatDoorRows.lean that lists a variable, with what it lists TIED to the program's text (the seventh form; the later family's looks); each row that meets fmt, with fmt's text TOLD by the authors' own Lean function (tested against real Go, not proved from fmt's source: count such statements apart). THE CARD IS WHAT COUNTS. Prove the row's statement (the work); the ties are given (YthbfapccpmppoaaGreatDoorTie.lean); close each card by the builder's one call (the guide's Derived/Test/ToyasCard.lean, 'card_holds'). Laid BY PROGRAM, IN A SANDBOX (cutbox-door.mjs). By AI agents, Wed Nov 11 2026. No macro, syntax, notation, axiom, sorry.
-/
import Derived.Test.YthbfapccpmppoaaGreatDoorRows
import GoSem.ClaimSeven
namespace Go.Proofs.YthbfapccpmppoaaGreatDoor
namespace Rows

/-- THE TIED CARD OF 'laws.FnExactKeptText'. -/
def fnExactKeptTextCard : Claim7 := { stood := { row := fnExactKeptTextRow, standIns := [], harness := (true, "4c497a7a1c24070a54d0abaa591df86ed3ffc4f7aed4b6b3c3250d149396ed73"), looks := true }, kinds := [], alts := [], laidByText := true, laidKinds := [.data, .data, .data, .data, .sentinel, .sentinel, .widerDeep, .data, .pinned], laidTests := true, laidLooks := .later }
def FnExactKeptTextCardSaid : Prop := Claim7.holds Tryz.pinned (.plain (OpenSpec.ofChange fnExactKeptTextSpec)) fnExactKeptTextCard

/-- THE SECOND FORM's CARD OF 'laws.FnExactKeptText'. -/
def fnExactKeptTextUptoCard : Claim7 := { stood := { row := fnExactKeptTextUptoRow, standIns := [], harness := (true, "4c497a7a1c24070a54d0abaa591df86ed3ffc4f7aed4b6b3c3250d149396ed73"), looks := true }, kinds := [], alts := [], laidByText := true, laidKinds := [.data, .data, .data, .data, .sentinel, .sentinel, .widerDeep, .data, .pinned], laidTests := true, laidLooks := .later }
def FnExactKeptTextUptoCardSaid : Prop := Claim7.holds Tryz.pinned (.plain (OpenSpec.upto fnExactKeptTextSpec)) fnExactKeptTextUptoCard
end Rows
end Go.Proofs.YthbfapccpmppoaaGreatDoor
