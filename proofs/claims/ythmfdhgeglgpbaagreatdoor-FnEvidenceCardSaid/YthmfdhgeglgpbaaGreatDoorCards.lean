/-
  DERIVED. GIVEN WITH THE SEED: THE CARDS: each row of YthmfdhgeglgpbaaGreatDoorRows.lean that lists a variable, with what it lists TIED to the program's text (the seventh form; the later family's looks); each row that meets fmt, with fmt's text TOLD by the authors' own Lean function (tested against real Go, not proved from fmt's source: count such statements apart). THE CARD IS WHAT COUNTS. Prove the row's statement (the work); the ties are given (YthmfdhgeglgpbaaGreatDoorTie.lean); close each card by the builder's one call (the guide's Derived/Test/ToyasCard.lean, 'card_holds'). Laid BY PROGRAM, IN A SANDBOX (cutbox-door.mjs). By AI agents, Wed Nov 11 2026. No macro, syntax, notation, axiom, sorry.
-/
import Derived.Test.YthmfdhgeglgpbaaGreatDoorRows
import GoSem.ClaimSeven
namespace Go.Proofs.YthmfdhgeglgpbaaGreatDoor
namespace Rows

/-- THE TIED CARD OF 'laws.FnEvidence'. -/
def fnEvidenceCard : Claim7 := { stood := { row := fnEvidenceRow, standIns := [], harness := (true, "72dfae2bca249018d86349f4e542da327f4ca080d0b5ef040e14cf5033d8f4ff"), looks := true }, kinds := [], alts := [], laidByText := true, laidKinds := [.data, .data, .data, .data, .sentinel, .sentinel, .pinned], laidTests := true, laidLooks := .later }
def FnEvidenceCardSaid : Prop := Claim7.holds Tryz.pinned (.plain (OpenSpec.ofChange fnEvidenceSpec)) fnEvidenceCard

/-- THE SECOND FORM's CARD OF 'laws.FnEvidence'. -/
def fnEvidenceUptoCard : Claim7 := { stood := { row := fnEvidenceUptoRow, standIns := [], harness := (true, "72dfae2bca249018d86349f4e542da327f4ca080d0b5ef040e14cf5033d8f4ff"), looks := true }, kinds := [], alts := [], laidByText := true, laidKinds := [.data, .data, .data, .data, .sentinel, .sentinel, .pinned], laidTests := true, laidLooks := .later }
def FnEvidenceUptoCardSaid : Prop := Claim7.holds Tryz.pinned (.plain (OpenSpec.upto fnEvidenceSpec)) fnEvidenceUptoCard
end Rows
end Go.Proofs.YthmfdhgeglgpbaaGreatDoor
