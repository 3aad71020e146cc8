/-
  DERIVED. GIVEN WITH THE SEED: THE CARDS: each row of YtkcggmmjnpdgnaaGreatDoorRows.lean that lists a variable, with what it lists TIED to the program's text (the seventh form; the later family's looks); each row that meets fmt, with fmt's text TOLD by the authors' own Lean function (tested against real Go, not proved from fmt's source: count such statements apart). THE CARD IS WHAT COUNTS. Prove the row's statement (the work); the ties are given (YtkcggmmjnpdgnaaGreatDoorTie.lean); close each card by the builder's one call (the guide's Derived/Test/ToyasCard.lean, 'card_holds'). Laid BY PROGRAM, IN A SANDBOX (cutbox-door.mjs). By AI agents, Wed Nov 11 2026. No macro, syntax, notation, axiom, sorry.
-/
import Derived.Test.YtkcggmmjnpdgnaaGreatDoorRows
import GoSem.ClaimSeven
namespace Go.Proofs.YtkcggmmjnpdgnaaGreatDoor
namespace Rows

/-- THE TIED CARD OF 'laws.FnWeakCertificates'. -/
def fnWeakCertificatesCard : Claim7 := { stood := { row := fnWeakCertificatesRow, standIns := [], harness := (true, "3fd7581c03c347e3f1d2ac6bb5973931237b2740fb9dc5609bd26d4cb5422b61"), looks := true }, kinds := [], alts := [], laidByText := true, laidKinds := [.data, .data, .data, .data, .sentinel, .sentinel, .pinned], laidTests := true, laidLooks := .later }
def FnWeakCertificatesCardSaid : Prop := Claim7.holds Tryz.pinned (.plain (OpenSpec.ofChange fnWeakCertificatesSpec)) fnWeakCertificatesCard

/-- THE SECOND FORM's CARD OF 'laws.FnWeakCertificates'. -/
def fnWeakCertificatesUptoCard : Claim7 := { stood := { row := fnWeakCertificatesUptoRow, standIns := [], harness := (true, "3fd7581c03c347e3f1d2ac6bb5973931237b2740fb9dc5609bd26d4cb5422b61"), looks := true }, kinds := [], alts := [], laidByText := true, laidKinds := [.data, .data, .data, .data, .sentinel, .sentinel, .pinned], laidTests := true, laidLooks := .later }
def FnWeakCertificatesUptoCardSaid : Prop := Claim7.holds Tryz.pinned (.plain (OpenSpec.upto fnWeakCertificatesSpec)) fnWeakCertificatesUptoCard
end Rows
end Go.Proofs.YtkcggmmjnpdgnaaGreatDoor
