/-
  DERIVED. GIVEN WITH THE SEED: THE CARDS: each row of YtnelhgfdoneljaaGreatDoorRows.lean that lists a variable, with what it lists TIED to the program's text (the seventh form; the later family's looks); each row that meets fmt, with fmt's text TOLD by the authors' own Lean function (tested against real Go, not proved from fmt's source: count such statements apart). THE CARD IS WHAT COUNTS. Prove the row's statement (the work); the ties are given (YtnelhgfdoneljaaGreatDoorTie.lean); close each card by the builder's one call (the guide's Derived/Test/ToyasCard.lean, 'card_holds'). Laid BY PROGRAM, IN A SANDBOX (cutbox-door.mjs). By AI agents, Wed Nov 11 2026. No macro, syntax, notation, axiom, sorry.
-/
import Derived.Test.YtnelhgfdoneljaaGreatDoorRows
import GoSem.ClaimSeven
namespace Go.Proofs.YtnelhgfdoneljaaGreatDoor
namespace Rows

/-- THE TIED CARD OF 'laws.FnInvariance'. -/
def fnInvarianceCard : Claim7 := { stood := { row := fnInvarianceRow, standIns := [], harness := (true, "872a34e593c7d38ee2fbf3be77f27381bcae147e9a8417c59257b2627a65abf0"), looks := true }, kinds := [], alts := [], laidByText := true, laidKinds := [.data, .data, .data, .data, .sentinel, .sentinel, .pinned], laidTests := true, laidLooks := .later }
def FnInvarianceCardSaid : Prop := Claim7.holds Tryz.pinned (.plain (OpenSpec.ofChange fnInvarianceSpec)) fnInvarianceCard

/-- THE SECOND FORM's CARD OF 'laws.FnInvariance'. -/
def fnInvarianceUptoCard : Claim7 := { stood := { row := fnInvarianceUptoRow, standIns := [], harness := (true, "872a34e593c7d38ee2fbf3be77f27381bcae147e9a8417c59257b2627a65abf0"), looks := true }, kinds := [], alts := [], laidByText := true, laidKinds := [.data, .data, .data, .data, .sentinel, .sentinel, .pinned], laidTests := true, laidLooks := .later }
def FnInvarianceUptoCardSaid : Prop := Claim7.holds Tryz.pinned (.plain (OpenSpec.upto fnInvarianceSpec)) fnInvarianceUptoCard
end Rows
end Go.Proofs.YtnelhgfdoneljaaGreatDoor
