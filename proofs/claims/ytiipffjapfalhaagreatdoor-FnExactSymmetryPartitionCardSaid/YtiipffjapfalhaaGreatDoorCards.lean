/-
  DERIVED. GIVEN WITH THE SEED: THE CARDS: each row of YtiipffjapfalhaaGreatDoorRows.lean that lists a variable, with what it lists TIED to the program's text (the seventh form; the later family's looks); each row that meets fmt, with fmt's text TOLD by the authors' own Lean function (tested against real Go, not proved from fmt's source: count such statements apart). THE CARD IS WHAT COUNTS. Prove the row's statement (the work); the ties are given (YtiipffjapfalhaaGreatDoorTie.lean); close each card by the builder's one call (the guide's Derived/Test/ToyasCard.lean, 'card_holds'). Laid BY PROGRAM, IN A SANDBOX (cutbox-door.mjs). By AI agents, Wed Nov 11 2026. No macro, syntax, notation, axiom, sorry.
-/
import Derived.Test.YtiipffjapfalhaaGreatDoorRows
import GoSem.ClaimSeven
namespace Go.Proofs.YtiipffjapfalhaaGreatDoor
namespace Rows

/-- THE TIED CARD OF 'laws.FnExactSymmetryPartition'. -/
def fnExactSymmetryPartitionCard : Claim7 := { stood := { row := fnExactSymmetryPartitionRow, standIns := [], harness := (true, "d759db0adab49d3797a62327a59b5f8f45c9a8d45d46f5aab4bfd11f9dbf4d87"), looks := true }, kinds := [], alts := [], laidByText := true, laidKinds := [.data, .data, .data, .data, .sentinel, .sentinel, .pinned], laidTests := true, laidLooks := .later }
def FnExactSymmetryPartitionCardSaid : Prop := Claim7.holds Tryz.pinned (.plain (OpenSpec.ofChange fnExactSymmetryPartitionSpec)) fnExactSymmetryPartitionCard

/-- THE SECOND FORM's CARD OF 'laws.FnExactSymmetryPartition'. -/
def fnExactSymmetryPartitionUptoCard : Claim7 := { stood := { row := fnExactSymmetryPartitionUptoRow, standIns := [], harness := (true, "d759db0adab49d3797a62327a59b5f8f45c9a8d45d46f5aab4bfd11f9dbf4d87"), looks := true }, kinds := [], alts := [], laidByText := true, laidKinds := [.data, .data, .data, .data, .sentinel, .sentinel, .pinned], laidTests := true, laidLooks := .later }
def FnExactSymmetryPartitionUptoCardSaid : Prop := Claim7.holds Tryz.pinned (.plain (OpenSpec.upto fnExactSymmetryPartitionSpec)) fnExactSymmetryPartitionUptoCard
end Rows
end Go.Proofs.YtiipffjapfalhaaGreatDoor
