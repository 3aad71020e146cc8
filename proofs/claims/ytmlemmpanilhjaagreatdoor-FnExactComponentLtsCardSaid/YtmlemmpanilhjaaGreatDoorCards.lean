/-
  DERIVED. GIVEN WITH THE SEED: THE CARDS: each row of YtmlemmpanilhjaaGreatDoorRows.lean that lists a variable, with what it lists TIED to the program's text (the seventh form; the later family's looks); each row that meets fmt, with fmt's text TOLD by the authors' own Lean function (tested against real Go, not proved from fmt's source: count such statements apart). THE CARD IS WHAT COUNTS. Prove the row's statement (the work); the ties are given (YtmlemmpanilhjaaGreatDoorTie.lean); close each card by the builder's one call (the guide's Derived/Test/ToyasCard.lean, 'card_holds'). Laid BY PROGRAM, IN A SANDBOX (cutbox-door.mjs). By AI agents, Wed Nov 11 2026. No macro, syntax, notation, axiom, sorry.
-/
import Derived.Test.YtmlemmpanilhjaaGreatDoorRows
import GoSem.ClaimSeven
namespace Go.Proofs.YtmlemmpanilhjaaGreatDoor
namespace Rows

/-- THE TIED CARD OF 'laws.FnExactComponentLts'. -/
def fnExactComponentLtsCard : Claim7 := { stood := { row := fnExactComponentLtsRow, standIns := [], harness := (true, "a0471ecdec693b41427378e8e0b075dee167307daa0860be262159724505f2b1"), looks := true }, kinds := [], alts := [], laidByText := true, laidKinds := [.data, .data, .data, .data, .sentinel, .sentinel, .pinned], laidTests := true, laidLooks := .later }
def FnExactComponentLtsCardSaid : Prop := Claim7.holds Tryz.pinned (.plain (OpenSpec.ofChange fnExactComponentLtsSpec)) fnExactComponentLtsCard

/-- THE SECOND FORM's CARD OF 'laws.FnExactComponentLts'. -/
def fnExactComponentLtsUptoCard : Claim7 := { stood := { row := fnExactComponentLtsUptoRow, standIns := [], harness := (true, "a0471ecdec693b41427378e8e0b075dee167307daa0860be262159724505f2b1"), looks := true }, kinds := [], alts := [], laidByText := true, laidKinds := [.data, .data, .data, .data, .sentinel, .sentinel, .pinned], laidTests := true, laidLooks := .later }
def FnExactComponentLtsUptoCardSaid : Prop := Claim7.holds Tryz.pinned (.plain (OpenSpec.upto fnExactComponentLtsSpec)) fnExactComponentLtsUptoCard
end Rows
end Go.Proofs.YtmlemmpanilhjaaGreatDoor
