/-
  DERIVED. GIVEN WITH THE SEED: THE CARDS: each row of YtfhgggimcgajdaaGreatDoorRows.lean that lists a variable, with what it lists TIED to the program's text (the seventh form; the later family's looks); each row that meets fmt, with fmt's text TOLD by the authors' own Lean function (tested against real Go, not proved from fmt's source: count such statements apart). THE CARD IS WHAT COUNTS. Prove the row's statement (the work); the ties are given (YtfhgggimcgajdaaGreatDoorTie.lean); close each card by the builder's one call (the guide's Derived/Test/ToyasCard.lean, 'card_holds'). Laid BY PROGRAM, IN A SANDBOX (cutbox-door.mjs). By AI agents, Wed Nov 11 2026. No macro, syntax, notation, axiom, sorry.
-/
import Derived.Test.YtfhgggimcgajdaaGreatDoorRows
import GoSem.ClaimSeven
namespace Go.Proofs.YtfhgggimcgajdaaGreatDoor
namespace Rows

/-- THE TIED CARD OF 'laws.FnExactRunSystem'. -/
def fnExactRunSystemCard : Claim7 := { stood := { row := fnExactRunSystemRow, standIns := [], harness := (true, "33da96241e20b2749decf1f39bb2c36f297bf47a12e9756c7f6db44987696ccb"), looks := true }, kinds := [], alts := [], laidByText := true, laidKinds := [.data, .data, .data, .data, .sentinel, .sentinel, .pinned], laidTests := true, laidLooks := .later }
def FnExactRunSystemCardSaid : Prop := Claim7.holds Tryz.pinned (.plain (OpenSpec.ofChange fnExactRunSystemSpec)) fnExactRunSystemCard

/-- THE SECOND FORM's CARD OF 'laws.FnExactRunSystem'. -/
def fnExactRunSystemUptoCard : Claim7 := { stood := { row := fnExactRunSystemUptoRow, standIns := [], harness := (true, "33da96241e20b2749decf1f39bb2c36f297bf47a12e9756c7f6db44987696ccb"), looks := true }, kinds := [], alts := [], laidByText := true, laidKinds := [.data, .data, .data, .data, .sentinel, .sentinel, .pinned], laidTests := true, laidLooks := .later }
def FnExactRunSystemUptoCardSaid : Prop := Claim7.holds Tryz.pinned (.plain (OpenSpec.upto fnExactRunSystemSpec)) fnExactRunSystemUptoCard
end Rows
end Go.Proofs.YtfhgggimcgajdaaGreatDoor
