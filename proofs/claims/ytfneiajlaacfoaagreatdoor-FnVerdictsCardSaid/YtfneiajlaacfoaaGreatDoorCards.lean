/-
  DERIVED. GIVEN WITH THE SEED: THE CARDS: each row of YtfneiajlaacfoaaGreatDoorRows.lean that lists a variable, with what it lists TIED to the program's text (the seventh form; the later family's looks); each row that meets fmt, with fmt's text TOLD by the authors' own Lean function (tested against real Go, not proved from fmt's source: count such statements apart). THE CARD IS WHAT COUNTS. Prove the row's statement (the work); the ties are given (YtfneiajlaacfoaaGreatDoorTie.lean); close each card by the builder's one call (the guide's Derived/Test/ToyasCard.lean, 'card_holds'). Laid BY PROGRAM, IN A SANDBOX (cutbox-door.mjs). By AI agents, Wed Nov 11 2026. No macro, syntax, notation, axiom, sorry.
-/
import Derived.Test.YtfneiajlaacfoaaGreatDoorRows
import GoSem.ClaimSeven
namespace Go.Proofs.YtfneiajlaacfoaaGreatDoor
namespace Rows

/-- THE TIED CARD OF 'laws.FnVerdicts'. -/
def fnVerdictsCard : Claim7 := { stood := { row := fnVerdictsRow, standIns := [], harness := (true, "312c7cbe3548c28fa94301885ef698bbfd60a7a10e8408c9cedeaf1c81247f53"), looks := true }, kinds := [], alts := [], laidByText := true, laidKinds := [.data, .data, .data, .data, .sentinel, .sentinel, .pinned], laidTests := true, laidLooks := .later }
def FnVerdictsCardSaid : Prop := Claim7.holds Tryz.pinned (.plain (OpenSpec.ofChange fnVerdictsSpec)) fnVerdictsCard

/-- THE SECOND FORM's CARD OF 'laws.FnVerdicts'. -/
def fnVerdictsUptoCard : Claim7 := { stood := { row := fnVerdictsUptoRow, standIns := [], harness := (true, "312c7cbe3548c28fa94301885ef698bbfd60a7a10e8408c9cedeaf1c81247f53"), looks := true }, kinds := [], alts := [], laidByText := true, laidKinds := [.data, .data, .data, .data, .sentinel, .sentinel, .pinned], laidTests := true, laidLooks := .later }
def FnVerdictsUptoCardSaid : Prop := Claim7.holds Tryz.pinned (.plain (OpenSpec.upto fnVerdictsSpec)) fnVerdictsUptoCard
end Rows
end Go.Proofs.YtfneiajlaacfoaaGreatDoor
