/-
  DERIVED. GIVEN WITH THE SEED: THE CARDS: each row of YtkgakibhmcbflaaGreatDoorRows.lean that lists a variable, with what it lists TIED to the program's text (the seventh form; the later family's looks); each row that meets fmt, with fmt's text TOLD by the authors' own Lean function (tested against real Go, not proved from fmt's source: count such statements apart). THE CARD IS WHAT COUNTS. Prove the row's statement (the work); the ties are given (YtkgakibhmcbflaaGreatDoorTie.lean); close each card by the builder's one call (the guide's Derived/Test/ToyasCard.lean, 'card_holds'). Laid BY PROGRAM, IN A SANDBOX (cutbox-door.mjs). By AI agents, Wed Nov 11 2026. No macro, syntax, notation, axiom, sorry.
-/
import Derived.Test.YtkgakibhmcbflaaGreatDoorRows
import GoSem.ClaimSeven
namespace Go.Proofs.YtkgakibhmcbflaaGreatDoor
namespace Rows

/-- THE TIED CARD OF 'laws.FnSimulations'. -/
def fnSimulationsCard : Claim7 := { stood := { row := fnSimulationsRow, standIns := [], harness := (true, "821b994497912adc13c6b0a1ad7514e99703bf6a457ea8fa074f379cd42fe2a7"), looks := true }, kinds := [], alts := [], laidByText := true, laidKinds := [.data, .data, .data, .data, .sentinel, .sentinel, .pinned], laidTests := true, laidLooks := .later }
def FnSimulationsCardSaid : Prop := Claim7.holds Tryz.pinned (.plain (OpenSpec.ofChange fnSimulationsSpec)) fnSimulationsCard

/-- THE SECOND FORM's CARD OF 'laws.FnSimulations'. -/
def fnSimulationsUptoCard : Claim7 := { stood := { row := fnSimulationsUptoRow, standIns := [], harness := (true, "821b994497912adc13c6b0a1ad7514e99703bf6a457ea8fa074f379cd42fe2a7"), looks := true }, kinds := [], alts := [], laidByText := true, laidKinds := [.data, .data, .data, .data, .sentinel, .sentinel, .pinned], laidTests := true, laidLooks := .later }
def FnSimulationsUptoCardSaid : Prop := Claim7.holds Tryz.pinned (.plain (OpenSpec.upto fnSimulationsSpec)) fnSimulationsUptoCard
end Rows
end Go.Proofs.YtkgakibhmcbflaaGreatDoor
