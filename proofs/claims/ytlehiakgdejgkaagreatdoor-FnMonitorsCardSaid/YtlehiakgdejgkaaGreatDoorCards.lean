/-
  DERIVED. GIVEN WITH THE SEED: THE CARDS: each row of YtlehiakgdejgkaaGreatDoorRows.lean that lists a variable, with what it lists TIED to the program's text (the seventh form; the later family's looks); each row that meets fmt, with fmt's text TOLD by the authors' own Lean function (tested against real Go, not proved from fmt's source: count such statements apart). THE CARD IS WHAT COUNTS. Prove the row's statement (the work); the ties are given (YtlehiakgdejgkaaGreatDoorTie.lean); close each card by the builder's one call (the guide's Derived/Test/ToyasCard.lean, 'card_holds'). Laid BY PROGRAM, IN A SANDBOX (cutbox-door.mjs). By AI agents, Wed Nov 11 2026. No macro, syntax, notation, axiom, sorry.
-/
import Derived.Test.YtlehiakgdejgkaaGreatDoorRows
import GoSem.ClaimSeven
namespace Go.Proofs.YtlehiakgdejgkaaGreatDoor
namespace Rows

/-- THE TIED CARD OF 'laws.FnMonitors'. -/
def fnMonitorsCard : Claim7 := { stood := { row := fnMonitorsRow, standIns := [], harness := (true, "52ad6b1b48f6315d15fb8376ce6e16df40c3dfea886a1a48ebb716f3b334d09a"), looks := true }, kinds := [], alts := [], laidByText := true, laidKinds := [.data, .data, .data, .data, .sentinel, .sentinel, .pinned], laidTests := true, laidLooks := .later }
def FnMonitorsCardSaid : Prop := Claim7.holds Tryz.pinned (.plain (OpenSpec.ofChange fnMonitorsSpec)) fnMonitorsCard

/-- THE SECOND FORM's CARD OF 'laws.FnMonitors'. -/
def fnMonitorsUptoCard : Claim7 := { stood := { row := fnMonitorsUptoRow, standIns := [], harness := (true, "52ad6b1b48f6315d15fb8376ce6e16df40c3dfea886a1a48ebb716f3b334d09a"), looks := true }, kinds := [], alts := [], laidByText := true, laidKinds := [.data, .data, .data, .data, .sentinel, .sentinel, .pinned], laidTests := true, laidLooks := .later }
def FnMonitorsUptoCardSaid : Prop := Claim7.holds Tryz.pinned (.plain (OpenSpec.upto fnMonitorsSpec)) fnMonitorsUptoCard
end Rows
end Go.Proofs.YtlehiakgdejgkaaGreatDoor
