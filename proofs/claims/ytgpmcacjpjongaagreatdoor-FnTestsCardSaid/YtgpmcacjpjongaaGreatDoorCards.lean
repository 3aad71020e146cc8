/-
  DERIVED. GIVEN WITH THE SEED: THE CARDS: each row of YtgpmcacjpjongaaGreatDoorRows.lean that lists a variable, with what it lists TIED to the program's text (the seventh form; the later family's looks); each row that meets fmt, with fmt's text TOLD by the authors' own Lean function (tested against real Go, not proved from fmt's source: count such statements apart). THE CARD IS WHAT COUNTS. Prove the row's statement (the work); the ties are given (YtgpmcacjpjongaaGreatDoorTie.lean); close each card by the builder's one call (the guide's Derived/Test/ToyasCard.lean, 'card_holds'). Laid BY PROGRAM, IN A SANDBOX (cutbox-door.mjs). By AI agents, Wed Nov 11 2026. No macro, syntax, notation, axiom, sorry.
-/
import Derived.Test.YtgpmcacjpjongaaGreatDoorRows
import GoSem.ClaimSeven
namespace Go.Proofs.YtgpmcacjpjongaaGreatDoor
namespace Rows

/-- THE TIED CARD OF 'laws.FnTests'. -/
def fnTestsCard : Claim7 := { stood := { row := fnTestsRow, standIns := [], harness := (true, "f7effa43694f9b6f98c16f77f675e4a8351cf125c2abec82db23c274ccef7aab"), looks := true }, kinds := [], alts := [], laidByText := true, laidKinds := [.data, .data, .data, .data, .sentinel, .sentinel, .pinned], laidTests := true, laidLooks := .later }
def FnTestsCardSaid : Prop := Claim7.holds Tryz.pinned (.plain (OpenSpec.ofChange fnTestsSpec)) fnTestsCard

/-- THE SECOND FORM's CARD OF 'laws.FnTests'. -/
def fnTestsUptoCard : Claim7 := { stood := { row := fnTestsUptoRow, standIns := [], harness := (true, "f7effa43694f9b6f98c16f77f675e4a8351cf125c2abec82db23c274ccef7aab"), looks := true }, kinds := [], alts := [], laidByText := true, laidKinds := [.data, .data, .data, .data, .sentinel, .sentinel, .pinned], laidTests := true, laidLooks := .later }
def FnTestsUptoCardSaid : Prop := Claim7.holds Tryz.pinned (.plain (OpenSpec.upto fnTestsSpec)) fnTestsUptoCard
end Rows
end Go.Proofs.YtgpmcacjpjongaaGreatDoor
