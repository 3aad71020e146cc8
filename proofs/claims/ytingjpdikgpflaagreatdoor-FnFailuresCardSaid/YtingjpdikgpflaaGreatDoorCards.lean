/-
  DERIVED. GIVEN WITH THE SEED: THE CARDS: each row of YtingjpdikgpflaaGreatDoorRows.lean that lists a variable, with what it lists TIED to the program's text (the seventh form; the later family's looks); each row that meets fmt, with fmt's text TOLD by the authors' own Lean function (tested against real Go, not proved from fmt's source: count such statements apart). THE CARD IS WHAT COUNTS. Prove the row's statement (the work); the ties are given (YtingjpdikgpflaaGreatDoorTie.lean); close each card by the builder's one call (the guide's Derived/Test/ToyasCard.lean, 'card_holds'). Laid BY PROGRAM, IN A SANDBOX (cutbox-door.mjs). By AI agents, Wed Nov 11 2026. No macro, syntax, notation, axiom, sorry.
-/
import Derived.Test.YtingjpdikgpflaaGreatDoorRows
import GoSem.ClaimSeven
namespace Go.Proofs.YtingjpdikgpflaaGreatDoor
namespace Rows

/-- THE TIED CARD OF 'laws.FnFailures'. -/
def fnFailuresCard : Claim7 := { stood := { row := fnFailuresRow, standIns := [], harness := (true, "e1da59e04f8626ef20f70a5ab4529c925720b291975b79a2b80062b6f6045a76"), looks := true }, kinds := [], alts := [], laidByText := true, laidKinds := [.data, .data, .data, .data, .sentinel, .sentinel, .pinned], laidTests := true, laidLooks := .later }
def FnFailuresCardSaid : Prop := Claim7.holds Tryz.pinned (.plain (OpenSpec.ofChange fnFailuresSpec)) fnFailuresCard

/-- THE SECOND FORM's CARD OF 'laws.FnFailures'. -/
def fnFailuresUptoCard : Claim7 := { stood := { row := fnFailuresUptoRow, standIns := [], harness := (true, "e1da59e04f8626ef20f70a5ab4529c925720b291975b79a2b80062b6f6045a76"), looks := true }, kinds := [], alts := [], laidByText := true, laidKinds := [.data, .data, .data, .data, .sentinel, .sentinel, .pinned], laidTests := true, laidLooks := .later }
def FnFailuresUptoCardSaid : Prop := Claim7.holds Tryz.pinned (.plain (OpenSpec.upto fnFailuresSpec)) fnFailuresUptoCard
end Rows
end Go.Proofs.YtingjpdikgpflaaGreatDoor
