/-
  DERIVED. GIVEN WITH THE SEED: THE CARDS: each row of YtigicpgpkmjdpaaGreatDoorRows.lean that lists a variable, with what it lists TIED to the program's text (the seventh form; the later family's looks); each row that meets fmt, with fmt's text TOLD by the authors' own Lean function (tested against real Go, not proved from fmt's source: count such statements apart). THE CARD IS WHAT COUNTS. Prove the row's statement (the work); the ties are given (YtigicpgpkmjdpaaGreatDoorTie.lean); close each card by the builder's one call (the guide's Derived/Test/ToyasCard.lean, 'card_holds'). Laid BY PROGRAM, IN A SANDBOX (cutbox-door.mjs). By AI agents, Wed Nov 11 2026. No macro, syntax, notation, axiom, sorry.
-/
import Derived.Test.YtigicpgpkmjdpaaGreatDoorRows
import GoSem.ClaimSeven
namespace Go.Proofs.YtigicpgpkmjdpaaGreatDoor
namespace Rows

/-- THE TIED CARD OF 'laws.FnCongruence'. -/
def fnCongruenceCard : Claim7 := { stood := { row := fnCongruenceRow, standIns := [], harness := (true, "f85e03b27ea277ec72b5a30728ed2061518431fc73ec6d5f2e0aa3cf9db9fd63"), looks := true }, kinds := [], alts := [], laidByText := true, laidKinds := [.data, .data, .data, .data, .sentinel, .sentinel, .pinned], laidTests := true, laidLooks := .later }
def FnCongruenceCardSaid : Prop := Claim7.holds Tryz.pinned (.plain (OpenSpec.ofChange fnCongruenceSpec)) fnCongruenceCard

/-- THE SECOND FORM's CARD OF 'laws.FnCongruence'. -/
def fnCongruenceUptoCard : Claim7 := { stood := { row := fnCongruenceUptoRow, standIns := [], harness := (true, "f85e03b27ea277ec72b5a30728ed2061518431fc73ec6d5f2e0aa3cf9db9fd63"), looks := true }, kinds := [], alts := [], laidByText := true, laidKinds := [.data, .data, .data, .data, .sentinel, .sentinel, .pinned], laidTests := true, laidLooks := .later }
def FnCongruenceUptoCardSaid : Prop := Claim7.holds Tryz.pinned (.plain (OpenSpec.upto fnCongruenceSpec)) fnCongruenceUptoCard
end Rows
end Go.Proofs.YtigicpgpkmjdpaaGreatDoor
