/-
  DERIVED. GIVEN WITH THE SEED: THE CARDS: each row of YtjkjjlbjcgklhaaGreatDoorRows.lean that lists a variable, with what it lists TIED to the program's text (the seventh form; the later family's looks); each row that meets fmt, with fmt's text TOLD by the authors' own Lean function (tested against real Go, not proved from fmt's source: count such statements apart). THE CARD IS WHAT COUNTS. Prove the row's statement (the work); the ties are given (YtjkjjlbjcgklhaaGreatDoorTie.lean); close each card by the builder's one call (the guide's Derived/Test/ToyasCard.lean, 'card_holds'). Laid BY PROGRAM, IN A SANDBOX (cutbox-door.mjs). By AI agents, Wed Nov 11 2026. No macro, syntax, notation, axiom, sorry.
-/
import Derived.Test.YtjkjjlbjcgklhaaGreatDoorRows
import GoSem.ClaimSeven
namespace Go.Proofs.YtjkjjlbjcgklhaaGreatDoor
namespace Rows

/-- THE TIED CARD OF 'laws.FnSpectrum'. -/
def fnSpectrumCard : Claim7 := { stood := { row := fnSpectrumRow, standIns := [], harness := (true, "655359a5f7c6baadec00801f927f46d6fd6497810af2343b7c86161d517b6473"), looks := true }, kinds := [], alts := [], laidByText := true, laidKinds := [.data, .data, .data, .data, .sentinel, .sentinel, .pinned], laidTests := true, laidLooks := .later }
def FnSpectrumCardSaid : Prop := Claim7.holds Tryz.pinned (.plain (OpenSpec.ofChange fnSpectrumSpec)) fnSpectrumCard

/-- THE SECOND FORM's CARD OF 'laws.FnSpectrum'. -/
def fnSpectrumUptoCard : Claim7 := { stood := { row := fnSpectrumUptoRow, standIns := [], harness := (true, "655359a5f7c6baadec00801f927f46d6fd6497810af2343b7c86161d517b6473"), looks := true }, kinds := [], alts := [], laidByText := true, laidKinds := [.data, .data, .data, .data, .sentinel, .sentinel, .pinned], laidTests := true, laidLooks := .later }
def FnSpectrumUptoCardSaid : Prop := Claim7.holds Tryz.pinned (.plain (OpenSpec.upto fnSpectrumSpec)) fnSpectrumUptoCard
end Rows
end Go.Proofs.YtjkjjlbjcgklhaaGreatDoor
