/-
  DERIVED. GIVEN WITH THE SEED: THE CARDS: each row of YtohbafhnoifmoaaGreatDoorRows.lean that lists a variable, with what it lists TIED to the program's text (the seventh form; the later family's looks); each row that meets fmt, with fmt's text TOLD by the authors' own Lean function (tested against real Go, not proved from fmt's source: count such statements apart). THE CARD IS WHAT COUNTS. Prove the row's statement (the work); the ties are given (YtohbafhnoifmoaaGreatDoorTie.lean); close each card by the builder's one call (the guide's Derived/Test/ToyasCard.lean, 'card_holds'). Laid BY PROGRAM, IN A SANDBOX (cutbox-door.mjs). By AI agents, Wed Nov 11 2026. No macro, syntax, notation, axiom, sorry.
-/
import Derived.Test.YtohbafhnoifmoaaGreatDoorRows
import GoSem.ClaimSeven
namespace Go.Proofs.YtohbafhnoifmoaaGreatDoor
namespace Rows

/-- THE TIED CARD OF 'laws.FnTraces'. -/
def fnTracesCard : Claim7 := { stood := { row := fnTracesRow, standIns := [], harness := (true, "17647aa7a12342c1944362ea4ec22b439003370bf5efdd0358b2e1be15d775fa"), looks := true }, kinds := [], alts := [], laidByText := true, laidKinds := [.data, .data, .data, .data, .sentinel, .sentinel, .pinned], laidTests := true, laidLooks := .later }
def FnTracesCardSaid : Prop := Claim7.holds Tryz.pinned (.plain (OpenSpec.ofChange fnTracesSpec)) fnTracesCard

/-- THE TIED CARD OF 'laws.FnMinimalTraces'. -/
def fnMinimalTracesCard : Claim7 := { stood := { row := fnMinimalTracesRow, standIns := [], harness := (true, "17647aa7a12342c1944362ea4ec22b439003370bf5efdd0358b2e1be15d775fa"), looks := true }, kinds := [], alts := [], laidByText := true, laidKinds := [.data, .data, .data, .data, .sentinel, .sentinel, .pinned], laidTests := true, laidLooks := .later }
def FnMinimalTracesCardSaid : Prop := Claim7.holds Tryz.pinned (.plain (OpenSpec.ofChange fnMinimalTracesSpec)) fnMinimalTracesCard

/-- THE SECOND FORM's CARD OF 'laws.FnTraces'. -/
def fnTracesUptoCard : Claim7 := { stood := { row := fnTracesUptoRow, standIns := [], harness := (true, "17647aa7a12342c1944362ea4ec22b439003370bf5efdd0358b2e1be15d775fa"), looks := true }, kinds := [], alts := [], laidByText := true, laidKinds := [.data, .data, .data, .data, .sentinel, .sentinel, .pinned], laidTests := true, laidLooks := .later }
def FnTracesUptoCardSaid : Prop := Claim7.holds Tryz.pinned (.plain (OpenSpec.upto fnTracesSpec)) fnTracesUptoCard

/-- THE SECOND FORM's CARD OF 'laws.FnMinimalTraces'. -/
def fnMinimalTracesUptoCard : Claim7 := { stood := { row := fnMinimalTracesUptoRow, standIns := [], harness := (true, "17647aa7a12342c1944362ea4ec22b439003370bf5efdd0358b2e1be15d775fa"), looks := true }, kinds := [], alts := [], laidByText := true, laidKinds := [.data, .data, .data, .data, .sentinel, .sentinel, .pinned], laidTests := true, laidLooks := .later }
def FnMinimalTracesUptoCardSaid : Prop := Claim7.holds Tryz.pinned (.plain (OpenSpec.upto fnMinimalTracesSpec)) fnMinimalTracesUptoCard
end Rows
end Go.Proofs.YtohbafhnoifmoaaGreatDoor
