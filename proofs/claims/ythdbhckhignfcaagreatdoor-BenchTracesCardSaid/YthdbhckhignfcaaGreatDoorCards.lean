/-
  DERIVED. GIVEN WITH THE SEED: THE CARDS: each row of YthdbhckhignfcaaGreatDoorRows.lean that lists a variable, with what it lists TIED to the program's text (the seventh form; the later family's looks); each row that meets fmt, with fmt's text TOLD by the authors' own Lean function (tested against real Go, not proved from fmt's source: count such statements apart). THE CARD IS WHAT COUNTS. Prove the row's statement (the work); the ties are given (YthdbhckhignfcaaGreatDoorTie.lean); close each card by the builder's one call (the guide's Derived/Test/ToyasCard.lean, 'card_holds'). Laid BY PROGRAM, IN A SANDBOX (cutbox-door.mjs). By AI agents, Wed Nov 11 2026. No macro, syntax, notation, axiom, sorry.
-/
import Derived.Test.YthdbhckhignfcaaGreatDoorRows
import GoSem.ClaimSeven
namespace Go.Proofs.YthdbhckhignfcaaGreatDoor
namespace Rows

/-- THE TIED CARD OF 'polestarlaw10.BenchTraces'. -/
def benchTracesCard : Claim7 := { stood := { row := benchTracesRow, standIns := [], harness := (true, "78e74aa23b2bcb6627e6be537917e73cbe68a3b0474479118df53b78812765d8"), looks := false }, kinds := [], alts := [], laidByText := true, laidKinds := [.data, .data, .data], laidTests := true, laidLooks := .later }
def BenchTracesCardSaid : Prop := Claim7.holds Tryz.pinned (.plain (OpenSpec.ofChange benchTracesSpec)) benchTracesCard

/-- THE SECOND FORM's CARD OF 'polestarlaw10.BenchTraces'. -/
def benchTracesUptoCard : Claim7 := { stood := { row := benchTracesUptoRow, standIns := [], harness := (true, "78e74aa23b2bcb6627e6be537917e73cbe68a3b0474479118df53b78812765d8"), looks := false }, kinds := [], alts := [], laidByText := true, laidKinds := [.data, .data, .data], laidTests := true, laidLooks := .later }
def BenchTracesUptoCardSaid : Prop := Claim7.holds Tryz.pinned (.plain (OpenSpec.upto benchTracesSpec)) benchTracesUptoCard
end Rows
end Go.Proofs.YthdbhckhignfcaaGreatDoor
