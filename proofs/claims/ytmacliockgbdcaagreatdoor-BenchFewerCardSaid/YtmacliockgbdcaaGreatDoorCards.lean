/-
  DERIVED. GIVEN WITH THE SEED: THE CARDS: each row of YtmacliockgbdcaaGreatDoorRows.lean that lists a variable, with what it lists TIED to the program's text (the seventh form; the later family's looks); each row that meets fmt, with fmt's text TOLD by the authors' own Lean function (tested against real Go, not proved from fmt's source: count such statements apart). THE CARD IS WHAT COUNTS. Prove the row's statement (the work); the ties are given (YtmacliockgbdcaaGreatDoorTie.lean); close each card by the builder's one call (the guide's Derived/Test/ToyasCard.lean, 'card_holds'). Laid BY PROGRAM, IN A SANDBOX (cutbox-door.mjs). By AI agents, Wed Nov 11 2026. No macro, syntax, notation, axiom, sorry.
-/
import Derived.Test.YtmacliockgbdcaaGreatDoorRows
import GoSem.ClaimSeven
namespace Go.Proofs.YtmacliockgbdcaaGreatDoor
namespace Rows

/-- THE TIED CARD OF 'polestarlaw10.BenchFewer'. -/
def benchFewerCard : Claim7 := { stood := { row := benchFewerRow, standIns := [], harness := (true, "04bd335053feb6447fb10130897931632a4b7aea47d405b1e6e401c65a1a5080"), looks := false }, kinds := [], alts := [], laidByText := true, laidKinds := [.data, .data, .data], laidTests := true, laidLooks := .later }
def BenchFewerCardSaid : Prop := Claim7.holds Tryz.pinned (.plain (OpenSpec.ofChange benchFewerSpec)) benchFewerCard

/-- THE SECOND FORM's CARD OF 'polestarlaw10.BenchFewer'. -/
def benchFewerUptoCard : Claim7 := { stood := { row := benchFewerUptoRow, standIns := [], harness := (true, "04bd335053feb6447fb10130897931632a4b7aea47d405b1e6e401c65a1a5080"), looks := false }, kinds := [], alts := [], laidByText := true, laidKinds := [.data, .data, .data], laidTests := true, laidLooks := .later }
def BenchFewerUptoCardSaid : Prop := Claim7.holds Tryz.pinned (.plain (OpenSpec.upto benchFewerSpec)) benchFewerUptoCard
end Rows
end Go.Proofs.YtmacliockgbdcaaGreatDoor
