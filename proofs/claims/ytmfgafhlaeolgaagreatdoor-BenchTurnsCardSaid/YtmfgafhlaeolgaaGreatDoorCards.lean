/-
  DERIVED. GIVEN WITH THE SEED: THE CARDS: each row of YtmfgafhlaeolgaaGreatDoorRows.lean that lists a variable, with what it lists TIED to the program's text (the seventh form; the later family's looks); each row that meets fmt, with fmt's text TOLD by the authors' own Lean function (tested against real Go, not proved from fmt's source: count such statements apart). THE CARD IS WHAT COUNTS. Prove the row's statement (the work); the ties are given (YtmfgafhlaeolgaaGreatDoorTie.lean); close each card by the builder's one call (the guide's Derived/Test/ToyasCard.lean, 'card_holds'). Laid BY PROGRAM, IN A SANDBOX (cutbox-door.mjs). By AI agents, Wed Nov 11 2026. No macro, syntax, notation, axiom, sorry.
-/
import Derived.Test.YtmfgafhlaeolgaaGreatDoorRows
import GoSem.ClaimSeven
namespace Go.Proofs.YtmfgafhlaeolgaaGreatDoor
namespace Rows

/-- THE TIED CARD OF 'polestarlaw10.BenchTurns'. -/
def benchTurnsCard : Claim7 := { stood := { row := benchTurnsRow, standIns := [], harness := (true, "e54a0e0b45201ddae3cdf8fffe37bdd570a00c02a491da4d31d700c5416023af"), looks := false }, kinds := [], alts := [], laidByText := true, laidKinds := [.data, .data, .data], laidTests := true, laidLooks := .later }
def BenchTurnsCardSaid : Prop := Claim7.holds Tryz.pinned (.plain (OpenSpec.ofChange benchTurnsSpec)) benchTurnsCard

/-- THE SECOND FORM's CARD OF 'polestarlaw10.BenchTurns'. -/
def benchTurnsUptoCard : Claim7 := { stood := { row := benchTurnsUptoRow, standIns := [], harness := (true, "e54a0e0b45201ddae3cdf8fffe37bdd570a00c02a491da4d31d700c5416023af"), looks := false }, kinds := [], alts := [], laidByText := true, laidKinds := [.data, .data, .data], laidTests := true, laidLooks := .later }
def BenchTurnsUptoCardSaid : Prop := Claim7.holds Tryz.pinned (.plain (OpenSpec.upto benchTurnsSpec)) benchTurnsUptoCard
end Rows
end Go.Proofs.YtmfgafhlaeolgaaGreatDoor
