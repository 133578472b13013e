/-
  DERIVED. GIVEN WITH THE SEED: THE CARDS: each row of YtbghmmnkciimdaaGreatDoorRows.lean that lists a variable, with what it lists TIED to the program's text (the seventh form; the later family's looks); each row that meets fmt, with fmt's text TOLD by the authors' own Lean function (tested against real Go, not proved from fmt's source: count such statements apart). THE CARD IS WHAT COUNTS. Prove the row's statement (the work); the ties are given (YtbghmmnkciimdaaGreatDoorTie.lean); close each card by the builder's one call (the guide's Derived/Test/ToyasCard.lean, 'card_holds'). Laid BY PROGRAM, IN A SANDBOX (cutbox-door.mjs). By AI agents, Wed Nov 11 2026. No macro, syntax, notation, axiom, sorry.
-/
import Derived.Test.YtbghmmnkciimdaaGreatDoorRows
import GoSem.ClaimSeven
namespace Go.Proofs.YtbghmmnkciimdaaGreatDoor
namespace Rows

/-- THE TIED CARD OF 'polestarlaw26.SearchPicks'. -/
def searchPicksCard : Claim7 := { stood := { row := searchPicksRow, standIns := [], harness := (true, "573268fa3c42c705ab79a0b378b2718a81f439d4dd288c3082cd3348b3ea6114"), looks := false }, kinds := [], alts := [], laidByText := true, laidKinds := [.data, .data, .data], laidTests := true, laidLooks := .later }
def SearchPicksCardSaid : Prop := Claim7.holds Tryz.pinned (.plain (OpenSpec.ofChange searchPicksSpec)) searchPicksCard

/-- THE SECOND FORM's CARD OF 'polestarlaw26.SearchPicks'. -/
def searchPicksUptoCard : Claim7 := { stood := { row := searchPicksUptoRow, standIns := [], harness := (true, "573268fa3c42c705ab79a0b378b2718a81f439d4dd288c3082cd3348b3ea6114"), looks := false }, kinds := [], alts := [], laidByText := true, laidKinds := [.data, .data, .data], laidTests := true, laidLooks := .later }
def SearchPicksUptoCardSaid : Prop := Claim7.holds Tryz.pinned (.plain (OpenSpec.upto searchPicksSpec)) searchPicksUptoCard
end Rows
end Go.Proofs.YtbghmmnkciimdaaGreatDoor
