/-
  DERIVED. GIVEN WITH THE SEED: THE CARDS: each row of YtckfapioofbfpaaGreatDoorRows.lean that lists a variable, with what it lists TIED to the program's text (the seventh form; the later family's looks); each row that meets fmt, with fmt's text TOLD by the authors' own Lean function (tested against real Go, not proved from fmt's source: count such statements apart). THE CARD IS WHAT COUNTS. Prove the row's statement (the work); the ties are given (YtckfapioofbfpaaGreatDoorTie.lean); close each card by the builder's one call (the guide's Derived/Test/ToyasCard.lean, 'card_holds'). Laid BY PROGRAM, IN A SANDBOX (cutbox-door.mjs). By AI agents, Wed Nov 11 2026. No macro, syntax, notation, axiom, sorry.
-/
import Derived.Test.YtckfapioofbfpaaGreatDoorRows
import GoSem.ClaimSeven
namespace Go.Proofs.YtckfapioofbfpaaGreatDoor
namespace Rows

/-- THE TIED CARD OF 'polestarlaw26.SearchBests'. -/
def searchBestsCard : Claim7 := { stood := { row := searchBestsRow, standIns := [], harness := (true, "8740d338c9fb250d734e84137f2bf9d32b44cc0b4bfa792eceb76020063f24a9"), looks := false }, kinds := [], alts := [], laidByText := true, laidKinds := [.data, .data, .data], laidTests := true, laidLooks := .later }
def SearchBestsCardSaid : Prop := Claim7.holds Tryz.pinned (.plain (OpenSpec.ofChange searchBestsSpec)) searchBestsCard

/-- THE SECOND FORM's CARD OF 'polestarlaw26.SearchBests'. -/
def searchBestsUptoCard : Claim7 := { stood := { row := searchBestsUptoRow, standIns := [], harness := (true, "8740d338c9fb250d734e84137f2bf9d32b44cc0b4bfa792eceb76020063f24a9"), looks := false }, kinds := [], alts := [], laidByText := true, laidKinds := [.data, .data, .data], laidTests := true, laidLooks := .later }
def SearchBestsUptoCardSaid : Prop := Claim7.holds Tryz.pinned (.plain (OpenSpec.upto searchBestsSpec)) searchBestsUptoCard
end Rows
end Go.Proofs.YtckfapioofbfpaaGreatDoor
