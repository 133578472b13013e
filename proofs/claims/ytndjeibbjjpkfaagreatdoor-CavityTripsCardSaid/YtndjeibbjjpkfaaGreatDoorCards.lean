/-
  DERIVED. GIVEN WITH THE SEED: THE CARDS: each row of YtndjeibbjjpkfaaGreatDoorRows.lean that lists a variable, with what it lists TIED to the program's text (the seventh form; the later family's looks); each row that meets fmt, with fmt's text TOLD by the authors' own Lean function (tested against real Go, not proved from fmt's source: count such statements apart). THE CARD IS WHAT COUNTS. Prove the row's statement (the work); the ties are given (YtndjeibbjjpkfaaGreatDoorTie.lean); close each card by the builder's one call (the guide's Derived/Test/ToyasCard.lean, 'card_holds'). Laid BY PROGRAM, IN A SANDBOX (cutbox-door.mjs). By AI agents, Wed Nov 11 2026. No macro, syntax, notation, axiom, sorry.
-/
import Derived.Test.YtndjeibbjjpkfaaGreatDoorRows
import GoSem.ClaimSeven
namespace Go.Proofs.YtndjeibbjjpkfaaGreatDoor
namespace Rows

/-- THE TIED CARD OF 'polestarlaw12.CavityTrips'. -/
def cavityTripsCard : Claim7 := { stood := { row := cavityTripsRow, standIns := [], harness := (true, "b44725e2a7a46a85a48841b6f832b89f6372815c6449de807498457f2827b7da"), looks := false }, kinds := [], alts := [], laidByText := true, laidKinds := [.data, .data, .data], laidTests := true, laidLooks := .later }
def CavityTripsCardSaid : Prop := Claim7.holds Tryz.pinned (.plain (OpenSpec.ofChange cavityTripsSpec)) cavityTripsCard

/-- THE SECOND FORM's CARD OF 'polestarlaw12.CavityTrips'. -/
def cavityTripsUptoCard : Claim7 := { stood := { row := cavityTripsUptoRow, standIns := [], harness := (true, "b44725e2a7a46a85a48841b6f832b89f6372815c6449de807498457f2827b7da"), looks := false }, kinds := [], alts := [], laidByText := true, laidKinds := [.data, .data, .data], laidTests := true, laidLooks := .later }
def CavityTripsUptoCardSaid : Prop := Claim7.holds Tryz.pinned (.plain (OpenSpec.upto cavityTripsSpec)) cavityTripsUptoCard
end Rows
end Go.Proofs.YtndjeibbjjpkfaaGreatDoor
