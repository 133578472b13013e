/-
  DERIVED. GIVEN WITH THE SEED: THE CARDS: each row of YtpnhpldlecmbdaaGreatDoorRows.lean that lists a variable, with what it lists TIED to the program's text (the seventh form; the later family's looks); each row that meets fmt, with fmt's text TOLD by the authors' own Lean function (tested against real Go, not proved from fmt's source: count such statements apart). THE CARD IS WHAT COUNTS. Prove the row's statement (the work); the ties are given (YtpnhpldlecmbdaaGreatDoorTie.lean); close each card by the builder's one call (the guide's Derived/Test/ToyasCard.lean, 'card_holds'). Laid BY PROGRAM, IN A SANDBOX (cutbox-door.mjs). By AI agents, Wed Nov 11 2026. No macro, syntax, notation, axiom, sorry.
-/
import Derived.Test.YtpnhpldlecmbdaaGreatDoorRows
import GoSem.ClaimSeven
namespace Go.Proofs.YtpnhpldlecmbdaaGreatDoor
namespace Rows

/-- THE TIED CARD OF 'polestarlaw10.BenchMatrices'. -/
def benchMatricesCard : Claim7 := { stood := { row := benchMatricesRow, standIns := [], harness := (true, "5ba8f556f6ae56a5af261ed189a6c3adf4ea5df6fd74ebd3dbf1321e4b6021f3"), looks := false }, kinds := [], alts := [], laidByText := true, laidKinds := [.data, .data, .data], laidTests := true, laidLooks := .later }
def BenchMatricesCardSaid : Prop := Claim7.holds Tryz.pinned (.plain (OpenSpec.ofChange benchMatricesSpec)) benchMatricesCard

/-- THE SECOND FORM's CARD OF 'polestarlaw10.BenchMatrices'. -/
def benchMatricesUptoCard : Claim7 := { stood := { row := benchMatricesUptoRow, standIns := [], harness := (true, "5ba8f556f6ae56a5af261ed189a6c3adf4ea5df6fd74ebd3dbf1321e4b6021f3"), looks := false }, kinds := [], alts := [], laidByText := true, laidKinds := [.data, .data, .data], laidTests := true, laidLooks := .later }
def BenchMatricesUptoCardSaid : Prop := Claim7.holds Tryz.pinned (.plain (OpenSpec.upto benchMatricesSpec)) benchMatricesUptoCard
end Rows
end Go.Proofs.YtpnhpldlecmbdaaGreatDoor
