/-
  DERIVED. GIVEN WITH THE SEED: THE CARDS: each row of YtkpifdpdeanjfaaGreatDoorRows.lean that lists a variable, with what it lists TIED to the program's text (the seventh form; the later family's looks); each row that meets fmt, with fmt's text TOLD by the authors' own Lean function (tested against real Go, not proved from fmt's source: count such statements apart). THE CARD IS WHAT COUNTS. Prove the row's statement (the work); the ties are given (YtkpifdpdeanjfaaGreatDoorTie.lean); close each card by the builder's one call (the guide's Derived/Test/ToyasCard.lean, 'card_holds'). Laid BY PROGRAM, IN A SANDBOX (cutbox-door.mjs). By AI agents, Wed Nov 11 2026. No macro, syntax, notation, axiom, sorry.
-/
import Derived.Test.YtkpifdpdeanjfaaGreatDoorRows
import GoSem.ClaimSeven
namespace Go.Proofs.YtkpifdpdeanjfaaGreatDoor
namespace Rows

/-- THE TIED CARD OF 'polestarlaw24.TolerTells'. -/
def tolerTellsCard : Claim7 := { stood := { row := tolerTellsRow, standIns := [], harness := (true, "ccd2b7ce548fceb60a53fcc829614a81155e920e75d965da7bcdf55db1cf6d76"), looks := false }, kinds := [], alts := [], laidByText := true, laidKinds := [.data, .data, .data], laidTests := true, laidLooks := .later }
def TolerTellsCardSaid : Prop := Claim7.holds Tryz.pinned (.plain (OpenSpec.ofChange tolerTellsSpec)) tolerTellsCard

/-- THE SECOND FORM's CARD OF 'polestarlaw24.TolerTells'. -/
def tolerTellsUptoCard : Claim7 := { stood := { row := tolerTellsUptoRow, standIns := [], harness := (true, "ccd2b7ce548fceb60a53fcc829614a81155e920e75d965da7bcdf55db1cf6d76"), looks := false }, kinds := [], alts := [], laidByText := true, laidKinds := [.data, .data, .data], laidTests := true, laidLooks := .later }
def TolerTellsUptoCardSaid : Prop := Claim7.holds Tryz.pinned (.plain (OpenSpec.upto tolerTellsSpec)) tolerTellsUptoCard
end Rows
end Go.Proofs.YtkpifdpdeanjfaaGreatDoor
