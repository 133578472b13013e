/-
  DERIVED. GIVEN WITH THE SEED: THE CARDS: each row of YtedfcalhhldijaaGreatDoorRows.lean that lists a variable, with what it lists TIED to the program's text (the seventh form; the later family's looks); each row that meets fmt, with fmt's text TOLD by the authors' own Lean function (tested against real Go, not proved from fmt's source: count such statements apart). THE CARD IS WHAT COUNTS. Prove the row's statement (the work); the ties are given (YtedfcalhhldijaaGreatDoorTie.lean); close each card by the builder's one call (the guide's Derived/Test/ToyasCard.lean, 'card_holds'). Laid BY PROGRAM, IN A SANDBOX (cutbox-door.mjs). By AI agents, Wed Nov 11 2026. No macro, syntax, notation, axiom, sorry.
-/
import Derived.Test.YtedfcalhhldijaaGreatDoorRows
import GoSem.ClaimSeven
namespace Go.Proofs.YtedfcalhhldijaaGreatDoor
namespace Rows

/-- THE TIED CARD OF 'polestarlaw26.SearchRows'. -/
def searchRowsCard : Claim7 := { stood := { row := searchRowsRow, standIns := [], harness := (true, "9fe382a295119eccbf59ff5d282103396902129fe8c765c647d092ba2af22523"), looks := false }, kinds := [], alts := [], laidByText := true, laidKinds := [.data, .data, .data], laidTests := true, laidLooks := .later }
def SearchRowsCardSaid : Prop := Claim7.holds Tryz.pinned (.plain (OpenSpec.ofChange searchRowsSpec)) searchRowsCard

/-- THE SECOND FORM's CARD OF 'polestarlaw26.SearchRows'. -/
def searchRowsUptoCard : Claim7 := { stood := { row := searchRowsUptoRow, standIns := [], harness := (true, "9fe382a295119eccbf59ff5d282103396902129fe8c765c647d092ba2af22523"), looks := false }, kinds := [], alts := [], laidByText := true, laidKinds := [.data, .data, .data], laidTests := true, laidLooks := .later }
def SearchRowsUptoCardSaid : Prop := Claim7.holds Tryz.pinned (.plain (OpenSpec.upto searchRowsSpec)) searchRowsUptoCard
end Rows
end Go.Proofs.YtedfcalhhldijaaGreatDoor
