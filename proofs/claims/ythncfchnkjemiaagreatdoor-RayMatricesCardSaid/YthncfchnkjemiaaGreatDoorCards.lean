/-
  DERIVED. GIVEN WITH THE SEED: THE CARDS: each row of YthncfchnkjemiaaGreatDoorRows.lean that lists a variable, with what it lists TIED to the program's text (the seventh form; the later family's looks); each row that meets fmt, with fmt's text TOLD by the authors' own Lean function (tested against real Go, not proved from fmt's source: count such statements apart). THE CARD IS WHAT COUNTS. Prove the row's statement (the work); the ties are given (YthncfchnkjemiaaGreatDoorTie.lean); close each card by the builder's one call (the guide's Derived/Test/ToyasCard.lean, 'card_holds'). Laid BY PROGRAM, IN A SANDBOX (cutbox-door.mjs). By AI agents, Wed Nov 11 2026. No macro, syntax, notation, axiom, sorry.
-/
import Derived.Test.YthncfchnkjemiaaGreatDoorRows
import GoSem.ClaimSeven
namespace Go.Proofs.YthncfchnkjemiaaGreatDoor
namespace Rows

/-- THE TIED CARD OF 'polestarlaw13.OrbitBounds'. -/
def orbitBoundsCard : Claim7 := { stood := { row := orbitBoundsRow, standIns := [], harness := (true, "8c92a60f5f1a1203cad46ea81891afc02f1ec89545419bc2a5158b1c1e752e69"), looks := false }, kinds := [], alts := [], laidByText := true, laidKinds := [.data, .data, .data], laidTests := true, laidLooks := .later }
def OrbitBoundsCardSaid : Prop := Claim7.holds Tryz.pinned (.plain (OpenSpec.ofChange orbitBoundsSpec)) orbitBoundsCard

/-- THE TIED CARD OF 'polestarlaw11.ImageLies'. -/
def imageLiesCard : Claim7 := { stood := { row := imageLiesRow, standIns := [], harness := (true, "8c92a60f5f1a1203cad46ea81891afc02f1ec89545419bc2a5158b1c1e752e69"), looks := false }, kinds := [], alts := [], laidByText := true, laidKinds := [.data, .data, .data], laidTests := true, laidLooks := .later }
def ImageLiesCardSaid : Prop := Claim7.holds Tryz.pinned (.plain (OpenSpec.ofChange imageLiesSpec)) imageLiesCard

/-- THE TIED CARD OF 'polestarlaw20.MatchPairs'. -/
def matchPairsCard : Claim7 := { stood := { row := matchPairsRow, standIns := [], harness := (true, "8c92a60f5f1a1203cad46ea81891afc02f1ec89545419bc2a5158b1c1e752e69"), looks := false }, kinds := [], alts := [], laidByText := true, laidKinds := [.data, .data, .data], laidTests := true, laidLooks := .later }
def MatchPairsCardSaid : Prop := Claim7.holds Tryz.pinned (.plain (OpenSpec.ofChange matchPairsSpec)) matchPairsCard

/-- THE TIED CARD OF 'polestarlaw11.ImagePlanes'. -/
def imagePlanesCard : Claim7 := { stood := { row := imagePlanesRow, standIns := [], harness := (true, "8c92a60f5f1a1203cad46ea81891afc02f1ec89545419bc2a5158b1c1e752e69"), looks := false }, kinds := [], alts := [], laidByText := true, laidKinds := [.data, .data, .data], laidTests := true, laidLooks := .later }
def ImagePlanesCardSaid : Prop := Claim7.holds Tryz.pinned (.plain (OpenSpec.ofChange imagePlanesSpec)) imagePlanesCard

/-- THE TIED CARD OF 'polestarlaw12.CavityPairs'. -/
def cavityPairsCard : Claim7 := { stood := { row := cavityPairsRow, standIns := [], harness := (true, "8c92a60f5f1a1203cad46ea81891afc02f1ec89545419bc2a5158b1c1e752e69"), looks := false }, kinds := [], alts := [], laidByText := true, laidKinds := [.data, .data, .data], laidTests := true, laidLooks := .later }
def CavityPairsCardSaid : Prop := Claim7.holds Tryz.pinned (.plain (OpenSpec.ofChange cavityPairsSpec)) cavityPairsCard

/-- THE TIED CARD OF 'polestarlaw09.RayGoes'. -/
def rayGoesCard : Claim7 := { stood := { row := rayGoesRow, standIns := [], harness := (true, "8c92a60f5f1a1203cad46ea81891afc02f1ec89545419bc2a5158b1c1e752e69"), looks := false }, kinds := [], alts := [], laidByText := true, laidKinds := [.data, .data, .data], laidTests := true, laidLooks := .later }
def RayGoesCardSaid : Prop := Claim7.holds Tryz.pinned (.plain (OpenSpec.ofChange rayGoesSpec)) rayGoesCard

/-- THE TIED CARD OF 'polestarlaw09.RayMatrices'. -/
def rayMatricesCard : Claim7 := { stood := { row := rayMatricesRow, standIns := [], harness := (true, "8c92a60f5f1a1203cad46ea81891afc02f1ec89545419bc2a5158b1c1e752e69"), looks := false }, kinds := [], alts := [], laidByText := true, laidKinds := [.data, .data, .data], laidTests := true, laidLooks := .later }
def RayMatricesCardSaid : Prop := Claim7.holds Tryz.pinned (.plain (OpenSpec.ofChange rayMatricesSpec)) rayMatricesCard

/-- THE TIED CARD OF 'polestarlaw18.FilmDets'. -/
def filmDetsCard : Claim7 := { stood := { row := filmDetsRow, standIns := [], harness := (true, "8c92a60f5f1a1203cad46ea81891afc02f1ec89545419bc2a5158b1c1e752e69"), looks := false }, kinds := [], alts := [], laidByText := true, laidKinds := [.data, .data, .data], laidTests := true, laidLooks := .later }
def FilmDetsCardSaid : Prop := Claim7.holds Tryz.pinned (.plain (OpenSpec.ofChange filmDetsSpec)) filmDetsCard

/-- THE SECOND FORM's CARD OF 'polestarlaw13.OrbitBounds'. -/
def orbitBoundsUptoCard : Claim7 := { stood := { row := orbitBoundsUptoRow, standIns := [], harness := (true, "8c92a60f5f1a1203cad46ea81891afc02f1ec89545419bc2a5158b1c1e752e69"), looks := false }, kinds := [], alts := [], laidByText := true, laidKinds := [.data, .data, .data], laidTests := true, laidLooks := .later }
def OrbitBoundsUptoCardSaid : Prop := Claim7.holds Tryz.pinned (.plain (OpenSpec.upto orbitBoundsSpec)) orbitBoundsUptoCard

/-- THE SECOND FORM's CARD OF 'polestarlaw11.ImageLies'. -/
def imageLiesUptoCard : Claim7 := { stood := { row := imageLiesUptoRow, standIns := [], harness := (true, "8c92a60f5f1a1203cad46ea81891afc02f1ec89545419bc2a5158b1c1e752e69"), looks := false }, kinds := [], alts := [], laidByText := true, laidKinds := [.data, .data, .data], laidTests := true, laidLooks := .later }
def ImageLiesUptoCardSaid : Prop := Claim7.holds Tryz.pinned (.plain (OpenSpec.upto imageLiesSpec)) imageLiesUptoCard

/-- THE SECOND FORM's CARD OF 'polestarlaw20.MatchPairs'. -/
def matchPairsUptoCard : Claim7 := { stood := { row := matchPairsUptoRow, standIns := [], harness := (true, "8c92a60f5f1a1203cad46ea81891afc02f1ec89545419bc2a5158b1c1e752e69"), looks := false }, kinds := [], alts := [], laidByText := true, laidKinds := [.data, .data, .data], laidTests := true, laidLooks := .later }
def MatchPairsUptoCardSaid : Prop := Claim7.holds Tryz.pinned (.plain (OpenSpec.upto matchPairsSpec)) matchPairsUptoCard

/-- THE SECOND FORM's CARD OF 'polestarlaw11.ImagePlanes'. -/
def imagePlanesUptoCard : Claim7 := { stood := { row := imagePlanesUptoRow, standIns := [], harness := (true, "8c92a60f5f1a1203cad46ea81891afc02f1ec89545419bc2a5158b1c1e752e69"), looks := false }, kinds := [], alts := [], laidByText := true, laidKinds := [.data, .data, .data], laidTests := true, laidLooks := .later }
def ImagePlanesUptoCardSaid : Prop := Claim7.holds Tryz.pinned (.plain (OpenSpec.upto imagePlanesSpec)) imagePlanesUptoCard

/-- THE SECOND FORM's CARD OF 'polestarlaw12.CavityPairs'. -/
def cavityPairsUptoCard : Claim7 := { stood := { row := cavityPairsUptoRow, standIns := [], harness := (true, "8c92a60f5f1a1203cad46ea81891afc02f1ec89545419bc2a5158b1c1e752e69"), looks := false }, kinds := [], alts := [], laidByText := true, laidKinds := [.data, .data, .data], laidTests := true, laidLooks := .later }
def CavityPairsUptoCardSaid : Prop := Claim7.holds Tryz.pinned (.plain (OpenSpec.upto cavityPairsSpec)) cavityPairsUptoCard

/-- THE SECOND FORM's CARD OF 'polestarlaw09.RayGoes'. -/
def rayGoesUptoCard : Claim7 := { stood := { row := rayGoesUptoRow, standIns := [], harness := (true, "8c92a60f5f1a1203cad46ea81891afc02f1ec89545419bc2a5158b1c1e752e69"), looks := false }, kinds := [], alts := [], laidByText := true, laidKinds := [.data, .data, .data], laidTests := true, laidLooks := .later }
def RayGoesUptoCardSaid : Prop := Claim7.holds Tryz.pinned (.plain (OpenSpec.upto rayGoesSpec)) rayGoesUptoCard

/-- THE SECOND FORM's CARD OF 'polestarlaw09.RayMatrices'. -/
def rayMatricesUptoCard : Claim7 := { stood := { row := rayMatricesUptoRow, standIns := [], harness := (true, "8c92a60f5f1a1203cad46ea81891afc02f1ec89545419bc2a5158b1c1e752e69"), looks := false }, kinds := [], alts := [], laidByText := true, laidKinds := [.data, .data, .data], laidTests := true, laidLooks := .later }
def RayMatricesUptoCardSaid : Prop := Claim7.holds Tryz.pinned (.plain (OpenSpec.upto rayMatricesSpec)) rayMatricesUptoCard

/-- THE SECOND FORM's CARD OF 'polestarlaw18.FilmDets'. -/
def filmDetsUptoCard : Claim7 := { stood := { row := filmDetsUptoRow, standIns := [], harness := (true, "8c92a60f5f1a1203cad46ea81891afc02f1ec89545419bc2a5158b1c1e752e69"), looks := false }, kinds := [], alts := [], laidByText := true, laidKinds := [.data, .data, .data], laidTests := true, laidLooks := .later }
def FilmDetsUptoCardSaid : Prop := Claim7.holds Tryz.pinned (.plain (OpenSpec.upto filmDetsSpec)) filmDetsUptoCard
end Rows
end Go.Proofs.YthncfchnkjemiaaGreatDoor
