/-
  NARROWER THAN 'FOR EVERY INPUT', by the rows' own cells (each row's printed sentence says how): OrbitBounds: laid · ImageLies: laid · MatchPairs: laid · ImagePlanes: laid · CavityPairs: laid · RayGoes: laid · RayMatrices: laid · FilmDets: laid.
  DERIVED. THE GIVEN ROWS OF THIS SEAT. 8 by the template 'for every input the law returns true; each argument reads behind the call as it read before'; 0 by the template 'total and deterministic' (their statements: YthncfchnkjemiaaGreatDoorTotals.lean).
  GIVEN WITH THE SEED: the statements are not yours to turn. If you find one false, say at which input.
  Laid BY PROGRAM, IN A SANDBOX (cutbox-rows.mjs): the forced cells as the released guide's own fill.sh prints them over the translation c1ab9d4ebc849e73… (all of the seat's roots in one cut). By AI agents, Wed Nov 11 2026. No macro, syntax, notation, axiom, sorry.
-/
import Derived.Test.YthncfchnkjemiaaGreatDoorChecked
import GoSem.Claim
import GoSem.ClaimJoined
import GoSem.ClaimMapViews
import Derived.JoinedTies
import Derived.KernelRfl
namespace Go.Proofs.YthncfchnkjemiaaGreatDoor
/- THE CELL 'sum', in the pinned program and in every row, IS THE sha256 OF THE DUMP (.gsa) THAT YthncfchnkjemiaaGreatDoorProg.lean LOADS. Nothing in Lean hashes anything: it is a label: what it is worth is what the hold of that sum in a sandbox is worth. -/
noncomputable def Tryz.pinned : Pinned := { name := "ythncfchnkjemiaagreatdoor", sum := "c1ab9d4ebc849e73457e3f438818fd7d49118cc3eb10fe1d85421e4c9df4b747", checked := Tryz.checked }
namespace Rows
def none {H : Type} : Left H := { results := [], args := [] }

/- WHAT THE LISTED PACKAGE-LEVEL VARIABLES READ AS WHEN THE CALL BEGINS. Each datum BY PROGRAM (the guide's laid-datum.mjs) off the statement by which the dump's own 'gosem.cut.vars' lays the variable. In a bare row this is a premise. The card (YthncfchnkjemiaaGreatDoorCards.lean) ties it to the program's text. -/
def laid_math_bits_deBruijn32tab {H : Type} : DataW H := .agg [.lit (.int .u8 0), .lit (.int .u8 1), .lit (.int .u8 28), .lit (.int .u8 2), .lit (.int .u8 29), .lit (.int .u8 14), .lit (.int .u8 24), .lit (.int .u8 3), .lit (.int .u8 30), .lit (.int .u8 22), .lit (.int .u8 20), .lit (.int .u8 15), .lit (.int .u8 25), .lit (.int .u8 17), .lit (.int .u8 4), .lit (.int .u8 8), .lit (.int .u8 31), .lit (.int .u8 27), .lit (.int .u8 13), .lit (.int .u8 23), .lit (.int .u8 21), .lit (.int .u8 19), .lit (.int .u8 16), .lit (.int .u8 7), .lit (.int .u8 26), .lit (.int .u8 12), .lit (.int .u8 18), .lit (.int .u8 6), .lit (.int .u8 11), .lit (.int .u8 5), .lit (.int .u8 10), .lit (.int .u8 9)]
def laid_math_bits_deBruijn64tab {H : Type} : DataW H := .agg [.lit (.int .u8 0), .lit (.int .u8 1), .lit (.int .u8 56), .lit (.int .u8 2), .lit (.int .u8 57), .lit (.int .u8 49), .lit (.int .u8 28), .lit (.int .u8 3), .lit (.int .u8 61), .lit (.int .u8 58), .lit (.int .u8 42), .lit (.int .u8 50), .lit (.int .u8 38), .lit (.int .u8 29), .lit (.int .u8 17), .lit (.int .u8 4), .lit (.int .u8 62), .lit (.int .u8 47), .lit (.int .u8 59), .lit (.int .u8 36), .lit (.int .u8 45), .lit (.int .u8 43), .lit (.int .u8 51), .lit (.int .u8 22), .lit (.int .u8 53), .lit (.int .u8 39), .lit (.int .u8 33), .lit (.int .u8 30), .lit (.int .u8 24), .lit (.int .u8 18), .lit (.int .u8 12), .lit (.int .u8 5), .lit (.int .u8 63), .lit (.int .u8 55), .lit (.int .u8 48), .lit (.int .u8 27), .lit (.int .u8 60), .lit (.int .u8 41), .lit (.int .u8 37), .lit (.int .u8 16), .lit (.int .u8 46), .lit (.int .u8 35), .lit (.int .u8 44), .lit (.int .u8 21), .lit (.int .u8 52), .lit (.int .u8 32), .lit (.int .u8 23), .lit (.int .u8 11), .lit (.int .u8 54), .lit (.int .u8 26), .lit (.int .u8 40), .lit (.int .u8 15), .lit (.int .u8 34), .lit (.int .u8 20), .lit (.int .u8 31), .lit (.int .u8 10), .lit (.int .u8 25), .lit (.int .u8 14), .lit (.int .u8 19), .lit (.int .u8 9), .lit (.int .u8 13), .lit (.int .u8 8), .lit (.int .u8 7), .lit (.int .u8 6)]
def laid_internal_strconv_uint64pow10 {H : Type} : DataW H := .agg [.lit (.int .u64 1), .lit (.int .u64 10), .lit (.int .u64 100), .lit (.int .u64 1000), .lit (.int .u64 10000), .lit (.int .u64 100000), .lit (.int .u64 1000000), .lit (.int .u64 10000000), .lit (.int .u64 100000000), .lit (.int .u64 1000000000), .lit (.int .u64 10000000000), .lit (.int .u64 100000000000), .lit (.int .u64 1000000000000), .lit (.int .u64 10000000000000), .lit (.int .u64 100000000000000), .lit (.int .u64 1000000000000000), .lit (.int .u64 10000000000000000), .lit (.int .u64 100000000000000000), .lit (.int .u64 1000000000000000000), .lit (.int .u64 10000000000000000000)]

/-- 'polestarlaw13.OrbitBounds': WHATEVER THE INPUT: true; the input reads as it did. -/
def orbitBoundsSpec : ChangeSpec := { name := "orbitBounds", fn := fun _ => fun
  | [d1, d2] => { results := [.lit (.bool true)], args := [d1, d2] }
  | _ => none }
def orbitBoundsRow : OpenClaim := { program := "ythncfchnkjemiaagreatdoor", sum := "c1ab9d4ebc849e73457e3f438818fd7d49118cc3eb10fe1d85421e4c9df4b747", func := "polestar/polestarlaw13.OrbitBounds", spec := "orbitBounds", unfollowed := true, recurses := true, named := ["math/bits.overflowError", "internal/strconv.uint64pow10", "math/bits.deBruijn32tab", "math/bits.deBruijn64tab"], apart := false, laid := [("math/bits.deBruijn32tab", laid_math_bits_deBruijn32tab), ("math/bits.deBruijn64tab", laid_math_bits_deBruijn64tab), ("internal/strconv.uint64pow10", laid_internal_strconv_uint64pow10)] }
def OrbitBoundsSaid : Prop := orbitBoundsRow.holds Tryz.pinned (OpenSpec.ofChange orbitBoundsSpec)

/-- ITS FALSE NEIGHBOUR: 'it returns false'. Refute it at one input. -/
def orbitBoundsWrong : ChangeSpec := { name := "orbitBounds", fn := fun _ => fun
  | [d1, d2] => { results := [.lit (.bool false)], args := [d1, d2] }
  | _ => none }
def OrbitBoundsWrongFalsely : Prop := orbitBoundsRow.holds Tryz.pinned (OpenSpec.ofChange orbitBoundsWrong)

/-- 'polestarlaw11.ImageLies': WHATEVER THE INPUT: true; the input reads as it did. -/
def imageLiesSpec : ChangeSpec := { name := "imageLies", fn := fun _ => fun
  | [d1, d2, d3] => { results := [.lit (.bool true)], args := [d1, d2, d3] }
  | _ => none }
def imageLiesRow : OpenClaim := { program := "ythncfchnkjemiaagreatdoor", sum := "c1ab9d4ebc849e73457e3f438818fd7d49118cc3eb10fe1d85421e4c9df4b747", func := "polestar/polestarlaw11.ImageLies", spec := "imageLies", unfollowed := true, recurses := true, named := ["math/bits.overflowError", "internal/strconv.uint64pow10", "math/bits.deBruijn32tab", "math/bits.deBruijn64tab"], apart := false, laid := [("math/bits.deBruijn32tab", laid_math_bits_deBruijn32tab), ("math/bits.deBruijn64tab", laid_math_bits_deBruijn64tab), ("internal/strconv.uint64pow10", laid_internal_strconv_uint64pow10)] }
def ImageLiesSaid : Prop := imageLiesRow.holds Tryz.pinned (OpenSpec.ofChange imageLiesSpec)

/-- ITS FALSE NEIGHBOUR: 'it returns false'. Refute it at one input. -/
def imageLiesWrong : ChangeSpec := { name := "imageLies", fn := fun _ => fun
  | [d1, d2, d3] => { results := [.lit (.bool false)], args := [d1, d2, d3] }
  | _ => none }
def ImageLiesWrongFalsely : Prop := imageLiesRow.holds Tryz.pinned (OpenSpec.ofChange imageLiesWrong)

/-- 'polestarlaw20.MatchPairs': WHATEVER THE INPUT: true; the input reads as it did. -/
def matchPairsSpec : ChangeSpec := { name := "matchPairs", fn := fun _ => fun
  | [d1, d2] => { results := [.lit (.bool true)], args := [d1, d2] }
  | _ => none }
def matchPairsRow : OpenClaim := { program := "ythncfchnkjemiaagreatdoor", sum := "c1ab9d4ebc849e73457e3f438818fd7d49118cc3eb10fe1d85421e4c9df4b747", func := "polestar/polestarlaw20.MatchPairs", spec := "matchPairs", unfollowed := true, recurses := true, named := ["math/bits.overflowError", "internal/strconv.uint64pow10", "math/bits.deBruijn32tab", "math/bits.deBruijn64tab"], apart := false, laid := [("math/bits.deBruijn32tab", laid_math_bits_deBruijn32tab), ("math/bits.deBruijn64tab", laid_math_bits_deBruijn64tab), ("internal/strconv.uint64pow10", laid_internal_strconv_uint64pow10)] }
def MatchPairsSaid : Prop := matchPairsRow.holds Tryz.pinned (OpenSpec.ofChange matchPairsSpec)

/-- ITS FALSE NEIGHBOUR: 'it returns false'. Refute it at one input. -/
def matchPairsWrong : ChangeSpec := { name := "matchPairs", fn := fun _ => fun
  | [d1, d2] => { results := [.lit (.bool false)], args := [d1, d2] }
  | _ => none }
def MatchPairsWrongFalsely : Prop := matchPairsRow.holds Tryz.pinned (OpenSpec.ofChange matchPairsWrong)

/-- 'polestarlaw11.ImagePlanes': WHATEVER THE INPUT: true; the input reads as it did. -/
def imagePlanesSpec : ChangeSpec := { name := "imagePlanes", fn := fun _ => fun
  | [d] => { results := [.lit (.bool true)], args := [d] }
  | _ => none }
def imagePlanesRow : OpenClaim := { program := "ythncfchnkjemiaagreatdoor", sum := "c1ab9d4ebc849e73457e3f438818fd7d49118cc3eb10fe1d85421e4c9df4b747", func := "polestar/polestarlaw11.ImagePlanes", spec := "imagePlanes", unfollowed := true, recurses := true, named := ["math/bits.overflowError", "internal/strconv.uint64pow10", "math/bits.deBruijn32tab", "math/bits.deBruijn64tab"], apart := false, laid := [("math/bits.deBruijn32tab", laid_math_bits_deBruijn32tab), ("math/bits.deBruijn64tab", laid_math_bits_deBruijn64tab), ("internal/strconv.uint64pow10", laid_internal_strconv_uint64pow10)] }
def ImagePlanesSaid : Prop := imagePlanesRow.holds Tryz.pinned (OpenSpec.ofChange imagePlanesSpec)

/-- ITS FALSE NEIGHBOUR: 'it returns false'. Refute it at one input. -/
def imagePlanesWrong : ChangeSpec := { name := "imagePlanes", fn := fun _ => fun
  | [d] => { results := [.lit (.bool false)], args := [d] }
  | _ => none }
def ImagePlanesWrongFalsely : Prop := imagePlanesRow.holds Tryz.pinned (OpenSpec.ofChange imagePlanesWrong)

/-- 'polestarlaw12.CavityPairs': WHATEVER THE INPUT: true; the input reads as it did. -/
def cavityPairsSpec : ChangeSpec := { name := "cavityPairs", fn := fun _ => fun
  | [d1, d2, d3] => { results := [.lit (.bool true)], args := [d1, d2, d3] }
  | _ => none }
def cavityPairsRow : OpenClaim := { program := "ythncfchnkjemiaagreatdoor", sum := "c1ab9d4ebc849e73457e3f438818fd7d49118cc3eb10fe1d85421e4c9df4b747", func := "polestar/polestarlaw12.CavityPairs", spec := "cavityPairs", unfollowed := true, recurses := true, named := ["math/bits.overflowError", "internal/strconv.uint64pow10", "math/bits.deBruijn32tab", "math/bits.deBruijn64tab"], apart := false, laid := [("math/bits.deBruijn32tab", laid_math_bits_deBruijn32tab), ("math/bits.deBruijn64tab", laid_math_bits_deBruijn64tab), ("internal/strconv.uint64pow10", laid_internal_strconv_uint64pow10)] }
def CavityPairsSaid : Prop := cavityPairsRow.holds Tryz.pinned (OpenSpec.ofChange cavityPairsSpec)

/-- ITS FALSE NEIGHBOUR: 'it returns false'. Refute it at one input. -/
def cavityPairsWrong : ChangeSpec := { name := "cavityPairs", fn := fun _ => fun
  | [d1, d2, d3] => { results := [.lit (.bool false)], args := [d1, d2, d3] }
  | _ => none }
def CavityPairsWrongFalsely : Prop := cavityPairsRow.holds Tryz.pinned (OpenSpec.ofChange cavityPairsWrong)

/-- 'polestarlaw09.RayGoes': WHATEVER THE INPUT: true; the input reads as it did. -/
def rayGoesSpec : ChangeSpec := { name := "rayGoes", fn := fun _ => fun
  | [d1, d2, d3] => { results := [.lit (.bool true)], args := [d1, d2, d3] }
  | _ => none }
def rayGoesRow : OpenClaim := { program := "ythncfchnkjemiaagreatdoor", sum := "c1ab9d4ebc849e73457e3f438818fd7d49118cc3eb10fe1d85421e4c9df4b747", func := "polestar/polestarlaw09.RayGoes", spec := "rayGoes", unfollowed := true, recurses := true, named := ["math/bits.overflowError", "internal/strconv.uint64pow10", "math/bits.deBruijn32tab", "math/bits.deBruijn64tab"], apart := false, laid := [("math/bits.deBruijn32tab", laid_math_bits_deBruijn32tab), ("math/bits.deBruijn64tab", laid_math_bits_deBruijn64tab), ("internal/strconv.uint64pow10", laid_internal_strconv_uint64pow10)] }
def RayGoesSaid : Prop := rayGoesRow.holds Tryz.pinned (OpenSpec.ofChange rayGoesSpec)

/-- ITS FALSE NEIGHBOUR: 'it returns false'. Refute it at one input. -/
def rayGoesWrong : ChangeSpec := { name := "rayGoes", fn := fun _ => fun
  | [d1, d2, d3] => { results := [.lit (.bool false)], args := [d1, d2, d3] }
  | _ => none }
def RayGoesWrongFalsely : Prop := rayGoesRow.holds Tryz.pinned (OpenSpec.ofChange rayGoesWrong)

/-- 'polestarlaw09.RayMatrices': WHATEVER THE INPUT: true; the input reads as it did. -/
def rayMatricesSpec : ChangeSpec := { name := "rayMatrices", fn := fun _ => fun
  | [d1, d2] => { results := [.lit (.bool true)], args := [d1, d2] }
  | _ => none }
def rayMatricesRow : OpenClaim := { program := "ythncfchnkjemiaagreatdoor", sum := "c1ab9d4ebc849e73457e3f438818fd7d49118cc3eb10fe1d85421e4c9df4b747", func := "polestar/polestarlaw09.RayMatrices", spec := "rayMatrices", unfollowed := true, recurses := true, named := ["math/bits.overflowError", "internal/strconv.uint64pow10", "math/bits.deBruijn32tab", "math/bits.deBruijn64tab"], apart := false, laid := [("math/bits.deBruijn32tab", laid_math_bits_deBruijn32tab), ("math/bits.deBruijn64tab", laid_math_bits_deBruijn64tab), ("internal/strconv.uint64pow10", laid_internal_strconv_uint64pow10)] }
def RayMatricesSaid : Prop := rayMatricesRow.holds Tryz.pinned (OpenSpec.ofChange rayMatricesSpec)

/-- ITS FALSE NEIGHBOUR: 'it returns false'. Refute it at one input. -/
def rayMatricesWrong : ChangeSpec := { name := "rayMatrices", fn := fun _ => fun
  | [d1, d2] => { results := [.lit (.bool false)], args := [d1, d2] }
  | _ => none }
def RayMatricesWrongFalsely : Prop := rayMatricesRow.holds Tryz.pinned (OpenSpec.ofChange rayMatricesWrong)

/-- 'polestarlaw18.FilmDets': WHATEVER THE INPUT: true; the input reads as it did. -/
def filmDetsSpec : ChangeSpec := { name := "filmDets", fn := fun _ => fun
  | [d] => { results := [.lit (.bool true)], args := [d] }
  | _ => none }
def filmDetsRow : OpenClaim := { program := "ythncfchnkjemiaagreatdoor", sum := "c1ab9d4ebc849e73457e3f438818fd7d49118cc3eb10fe1d85421e4c9df4b747", func := "polestar/polestarlaw18.FilmDets", spec := "filmDets", unfollowed := true, recurses := true, named := ["math/bits.overflowError", "internal/strconv.uint64pow10", "math/bits.deBruijn32tab", "math/bits.deBruijn64tab"], apart := false, laid := [("math/bits.deBruijn32tab", laid_math_bits_deBruijn32tab), ("math/bits.deBruijn64tab", laid_math_bits_deBruijn64tab), ("internal/strconv.uint64pow10", laid_internal_strconv_uint64pow10)] }
def FilmDetsSaid : Prop := filmDetsRow.holds Tryz.pinned (OpenSpec.ofChange filmDetsSpec)

/-- ITS FALSE NEIGHBOUR: 'it returns false'. Refute it at one input. -/
def filmDetsWrong : ChangeSpec := { name := "filmDets", fn := fun _ => fun
  | [d] => { results := [.lit (.bool false)], args := [d] }
  | _ => none }
def FilmDetsWrongFalsely : Prop := filmDetsRow.holds Tryz.pinned (OpenSpec.ofChange filmDetsWrong)

/- THE SECOND FORM. 'bulk': how many values and letters a reading holds, each counted each time it is reached (what is shared counts as often as it is met; a slice's spare places count too). A statement '..UptoSaid' is the law's where the arguments, and the package variables that the reading takes, are together of bulk at most 1048576: NARROWER than '..Said'. Prove '..Said' where nothing that the law and all that it calls make is longer than what came in: it says more and counts as full. Else prove '..UptoSaid'. A law counts once. -/
mutual
def uptoBulk {H : Type} : DataW H → Nat
  | .lit (.string bytes) => bytes.length + 1
  | .lit _ => 1
  | .nil => 1
  | .ptr d => uptoBulk d + 1
  | .slice elems spare => uptoBulkAll elems + uptoBulkAll spare + 1
  | .agg parts => uptoBulkAll parts + 1
  | .iface _ d => uptoBulk d + 1
  | .map entries => uptoBulkEntries entries + 1
  | .held _ => 1
def uptoBulkAll {H : Type} : List (DataW H) → Nat
  | [] => 0
  | d :: r => uptoBulk d + uptoBulkAll r
def uptoBulkEntries {H : Type} : List (Lit × DataW H) → Nat
  | [] => 0
  | x :: r => uptoBulkEntry x + uptoBulkEntries r
def uptoBulkEntry {H : Type} : Lit × DataW H → Nat
  | (.string bytes, d) => bytes.length + uptoBulk d + 1
  | (_, d) => uptoBulk d + 1
 end
def uptoSmall : (H : Type) → List (DataW H) → Bool := fun _ ds => decide (uptoBulkAll ds ≤ 1048576)
def OpenSpec.upto (s : _root_.Go.ChangeSpec) : _root_.Go.OpenSpec := { _root_.Go.OpenSpec.ofChange s with cond := some uptoSmall }

/-- 'polestarlaw13.OrbitBounds', WHERE WHAT IT READS IS OF BULK AT MOST 1048576: true; the input reads as it did. -/
def orbitBoundsUptoRow : OpenClaim := { program := "ythncfchnkjemiaagreatdoor", sum := "c1ab9d4ebc849e73457e3f438818fd7d49118cc3eb10fe1d85421e4c9df4b747", func := "polestar/polestarlaw13.OrbitBounds", spec := "orbitBounds", unfollowed := true, recurses := true, named := ["math/bits.overflowError", "internal/strconv.uint64pow10", "math/bits.deBruijn32tab", "math/bits.deBruijn64tab"], apart := false, laid := [("math/bits.deBruijn32tab", laid_math_bits_deBruijn32tab), ("math/bits.deBruijn64tab", laid_math_bits_deBruijn64tab), ("internal/strconv.uint64pow10", laid_internal_strconv_uint64pow10)], narrowed := true }
def OrbitBoundsUptoSaid : Prop := orbitBoundsUptoRow.holds Tryz.pinned (OpenSpec.upto orbitBoundsSpec)

/-- 'polestarlaw11.ImageLies', WHERE WHAT IT READS IS OF BULK AT MOST 1048576: true; the input reads as it did. -/
def imageLiesUptoRow : OpenClaim := { program := "ythncfchnkjemiaagreatdoor", sum := "c1ab9d4ebc849e73457e3f438818fd7d49118cc3eb10fe1d85421e4c9df4b747", func := "polestar/polestarlaw11.ImageLies", spec := "imageLies", unfollowed := true, recurses := true, named := ["math/bits.overflowError", "internal/strconv.uint64pow10", "math/bits.deBruijn32tab", "math/bits.deBruijn64tab"], apart := false, laid := [("math/bits.deBruijn32tab", laid_math_bits_deBruijn32tab), ("math/bits.deBruijn64tab", laid_math_bits_deBruijn64tab), ("internal/strconv.uint64pow10", laid_internal_strconv_uint64pow10)], narrowed := true }
def ImageLiesUptoSaid : Prop := imageLiesUptoRow.holds Tryz.pinned (OpenSpec.upto imageLiesSpec)

/-- 'polestarlaw20.MatchPairs', WHERE WHAT IT READS IS OF BULK AT MOST 1048576: true; the input reads as it did. -/
def matchPairsUptoRow : OpenClaim := { program := "ythncfchnkjemiaagreatdoor", sum := "c1ab9d4ebc849e73457e3f438818fd7d49118cc3eb10fe1d85421e4c9df4b747", func := "polestar/polestarlaw20.MatchPairs", spec := "matchPairs", unfollowed := true, recurses := true, named := ["math/bits.overflowError", "internal/strconv.uint64pow10", "math/bits.deBruijn32tab", "math/bits.deBruijn64tab"], apart := false, laid := [("math/bits.deBruijn32tab", laid_math_bits_deBruijn32tab), ("math/bits.deBruijn64tab", laid_math_bits_deBruijn64tab), ("internal/strconv.uint64pow10", laid_internal_strconv_uint64pow10)], narrowed := true }
def MatchPairsUptoSaid : Prop := matchPairsUptoRow.holds Tryz.pinned (OpenSpec.upto matchPairsSpec)

/-- 'polestarlaw11.ImagePlanes', WHERE WHAT IT READS IS OF BULK AT MOST 1048576: true; the input reads as it did. -/
def imagePlanesUptoRow : OpenClaim := { program := "ythncfchnkjemiaagreatdoor", sum := "c1ab9d4ebc849e73457e3f438818fd7d49118cc3eb10fe1d85421e4c9df4b747", func := "polestar/polestarlaw11.ImagePlanes", spec := "imagePlanes", unfollowed := true, recurses := true, named := ["math/bits.overflowError", "internal/strconv.uint64pow10", "math/bits.deBruijn32tab", "math/bits.deBruijn64tab"], apart := false, laid := [("math/bits.deBruijn32tab", laid_math_bits_deBruijn32tab), ("math/bits.deBruijn64tab", laid_math_bits_deBruijn64tab), ("internal/strconv.uint64pow10", laid_internal_strconv_uint64pow10)], narrowed := true }
def ImagePlanesUptoSaid : Prop := imagePlanesUptoRow.holds Tryz.pinned (OpenSpec.upto imagePlanesSpec)

/-- 'polestarlaw12.CavityPairs', WHERE WHAT IT READS IS OF BULK AT MOST 1048576: true; the input reads as it did. -/
def cavityPairsUptoRow : OpenClaim := { program := "ythncfchnkjemiaagreatdoor", sum := "c1ab9d4ebc849e73457e3f438818fd7d49118cc3eb10fe1d85421e4c9df4b747", func := "polestar/polestarlaw12.CavityPairs", spec := "cavityPairs", unfollowed := true, recurses := true, named := ["math/bits.overflowError", "internal/strconv.uint64pow10", "math/bits.deBruijn32tab", "math/bits.deBruijn64tab"], apart := false, laid := [("math/bits.deBruijn32tab", laid_math_bits_deBruijn32tab), ("math/bits.deBruijn64tab", laid_math_bits_deBruijn64tab), ("internal/strconv.uint64pow10", laid_internal_strconv_uint64pow10)], narrowed := true }
def CavityPairsUptoSaid : Prop := cavityPairsUptoRow.holds Tryz.pinned (OpenSpec.upto cavityPairsSpec)

/-- 'polestarlaw09.RayGoes', WHERE WHAT IT READS IS OF BULK AT MOST 1048576: true; the input reads as it did. -/
def rayGoesUptoRow : OpenClaim := { program := "ythncfchnkjemiaagreatdoor", sum := "c1ab9d4ebc849e73457e3f438818fd7d49118cc3eb10fe1d85421e4c9df4b747", func := "polestar/polestarlaw09.RayGoes", spec := "rayGoes", unfollowed := true, recurses := true, named := ["math/bits.overflowError", "internal/strconv.uint64pow10", "math/bits.deBruijn32tab", "math/bits.deBruijn64tab"], apart := false, laid := [("math/bits.deBruijn32tab", laid_math_bits_deBruijn32tab), ("math/bits.deBruijn64tab", laid_math_bits_deBruijn64tab), ("internal/strconv.uint64pow10", laid_internal_strconv_uint64pow10)], narrowed := true }
def RayGoesUptoSaid : Prop := rayGoesUptoRow.holds Tryz.pinned (OpenSpec.upto rayGoesSpec)

/-- 'polestarlaw09.RayMatrices', WHERE WHAT IT READS IS OF BULK AT MOST 1048576: true; the input reads as it did. -/
def rayMatricesUptoRow : OpenClaim := { program := "ythncfchnkjemiaagreatdoor", sum := "c1ab9d4ebc849e73457e3f438818fd7d49118cc3eb10fe1d85421e4c9df4b747", func := "polestar/polestarlaw09.RayMatrices", spec := "rayMatrices", unfollowed := true, recurses := true, named := ["math/bits.overflowError", "internal/strconv.uint64pow10", "math/bits.deBruijn32tab", "math/bits.deBruijn64tab"], apart := false, laid := [("math/bits.deBruijn32tab", laid_math_bits_deBruijn32tab), ("math/bits.deBruijn64tab", laid_math_bits_deBruijn64tab), ("internal/strconv.uint64pow10", laid_internal_strconv_uint64pow10)], narrowed := true }
def RayMatricesUptoSaid : Prop := rayMatricesUptoRow.holds Tryz.pinned (OpenSpec.upto rayMatricesSpec)

/-- 'polestarlaw18.FilmDets', WHERE WHAT IT READS IS OF BULK AT MOST 1048576: true; the input reads as it did. -/
def filmDetsUptoRow : OpenClaim := { program := "ythncfchnkjemiaagreatdoor", sum := "c1ab9d4ebc849e73457e3f438818fd7d49118cc3eb10fe1d85421e4c9df4b747", func := "polestar/polestarlaw18.FilmDets", spec := "filmDets", unfollowed := true, recurses := true, named := ["math/bits.overflowError", "internal/strconv.uint64pow10", "math/bits.deBruijn32tab", "math/bits.deBruijn64tab"], apart := false, laid := [("math/bits.deBruijn32tab", laid_math_bits_deBruijn32tab), ("math/bits.deBruijn64tab", laid_math_bits_deBruijn64tab), ("internal/strconv.uint64pow10", laid_internal_strconv_uint64pow10)], narrowed := true }
def FilmDetsUptoSaid : Prop := filmDetsUptoRow.holds Tryz.pinned (OpenSpec.upto filmDetsSpec)

end Rows
end Go.Proofs.YthncfchnkjemiaaGreatDoor
