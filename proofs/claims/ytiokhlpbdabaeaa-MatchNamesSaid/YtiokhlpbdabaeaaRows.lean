/-
  No cell of these rows narrows 'for every input' (looked for: loops, veiled, ifaces, maps, wideKeys, modest, calm, conditions, laid).
  DERIVED. THE GIVEN ROWS OF THIS SEAT. 12 by the template 'for every input the law returns true; each argument reads behind the call as it read before'; 0 by the template 'total and deterministic' (their statements: YtiokhlpbdabaeaaTotals.lean).
  GIVEN WITH THE SEED: the statements are not yours to turn. If you find one false, say at which input.
  Laid BY PROGRAM, IN A SANDBOX (cutbox-rows.mjs): the forced cells as the released guide's own fill.sh prints them over the translation 95ca4e1cc07a393d… (all of the seat's roots in one cut). By AI agents, Wed Nov 11 2026. No macro, syntax, notation, axiom, sorry.
-/
import Derived.Test.YtiokhlpbdabaeaaChecked
import GoSem.Claim
import GoSem.ClaimJoined
import GoSem.ClaimMapViews
import Derived.JoinedTies
import Derived.KernelRfl
namespace Go.Proofs.Ytiokhlpbdabaeaa
/- THE CELL 'sum', in the pinned program and in every row, IS THE sha256 OF THE DUMP (.gsa) THAT YtiokhlpbdabaeaaProg.lean LOADS. Nothing in Lean hashes anything: it is a label: what it is worth is what the hold of that sum in a sandbox is worth. -/
noncomputable def Try.pinned : Pinned := { name := "ytiokhlpbdabaeaa", sum := "95ca4e1cc07a393d0c7ed78b8d6ebe491f8a845a3a859406149d2e176ea77dc7", checked := Try.checked }
namespace Rows
def none {H : Type} : Left H := { results := [], args := [] }

/-- 'polestarlaw20.MatchFirst': WHATEVER THE INPUT: true; the input reads as it did. -/
def matchFirstSpec : ChangeSpec := { name := "matchFirst", fn := fun _ => fun
  | [d1, d2] => { results := [.lit (.bool true)], args := [d1, d2] }
  | _ => none }
def matchFirstRow : OpenClaim := { program := "ytiokhlpbdabaeaa", sum := "95ca4e1cc07a393d0c7ed78b8d6ebe491f8a845a3a859406149d2e176ea77dc7", func := "polestar/polestarlaw20.MatchFirst", spec := "matchFirst", unfollowed := true, recurses := true, named := ["math/bits.overflowError"], apart := false }
def MatchFirstSaid : Prop := matchFirstRow.holds Try.pinned (OpenSpec.ofChange matchFirstSpec)

/-- ITS FALSE NEIGHBOUR: 'it returns false'. Refute it at one input. -/
def matchFirstWrong : ChangeSpec := { name := "matchFirst", fn := fun _ => fun
  | [d1, d2] => { results := [.lit (.bool false)], args := [d1, d2] }
  | _ => none }
def MatchFirstWrongFalsely : Prop := matchFirstRow.holds Try.pinned (OpenSpec.ofChange matchFirstWrong)

/-- 'polestarlaw11.ImageNames': WHATEVER THE INPUT: true; the input reads as it did. -/
def imageNamesSpec : ChangeSpec := { name := "imageNames", fn := fun _ => fun
  | [] => { results := [.lit (.bool true)], args := [] }
  | _ => none }
def imageNamesRow : OpenClaim := { program := "ytiokhlpbdabaeaa", sum := "95ca4e1cc07a393d0c7ed78b8d6ebe491f8a845a3a859406149d2e176ea77dc7", func := "polestar/polestarlaw11.ImageNames", spec := "imageNames", unfollowed := true, recurses := true, named := ["math/bits.overflowError"], apart := false }
def ImageNamesSaid : Prop := imageNamesRow.holds Try.pinned (OpenSpec.ofChange imageNamesSpec)

/-- ITS FALSE NEIGHBOUR: 'it returns false'. Refute it at one input. -/
def imageNamesWrong : ChangeSpec := { name := "imageNames", fn := fun _ => fun
  | [] => { results := [.lit (.bool false)], args := [] }
  | _ => none }
def ImageNamesWrongFalsely : Prop := imageNamesRow.holds Try.pinned (OpenSpec.ofChange imageNamesWrong)

/-- 'polestarlaw09.RayGroup': WHATEVER THE INPUT: true; the input reads as it did. -/
def rayGroupSpec : ChangeSpec := { name := "rayGroup", fn := fun _ => fun
  | [d1, d2, d3] => { results := [.lit (.bool true)], args := [d1, d2, d3] }
  | _ => none }
def rayGroupRow : OpenClaim := { program := "ytiokhlpbdabaeaa", sum := "95ca4e1cc07a393d0c7ed78b8d6ebe491f8a845a3a859406149d2e176ea77dc7", func := "polestar/polestarlaw09.RayGroup", spec := "rayGroup", unfollowed := true, recurses := true, named := ["math/bits.overflowError"], apart := false }
def RayGroupSaid : Prop := rayGroupRow.holds Try.pinned (OpenSpec.ofChange rayGroupSpec)

/-- ITS FALSE NEIGHBOUR: 'it returns false'. Refute it at one input. -/
def rayGroupWrong : ChangeSpec := { name := "rayGroup", fn := fun _ => fun
  | [d1, d2, d3] => { results := [.lit (.bool false)], args := [d1, d2, d3] }
  | _ => none }
def RayGroupWrongFalsely : Prop := rayGroupRow.holds Try.pinned (OpenSpec.ofChange rayGroupWrong)

/-- 'polestarlaw20.MatchNames': WHATEVER THE INPUT: true; the input reads as it did. -/
def matchNamesSpec : ChangeSpec := { name := "matchNames", fn := fun _ => fun
  | [] => { results := [.lit (.bool true)], args := [] }
  | _ => none }
def matchNamesRow : OpenClaim := { program := "ytiokhlpbdabaeaa", sum := "95ca4e1cc07a393d0c7ed78b8d6ebe491f8a845a3a859406149d2e176ea77dc7", func := "polestar/polestarlaw20.MatchNames", spec := "matchNames", unfollowed := true, recurses := true, named := ["math/bits.overflowError"], apart := false }
def MatchNamesSaid : Prop := matchNamesRow.holds Try.pinned (OpenSpec.ofChange matchNamesSpec)

/-- ITS FALSE NEIGHBOUR: 'it returns false'. Refute it at one input. -/
def matchNamesWrong : ChangeSpec := { name := "matchNames", fn := fun _ => fun
  | [] => { results := [.lit (.bool false)], args := [] }
  | _ => none }
def MatchNamesWrongFalsely : Prop := matchNamesRow.holds Try.pinned (OpenSpec.ofChange matchNamesWrong)

/-- 'polestarlaw09.RaySquare': WHATEVER THE INPUT: true; the input reads as it did. -/
def raySquareSpec : ChangeSpec := { name := "raySquare", fn := fun _ => fun
  | [d1, d2] => { results := [.lit (.bool true)], args := [d1, d2] }
  | _ => none }
def raySquareRow : OpenClaim := { program := "ytiokhlpbdabaeaa", sum := "95ca4e1cc07a393d0c7ed78b8d6ebe491f8a845a3a859406149d2e176ea77dc7", func := "polestar/polestarlaw09.RaySquare", spec := "raySquare", unfollowed := true, recurses := true, named := ["math/bits.overflowError"], apart := false }
def RaySquareSaid : Prop := raySquareRow.holds Try.pinned (OpenSpec.ofChange raySquareSpec)

/-- ITS FALSE NEIGHBOUR: 'it returns false'. Refute it at one input. -/
def raySquareWrong : ChangeSpec := { name := "raySquare", fn := fun _ => fun
  | [d1, d2] => { results := [.lit (.bool false)], args := [d1, d2] }
  | _ => none }
def RaySquareWrongFalsely : Prop := raySquareRow.holds Try.pinned (OpenSpec.ofChange raySquareWrong)

/-- 'polestarlaw20.MatchWays': WHATEVER THE INPUT: true; the input reads as it did. -/
def matchWaysSpec : ChangeSpec := { name := "matchWays", fn := fun _ => fun
  | [d1, d2, d3] => { results := [.lit (.bool true)], args := [d1, d2, d3] }
  | _ => none }
def matchWaysRow : OpenClaim := { program := "ytiokhlpbdabaeaa", sum := "95ca4e1cc07a393d0c7ed78b8d6ebe491f8a845a3a859406149d2e176ea77dc7", func := "polestar/polestarlaw20.MatchWays", spec := "matchWays", unfollowed := true, recurses := true, named := ["math/bits.overflowError"], apart := false }
def MatchWaysSaid : Prop := matchWaysRow.holds Try.pinned (OpenSpec.ofChange matchWaysSpec)

/-- ITS FALSE NEIGHBOUR: 'it returns false'. Refute it at one input. -/
def matchWaysWrong : ChangeSpec := { name := "matchWays", fn := fun _ => fun
  | [d1, d2, d3] => { results := [.lit (.bool false)], args := [d1, d2, d3] }
  | _ => none }
def MatchWaysWrongFalsely : Prop := matchWaysRow.holds Try.pinned (OpenSpec.ofChange matchWaysWrong)

/-- 'polestarlaw11.ImageSharp': WHATEVER THE INPUT: true; the input reads as it did. -/
def imageSharpSpec : ChangeSpec := { name := "imageSharp", fn := fun _ => fun
  | [d1, d2] => { results := [.lit (.bool true)], args := [d1, d2] }
  | _ => none }
def imageSharpRow : OpenClaim := { program := "ytiokhlpbdabaeaa", sum := "95ca4e1cc07a393d0c7ed78b8d6ebe491f8a845a3a859406149d2e176ea77dc7", func := "polestar/polestarlaw11.ImageSharp", spec := "imageSharp", unfollowed := true, recurses := true, named := ["math/bits.overflowError"], apart := false }
def ImageSharpSaid : Prop := imageSharpRow.holds Try.pinned (OpenSpec.ofChange imageSharpSpec)

/-- ITS FALSE NEIGHBOUR: 'it returns false'. Refute it at one input. -/
def imageSharpWrong : ChangeSpec := { name := "imageSharp", fn := fun _ => fun
  | [d1, d2] => { results := [.lit (.bool false)], args := [d1, d2] }
  | _ => none }
def ImageSharpWrongFalsely : Prop := imageSharpRow.holds Try.pinned (OpenSpec.ofChange imageSharpWrong)

/-- 'polestarlaw09.RayKeeps': WHATEVER THE INPUT: true; the input reads as it did. -/
def rayKeepsSpec : ChangeSpec := { name := "rayKeeps", fn := fun _ => fun
  | [d1, d2] => { results := [.lit (.bool true)], args := [d1, d2] }
  | _ => none }
def rayKeepsRow : OpenClaim := { program := "ytiokhlpbdabaeaa", sum := "95ca4e1cc07a393d0c7ed78b8d6ebe491f8a845a3a859406149d2e176ea77dc7", func := "polestar/polestarlaw09.RayKeeps", spec := "rayKeeps", unfollowed := true, recurses := true, named := ["math/bits.overflowError"], apart := false }
def RayKeepsSaid : Prop := rayKeepsRow.holds Try.pinned (OpenSpec.ofChange rayKeepsSpec)

/-- ITS FALSE NEIGHBOUR: 'it returns false'. Refute it at one input. -/
def rayKeepsWrong : ChangeSpec := { name := "rayKeeps", fn := fun _ => fun
  | [d1, d2] => { results := [.lit (.bool false)], args := [d1, d2] }
  | _ => none }
def RayKeepsWrongFalsely : Prop := rayKeepsRow.holds Try.pinned (OpenSpec.ofChange rayKeepsWrong)

/-- 'polestarlaw11.ImageStop': WHATEVER THE INPUT: true; the input reads as it did. -/
def imageStopSpec : ChangeSpec := { name := "imageStop", fn := fun _ => fun
  | [d1, d2] => { results := [.lit (.bool true)], args := [d1, d2] }
  | _ => none }
def imageStopRow : OpenClaim := { program := "ytiokhlpbdabaeaa", sum := "95ca4e1cc07a393d0c7ed78b8d6ebe491f8a845a3a859406149d2e176ea77dc7", func := "polestar/polestarlaw11.ImageStop", spec := "imageStop", unfollowed := true, recurses := true, named := ["math/bits.overflowError"], apart := false }
def ImageStopSaid : Prop := imageStopRow.holds Try.pinned (OpenSpec.ofChange imageStopSpec)

/-- ITS FALSE NEIGHBOUR: 'it returns false'. Refute it at one input. -/
def imageStopWrong : ChangeSpec := { name := "imageStop", fn := fun _ => fun
  | [d1, d2] => { results := [.lit (.bool false)], args := [d1, d2] }
  | _ => none }
def ImageStopWrongFalsely : Prop := imageStopRow.holds Try.pinned (OpenSpec.ofChange imageStopWrong)

/-- 'polestarlaw11.ImageLens': WHATEVER THE INPUT: true; the input reads as it did. -/
def imageLensSpec : ChangeSpec := { name := "imageLens", fn := fun _ => fun
  | [d] => { results := [.lit (.bool true)], args := [d] }
  | _ => none }
def imageLensRow : OpenClaim := { program := "ytiokhlpbdabaeaa", sum := "95ca4e1cc07a393d0c7ed78b8d6ebe491f8a845a3a859406149d2e176ea77dc7", func := "polestar/polestarlaw11.ImageLens", spec := "imageLens", unfollowed := true, recurses := true, named := ["math/bits.overflowError"], apart := false }
def ImageLensSaid : Prop := imageLensRow.holds Try.pinned (OpenSpec.ofChange imageLensSpec)

/-- ITS FALSE NEIGHBOUR: 'it returns false'. Refute it at one input. -/
def imageLensWrong : ChangeSpec := { name := "imageLens", fn := fun _ => fun
  | [d] => { results := [.lit (.bool false)], args := [d] }
  | _ => none }
def ImageLensWrongFalsely : Prop := imageLensRow.holds Try.pinned (OpenSpec.ofChange imageLensWrong)

/-- 'polestarlaw20.MatchTold': WHATEVER THE INPUT: true; the input reads as it did. -/
def matchToldSpec : ChangeSpec := { name := "matchTold", fn := fun _ => fun
  | [d1, d2] => { results := [.lit (.bool true)], args := [d1, d2] }
  | _ => none }
def matchToldRow : OpenClaim := { program := "ytiokhlpbdabaeaa", sum := "95ca4e1cc07a393d0c7ed78b8d6ebe491f8a845a3a859406149d2e176ea77dc7", func := "polestar/polestarlaw20.MatchTold", spec := "matchTold", unfollowed := true, recurses := true, named := ["math/bits.overflowError"], apart := false }
def MatchToldSaid : Prop := matchToldRow.holds Try.pinned (OpenSpec.ofChange matchToldSpec)

/-- ITS FALSE NEIGHBOUR: 'it returns false'. Refute it at one input. -/
def matchToldWrong : ChangeSpec := { name := "matchTold", fn := fun _ => fun
  | [d1, d2] => { results := [.lit (.bool false)], args := [d1, d2] }
  | _ => none }
def MatchToldWrongFalsely : Prop := matchToldRow.holds Try.pinned (OpenSpec.ofChange matchToldWrong)

/-- 'polestarlaw20.MatchMakes': WHATEVER THE INPUT: true; the input reads as it did. -/
def matchMakesSpec : ChangeSpec := { name := "matchMakes", fn := fun _ => fun
  | [d1, d2, d3] => { results := [.lit (.bool true)], args := [d1, d2, d3] }
  | _ => none }
def matchMakesRow : OpenClaim := { program := "ytiokhlpbdabaeaa", sum := "95ca4e1cc07a393d0c7ed78b8d6ebe491f8a845a3a859406149d2e176ea77dc7", func := "polestar/polestarlaw20.MatchMakes", spec := "matchMakes", unfollowed := true, recurses := true, named := ["math/bits.overflowError"], apart := false }
def MatchMakesSaid : Prop := matchMakesRow.holds Try.pinned (OpenSpec.ofChange matchMakesSpec)

/-- ITS FALSE NEIGHBOUR: 'it returns false'. Refute it at one input. -/
def matchMakesWrong : ChangeSpec := { name := "matchMakes", fn := fun _ => fun
  | [d1, d2, d3] => { results := [.lit (.bool false)], args := [d1, d2, d3] }
  | _ => none }
def MatchMakesWrongFalsely : Prop := matchMakesRow.holds Try.pinned (OpenSpec.ofChange matchMakesWrong)

/- THE SECOND FORM. 'bulk': how many values and letters a reading holds, each counted each time it is reached (what is shared counts as often as it is met; a slice's spare places count too). A statement '..UptoSaid' is the law's where the arguments, and the package variables that the reading takes, are together of bulk at most 1048576: NARROWER than '..Said'. Prove '..Said' where nothing that the law and all that it calls make is longer than what came in: it says more and counts as full. Else prove '..UptoSaid'. A law counts once. -/
mutual
def uptoBulk {H : Type} : DataW H → Nat
  | .lit (.string bytes) => bytes.length + 1
  | .lit _ => 1
  | .nil => 1
  | .ptr d => uptoBulk d + 1
  | .slice elems spare => uptoBulkAll elems + uptoBulkAll spare + 1
  | .agg parts => uptoBulkAll parts + 1
  | .iface _ d => uptoBulk d + 1
  | .map entries => uptoBulkEntries entries + 1
  | .held _ => 1
def uptoBulkAll {H : Type} : List (DataW H) → Nat
  | [] => 0
  | d :: r => uptoBulk d + uptoBulkAll r
def uptoBulkEntries {H : Type} : List (Lit × DataW H) → Nat
  | [] => 0
  | x :: r => uptoBulkEntry x + uptoBulkEntries r
def uptoBulkEntry {H : Type} : Lit × DataW H → Nat
  | (.string bytes, d) => bytes.length + uptoBulk d + 1
  | (_, d) => uptoBulk d + 1
 end
def uptoSmall : (H : Type) → List (DataW H) → Bool := fun _ ds => decide (uptoBulkAll ds ≤ 1048576)
def OpenSpec.upto (s : _root_.Go.ChangeSpec) : _root_.Go.OpenSpec := { _root_.Go.OpenSpec.ofChange s with cond := some uptoSmall }

/-- 'polestarlaw20.MatchFirst', WHERE WHAT IT READS IS OF BULK AT MOST 1048576: true; the input reads as it did. -/
def matchFirstUptoRow : OpenClaim := { program := "ytiokhlpbdabaeaa", sum := "95ca4e1cc07a393d0c7ed78b8d6ebe491f8a845a3a859406149d2e176ea77dc7", func := "polestar/polestarlaw20.MatchFirst", spec := "matchFirst", unfollowed := true, recurses := true, named := ["math/bits.overflowError"], apart := false, narrowed := true }
def MatchFirstUptoSaid : Prop := matchFirstUptoRow.holds Try.pinned (OpenSpec.upto matchFirstSpec)

/-- 'polestarlaw11.ImageNames', WHERE WHAT IT READS IS OF BULK AT MOST 1048576: true; the input reads as it did. -/
def imageNamesUptoRow : OpenClaim := { program := "ytiokhlpbdabaeaa", sum := "95ca4e1cc07a393d0c7ed78b8d6ebe491f8a845a3a859406149d2e176ea77dc7", func := "polestar/polestarlaw11.ImageNames", spec := "imageNames", unfollowed := true, recurses := true, named := ["math/bits.overflowError"], apart := false, narrowed := true }
def ImageNamesUptoSaid : Prop := imageNamesUptoRow.holds Try.pinned (OpenSpec.upto imageNamesSpec)

/-- 'polestarlaw09.RayGroup', WHERE WHAT IT READS IS OF BULK AT MOST 1048576: true; the input reads as it did. -/
def rayGroupUptoRow : OpenClaim := { program := "ytiokhlpbdabaeaa", sum := "95ca4e1cc07a393d0c7ed78b8d6ebe491f8a845a3a859406149d2e176ea77dc7", func := "polestar/polestarlaw09.RayGroup", spec := "rayGroup", unfollowed := true, recurses := true, named := ["math/bits.overflowError"], apart := false, narrowed := true }
def RayGroupUptoSaid : Prop := rayGroupUptoRow.holds Try.pinned (OpenSpec.upto rayGroupSpec)

/-- 'polestarlaw20.MatchNames', WHERE WHAT IT READS IS OF BULK AT MOST 1048576: true; the input reads as it did. -/
def matchNamesUptoRow : OpenClaim := { program := "ytiokhlpbdabaeaa", sum := "95ca4e1cc07a393d0c7ed78b8d6ebe491f8a845a3a859406149d2e176ea77dc7", func := "polestar/polestarlaw20.MatchNames", spec := "matchNames", unfollowed := true, recurses := true, named := ["math/bits.overflowError"], apart := false, narrowed := true }
def MatchNamesUptoSaid : Prop := matchNamesUptoRow.holds Try.pinned (OpenSpec.upto matchNamesSpec)

/-- 'polestarlaw09.RaySquare', WHERE WHAT IT READS IS OF BULK AT MOST 1048576: true; the input reads as it did. -/
def raySquareUptoRow : OpenClaim := { program := "ytiokhlpbdabaeaa", sum := "95ca4e1cc07a393d0c7ed78b8d6ebe491f8a845a3a859406149d2e176ea77dc7", func := "polestar/polestarlaw09.RaySquare", spec := "raySquare", unfollowed := true, recurses := true, named := ["math/bits.overflowError"], apart := false, narrowed := true }
def RaySquareUptoSaid : Prop := raySquareUptoRow.holds Try.pinned (OpenSpec.upto raySquareSpec)

/-- 'polestarlaw20.MatchWays', WHERE WHAT IT READS IS OF BULK AT MOST 1048576: true; the input reads as it did. -/
def matchWaysUptoRow : OpenClaim := { program := "ytiokhlpbdabaeaa", sum := "95ca4e1cc07a393d0c7ed78b8d6ebe491f8a845a3a859406149d2e176ea77dc7", func := "polestar/polestarlaw20.MatchWays", spec := "matchWays", unfollowed := true, recurses := true, named := ["math/bits.overflowError"], apart := false, narrowed := true }
def MatchWaysUptoSaid : Prop := matchWaysUptoRow.holds Try.pinned (OpenSpec.upto matchWaysSpec)

/-- 'polestarlaw11.ImageSharp', WHERE WHAT IT READS IS OF BULK AT MOST 1048576: true; the input reads as it did. -/
def imageSharpUptoRow : OpenClaim := { program := "ytiokhlpbdabaeaa", sum := "95ca4e1cc07a393d0c7ed78b8d6ebe491f8a845a3a859406149d2e176ea77dc7", func := "polestar/polestarlaw11.ImageSharp", spec := "imageSharp", unfollowed := true, recurses := true, named := ["math/bits.overflowError"], apart := false, narrowed := true }
def ImageSharpUptoSaid : Prop := imageSharpUptoRow.holds Try.pinned (OpenSpec.upto imageSharpSpec)

/-- 'polestarlaw09.RayKeeps', WHERE WHAT IT READS IS OF BULK AT MOST 1048576: true; the input reads as it did. -/
def rayKeepsUptoRow : OpenClaim := { program := "ytiokhlpbdabaeaa", sum := "95ca4e1cc07a393d0c7ed78b8d6ebe491f8a845a3a859406149d2e176ea77dc7", func := "polestar/polestarlaw09.RayKeeps", spec := "rayKeeps", unfollowed := true, recurses := true, named := ["math/bits.overflowError"], apart := false, narrowed := true }
def RayKeepsUptoSaid : Prop := rayKeepsUptoRow.holds Try.pinned (OpenSpec.upto rayKeepsSpec)

/-- 'polestarlaw11.ImageStop', WHERE WHAT IT READS IS OF BULK AT MOST 1048576: true; the input reads as it did. -/
def imageStopUptoRow : OpenClaim := { program := "ytiokhlpbdabaeaa", sum := "95ca4e1cc07a393d0c7ed78b8d6ebe491f8a845a3a859406149d2e176ea77dc7", func := "polestar/polestarlaw11.ImageStop", spec := "imageStop", unfollowed := true, recurses := true, named := ["math/bits.overflowError"], apart := false, narrowed := true }
def ImageStopUptoSaid : Prop := imageStopUptoRow.holds Try.pinned (OpenSpec.upto imageStopSpec)

/-- 'polestarlaw11.ImageLens', WHERE WHAT IT READS IS OF BULK AT MOST 1048576: true; the input reads as it did. -/
def imageLensUptoRow : OpenClaim := { program := "ytiokhlpbdabaeaa", sum := "95ca4e1cc07a393d0c7ed78b8d6ebe491f8a845a3a859406149d2e176ea77dc7", func := "polestar/polestarlaw11.ImageLens", spec := "imageLens", unfollowed := true, recurses := true, named := ["math/bits.overflowError"], apart := false, narrowed := true }
def ImageLensUptoSaid : Prop := imageLensUptoRow.holds Try.pinned (OpenSpec.upto imageLensSpec)

/-- 'polestarlaw20.MatchTold', WHERE WHAT IT READS IS OF BULK AT MOST 1048576: true; the input reads as it did. -/
def matchToldUptoRow : OpenClaim := { program := "ytiokhlpbdabaeaa", sum := "95ca4e1cc07a393d0c7ed78b8d6ebe491f8a845a3a859406149d2e176ea77dc7", func := "polestar/polestarlaw20.MatchTold", spec := "matchTold", unfollowed := true, recurses := true, named := ["math/bits.overflowError"], apart := false, narrowed := true }
def MatchToldUptoSaid : Prop := matchToldUptoRow.holds Try.pinned (OpenSpec.upto matchToldSpec)

/-- 'polestarlaw20.MatchMakes', WHERE WHAT IT READS IS OF BULK AT MOST 1048576: true; the input reads as it did. -/
def matchMakesUptoRow : OpenClaim := { program := "ytiokhlpbdabaeaa", sum := "95ca4e1cc07a393d0c7ed78b8d6ebe491f8a845a3a859406149d2e176ea77dc7", func := "polestar/polestarlaw20.MatchMakes", spec := "matchMakes", unfollowed := true, recurses := true, named := ["math/bits.overflowError"], apart := false, narrowed := true }
def MatchMakesUptoSaid : Prop := matchMakesUptoRow.holds Try.pinned (OpenSpec.upto matchMakesSpec)

end Rows
end Go.Proofs.Ytiokhlpbdabaeaa
