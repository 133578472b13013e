/-
  No cell of these rows narrows 'for every input' (looked for: loops, veiled, ifaces, maps, wideKeys, modest, calm, conditions, laid).
  DERIVED. THE GIVEN ROWS OF THIS SEAT. 4 by the template 'for every input the law returns true; each argument reads behind the call as it read before'; 0 by the template 'total and deterministic' (their statements: YtlpppkkggljdcaaGreatTotals.lean).
  GIVEN WITH THE SEED: the statements are not yours to turn. If you find one false, say at which input.
  Laid BY PROGRAM, IN A SANDBOX (cutbox-rows.mjs): the forced cells as the released guide's own fill.sh prints them over the translation 0368c47c97f2d3c5… (all of the seat's roots in one cut). By AI agents, Wed Nov 11 2026. No macro, syntax, notation, axiom, sorry.
-/
import Derived.Test.YtlpppkkggljdcaaGreatChecked
import GoSem.Claim
import GoSem.ClaimJoined
import GoSem.ClaimMapViews
import Derived.JoinedTies
import Derived.KernelRfl
namespace Go.Proofs.YtlpppkkggljdcaaGreat
/- THE CELL 'sum', in the pinned program and in every row, IS THE sha256 OF THE DUMP (.gsa) THAT YtlpppkkggljdcaaGreatProg.lean LOADS. Nothing in Lean hashes anything: it is a label: what it is worth is what the hold of that sum in a sandbox is worth. -/
noncomputable def Tryz.pinned : Pinned := { name := "ytlpppkkggljdcaagreat", sum := "0368c47c97f2d3c5eb01254ec06c61f275be0e897423ad52725959b390a4143a", checked := Tryz.checked }
namespace Rows
def none {H : Type} : Left H := { results := [], args := [] }

/-- 'polestarlaw24.TolerChecks': WHATEVER THE INPUT: true; the input reads as it did. -/
def tolerChecksSpec : ChangeSpec := { name := "tolerChecks", fn := fun _ => fun
  | [d] => { results := [.lit (.bool true)], args := [d] }
  | _ => none }
def tolerChecksRow : OpenClaim := { program := "ytlpppkkggljdcaagreat", sum := "0368c47c97f2d3c5eb01254ec06c61f275be0e897423ad52725959b390a4143a", func := "polestar/polestarlaw24.TolerChecks", spec := "tolerChecks", unfollowed := true, recurses := true, named := ["math/bits.overflowError"], apart := false }
def TolerChecksSaid : Prop := tolerChecksRow.holds Tryz.pinned (OpenSpec.ofChange tolerChecksSpec)

/-- ITS FALSE NEIGHBOUR: 'it returns false'. Refute it at one input. -/
def tolerChecksWrong : ChangeSpec := { name := "tolerChecks", fn := fun _ => fun
  | [d] => { results := [.lit (.bool false)], args := [d] }
  | _ => none }
def TolerChecksWrongFalsely : Prop := tolerChecksRow.holds Tryz.pinned (OpenSpec.ofChange tolerChecksWrong)

/-- 'polestarlaw24.TolerNarrow': WHATEVER THE INPUT: true; the input reads as it did. -/
def tolerNarrowSpec : ChangeSpec := { name := "tolerNarrow", fn := fun _ => fun
  | [d1, d2] => { results := [.lit (.bool true)], args := [d1, d2] }
  | _ => none }
def tolerNarrowRow : OpenClaim := { program := "ytlpppkkggljdcaagreat", sum := "0368c47c97f2d3c5eb01254ec06c61f275be0e897423ad52725959b390a4143a", func := "polestar/polestarlaw24.TolerNarrow", spec := "tolerNarrow", unfollowed := true, recurses := true, named := ["math/bits.overflowError"], apart := false }
def TolerNarrowSaid : Prop := tolerNarrowRow.holds Tryz.pinned (OpenSpec.ofChange tolerNarrowSpec)

/-- ITS FALSE NEIGHBOUR: 'it returns false'. Refute it at one input. -/
def tolerNarrowWrong : ChangeSpec := { name := "tolerNarrow", fn := fun _ => fun
  | [d1, d2] => { results := [.lit (.bool false)], args := [d1, d2] }
  | _ => none }
def TolerNarrowWrongFalsely : Prop := tolerNarrowRow.holds Tryz.pinned (OpenSpec.ofChange tolerNarrowWrong)

/-- 'polestarlaw24.TolerWorst': WHATEVER THE INPUT: true; the input reads as it did. -/
def tolerWorstSpec : ChangeSpec := { name := "tolerWorst", fn := fun _ => fun
  | [d] => { results := [.lit (.bool true)], args := [d] }
  | _ => none }
def tolerWorstRow : OpenClaim := { program := "ytlpppkkggljdcaagreat", sum := "0368c47c97f2d3c5eb01254ec06c61f275be0e897423ad52725959b390a4143a", func := "polestar/polestarlaw24.TolerWorst", spec := "tolerWorst", unfollowed := true, recurses := true, named := ["math/bits.overflowError"], apart := false }
def TolerWorstSaid : Prop := tolerWorstRow.holds Tryz.pinned (OpenSpec.ofChange tolerWorstSpec)

/-- ITS FALSE NEIGHBOUR: 'it returns false'. Refute it at one input. -/
def tolerWorstWrong : ChangeSpec := { name := "tolerWorst", fn := fun _ => fun
  | [d] => { results := [.lit (.bool false)], args := [d] }
  | _ => none }
def TolerWorstWrongFalsely : Prop := tolerWorstRow.holds Tryz.pinned (OpenSpec.ofChange tolerWorstWrong)

/-- 'polestarlaw24.TolerWithin': WHATEVER THE INPUT: true; the input reads as it did. -/
def tolerWithinSpec : ChangeSpec := { name := "tolerWithin", fn := fun _ => fun
  | [d1, d2] => { results := [.lit (.bool true)], args := [d1, d2] }
  | _ => none }
def tolerWithinRow : OpenClaim := { program := "ytlpppkkggljdcaagreat", sum := "0368c47c97f2d3c5eb01254ec06c61f275be0e897423ad52725959b390a4143a", func := "polestar/polestarlaw24.TolerWithin", spec := "tolerWithin", unfollowed := true, recurses := true, named := ["math/bits.overflowError"], apart := false }
def TolerWithinSaid : Prop := tolerWithinRow.holds Tryz.pinned (OpenSpec.ofChange tolerWithinSpec)

/-- ITS FALSE NEIGHBOUR: 'it returns false'. Refute it at one input. -/
def tolerWithinWrong : ChangeSpec := { name := "tolerWithin", fn := fun _ => fun
  | [d1, d2] => { results := [.lit (.bool false)], args := [d1, d2] }
  | _ => none }
def TolerWithinWrongFalsely : Prop := tolerWithinRow.holds Tryz.pinned (OpenSpec.ofChange tolerWithinWrong)

/- THE SECOND FORM. 'bulk': how many values and letters a reading holds, each counted each time it is reached (what is shared counts as often as it is met; a slice's spare places count too). A statement '..UptoSaid' is the law's where the arguments, and the package variables that the reading takes, are together of bulk at most 1048576: NARROWER than '..Said'. Prove '..Said' where nothing that the law and all that it calls make is longer than what came in: it says more and counts as full. Else prove '..UptoSaid'. A law counts once. -/
mutual
def uptoBulk {H : Type} : DataW H → Nat
  | .lit (.string bytes) => bytes.length + 1
  | .lit _ => 1
  | .nil => 1
  | .ptr d => uptoBulk d + 1
  | .slice elems spare => uptoBulkAll elems + uptoBulkAll spare + 1
  | .agg parts => uptoBulkAll parts + 1
  | .iface _ d => uptoBulk d + 1
  | .map entries => uptoBulkEntries entries + 1
  | .held _ => 1
def uptoBulkAll {H : Type} : List (DataW H) → Nat
  | [] => 0
  | d :: r => uptoBulk d + uptoBulkAll r
def uptoBulkEntries {H : Type} : List (Lit × DataW H) → Nat
  | [] => 0
  | x :: r => uptoBulkEntry x + uptoBulkEntries r
def uptoBulkEntry {H : Type} : Lit × DataW H → Nat
  | (.string bytes, d) => bytes.length + uptoBulk d + 1
  | (_, d) => uptoBulk d + 1
 end
def uptoSmall : (H : Type) → List (DataW H) → Bool := fun _ ds => decide (uptoBulkAll ds ≤ 1048576)
def OpenSpec.upto (s : _root_.Go.ChangeSpec) : _root_.Go.OpenSpec := { _root_.Go.OpenSpec.ofChange s with cond := some uptoSmall }

/-- 'polestarlaw24.TolerChecks', WHERE WHAT IT READS IS OF BULK AT MOST 1048576: true; the input reads as it did. -/
def tolerChecksUptoRow : OpenClaim := { program := "ytlpppkkggljdcaagreat", sum := "0368c47c97f2d3c5eb01254ec06c61f275be0e897423ad52725959b390a4143a", func := "polestar/polestarlaw24.TolerChecks", spec := "tolerChecks", unfollowed := true, recurses := true, named := ["math/bits.overflowError"], apart := false, narrowed := true }
def TolerChecksUptoSaid : Prop := tolerChecksUptoRow.holds Tryz.pinned (OpenSpec.upto tolerChecksSpec)

/-- 'polestarlaw24.TolerNarrow', WHERE WHAT IT READS IS OF BULK AT MOST 1048576: true; the input reads as it did. -/
def tolerNarrowUptoRow : OpenClaim := { program := "ytlpppkkggljdcaagreat", sum := "0368c47c97f2d3c5eb01254ec06c61f275be0e897423ad52725959b390a4143a", func := "polestar/polestarlaw24.TolerNarrow", spec := "tolerNarrow", unfollowed := true, recurses := true, named := ["math/bits.overflowError"], apart := false, narrowed := true }
def TolerNarrowUptoSaid : Prop := tolerNarrowUptoRow.holds Tryz.pinned (OpenSpec.upto tolerNarrowSpec)

/-- 'polestarlaw24.TolerWorst', WHERE WHAT IT READS IS OF BULK AT MOST 1048576: true; the input reads as it did. -/
def tolerWorstUptoRow : OpenClaim := { program := "ytlpppkkggljdcaagreat", sum := "0368c47c97f2d3c5eb01254ec06c61f275be0e897423ad52725959b390a4143a", func := "polestar/polestarlaw24.TolerWorst", spec := "tolerWorst", unfollowed := true, recurses := true, named := ["math/bits.overflowError"], apart := false, narrowed := true }
def TolerWorstUptoSaid : Prop := tolerWorstUptoRow.holds Tryz.pinned (OpenSpec.upto tolerWorstSpec)

/-- 'polestarlaw24.TolerWithin', WHERE WHAT IT READS IS OF BULK AT MOST 1048576: true; the input reads as it did. -/
def tolerWithinUptoRow : OpenClaim := { program := "ytlpppkkggljdcaagreat", sum := "0368c47c97f2d3c5eb01254ec06c61f275be0e897423ad52725959b390a4143a", func := "polestar/polestarlaw24.TolerWithin", spec := "tolerWithin", unfollowed := true, recurses := true, named := ["math/bits.overflowError"], apart := false, narrowed := true }
def TolerWithinUptoSaid : Prop := tolerWithinUptoRow.holds Tryz.pinned (OpenSpec.upto tolerWithinSpec)

end Rows
end Go.Proofs.YtlpppkkggljdcaaGreat
