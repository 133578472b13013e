/-
  No cell of these rows narrows 'for every input' (looked for: loops, veiled, ifaces, maps, wideKeys, modest, calm, conditions, laid).
  DERIVED. THE GIVEN ROWS OF THIS SEAT. 4 by the template 'for every input the law returns true; each argument reads behind the call as it read before'; 0 by the template 'total and deterministic' (their statements: YtmghfjcjcfaagaaGreatTotals.lean).
  GIVEN WITH THE SEED: the statements are not yours to turn. If you find one false, say at which input.
  Laid BY PROGRAM, IN A SANDBOX (cutbox-rows.mjs): the forced cells as the released guide's own fill.sh prints them over the translation b649f6f2e80b306f… (all of the seat's roots in one cut). By AI agents, Wed Nov 11 2026. No macro, syntax, notation, axiom, sorry.
-/
import Derived.Test.YtmghfjcjcfaagaaGreatChecked
import GoSem.Claim
import GoSem.ClaimJoined
import GoSem.ClaimMapViews
import Derived.JoinedTies
import Derived.KernelRfl
namespace Go.Proofs.YtmghfjcjcfaagaaGreat
/- THE CELL 'sum', in the pinned program and in every row, IS THE sha256 OF THE DUMP (.gsa) THAT YtmghfjcjcfaagaaGreatProg.lean LOADS. Nothing in Lean hashes anything: it is a label: what it is worth is what the hold of that sum in a sandbox is worth. -/
noncomputable def Tryz.pinned : Pinned := { name := "ytmghfjcjcfaagaagreat", sum := "b649f6f2e80b306fdabe486782ad3431aed7a82af5c912c95f8cb263180f2805", checked := Tryz.checked }
namespace Rows
def none {H : Type} : Left H := { results := [], args := [] }

/-- 'polestarlaw13.OrbitLeaves': WHATEVER THE INPUT: true; the input reads as it did. -/
def orbitLeavesSpec : ChangeSpec := { name := "orbitLeaves", fn := fun _ => fun
  | [d1, d2, d3] => { results := [.lit (.bool true)], args := [d1, d2, d3] }
  | _ => none }
def orbitLeavesRow : OpenClaim := { program := "ytmghfjcjcfaagaagreat", sum := "b649f6f2e80b306fdabe486782ad3431aed7a82af5c912c95f8cb263180f2805", func := "polestar/polestarlaw13.OrbitLeaves", spec := "orbitLeaves", unfollowed := true, recurses := true, named := ["math/bits.overflowError"], apart := false }
def OrbitLeavesSaid : Prop := orbitLeavesRow.holds Tryz.pinned (OpenSpec.ofChange orbitLeavesSpec)

/-- ITS FALSE NEIGHBOUR: 'it returns false'. Refute it at one input. -/
def orbitLeavesWrong : ChangeSpec := { name := "orbitLeaves", fn := fun _ => fun
  | [d1, d2, d3] => { results := [.lit (.bool false)], args := [d1, d2, d3] }
  | _ => none }
def OrbitLeavesWrongFalsely : Prop := orbitLeavesRow.holds Tryz.pinned (OpenSpec.ofChange orbitLeavesWrong)

/-- 'polestarlaw12.CavityKinds': WHATEVER THE INPUT: true; the input reads as it did. -/
def cavityKindsSpec : ChangeSpec := { name := "cavityKinds", fn := fun _ => fun
  | [d] => { results := [.lit (.bool true)], args := [d] }
  | _ => none }
def cavityKindsRow : OpenClaim := { program := "ytmghfjcjcfaagaagreat", sum := "b649f6f2e80b306fdabe486782ad3431aed7a82af5c912c95f8cb263180f2805", func := "polestar/polestarlaw12.CavityKinds", spec := "cavityKinds", unfollowed := true, recurses := true, named := ["math/bits.overflowError"], apart := false }
def CavityKindsSaid : Prop := cavityKindsRow.holds Tryz.pinned (OpenSpec.ofChange cavityKindsSpec)

/-- ITS FALSE NEIGHBOUR: 'it returns false'. Refute it at one input. -/
def cavityKindsWrong : ChangeSpec := { name := "cavityKinds", fn := fun _ => fun
  | [d] => { results := [.lit (.bool false)], args := [d] }
  | _ => none }
def CavityKindsWrongFalsely : Prop := cavityKindsRow.holds Tryz.pinned (OpenSpec.ofChange cavityKindsWrong)

/-- 'polestarlaw20.MatchBests': WHATEVER THE INPUT: true; the input reads as it did. -/
def matchBestsSpec : ChangeSpec := { name := "matchBests", fn := fun _ => fun
  | [d1, d2] => { results := [.lit (.bool true)], args := [d1, d2] }
  | _ => none }
def matchBestsRow : OpenClaim := { program := "ytmghfjcjcfaagaagreat", sum := "b649f6f2e80b306fdabe486782ad3431aed7a82af5c912c95f8cb263180f2805", func := "polestar/polestarlaw20.MatchBests", spec := "matchBests", unfollowed := true, recurses := true, named := ["math/bits.overflowError"], apart := false }
def MatchBestsSaid : Prop := matchBestsRow.holds Tryz.pinned (OpenSpec.ofChange matchBestsSpec)

/-- ITS FALSE NEIGHBOUR: 'it returns false'. Refute it at one input. -/
def matchBestsWrong : ChangeSpec := { name := "matchBests", fn := fun _ => fun
  | [d1, d2] => { results := [.lit (.bool false)], args := [d1, d2] }
  | _ => none }
def MatchBestsWrongFalsely : Prop := matchBestsRow.holds Tryz.pinned (OpenSpec.ofChange matchBestsWrong)

/-- 'polestarlaw24.TolerChecks': WHATEVER THE INPUT: true; the input reads as it did. -/
def tolerChecksSpec : ChangeSpec := { name := "tolerChecks", fn := fun _ => fun
  | [d] => { results := [.lit (.bool true)], args := [d] }
  | _ => none }
def tolerChecksRow : OpenClaim := { program := "ytmghfjcjcfaagaagreat", sum := "b649f6f2e80b306fdabe486782ad3431aed7a82af5c912c95f8cb263180f2805", func := "polestar/polestarlaw24.TolerChecks", spec := "tolerChecks", unfollowed := true, recurses := true, named := ["math/bits.overflowError"], apart := false }
def TolerChecksSaid : Prop := tolerChecksRow.holds Tryz.pinned (OpenSpec.ofChange tolerChecksSpec)

/-- ITS FALSE NEIGHBOUR: 'it returns false'. Refute it at one input. -/
def tolerChecksWrong : ChangeSpec := { name := "tolerChecks", fn := fun _ => fun
  | [d] => { results := [.lit (.bool false)], args := [d] }
  | _ => none }
def TolerChecksWrongFalsely : Prop := tolerChecksRow.holds Tryz.pinned (OpenSpec.ofChange tolerChecksWrong)

/- THE SECOND FORM. 'bulk': how many values and letters a reading holds, each counted each time it is reached (what is shared counts as often as it is met; a slice's spare places count too). A statement '..UptoSaid' is the law's where the arguments, and the package variables that the reading takes, are together of bulk at most 1048576: NARROWER than '..Said'. Prove '..Said' where nothing that the law and all that it calls make is longer than what came in: it says more and counts as full. Else prove '..UptoSaid'. A law counts once. -/
mutual
def uptoBulk {H : Type} : DataW H → Nat
  | .lit (.string bytes) => bytes.length + 1
  | .lit _ => 1
  | .nil => 1
  | .ptr d => uptoBulk d + 1
  | .slice elems spare => uptoBulkAll elems + uptoBulkAll spare + 1
  | .agg parts => uptoBulkAll parts + 1
  | .iface _ d => uptoBulk d + 1
  | .map entries => uptoBulkEntries entries + 1
  | .held _ => 1
def uptoBulkAll {H : Type} : List (DataW H) → Nat
  | [] => 0
  | d :: r => uptoBulk d + uptoBulkAll r
def uptoBulkEntries {H : Type} : List (Lit × DataW H) → Nat
  | [] => 0
  | x :: r => uptoBulkEntry x + uptoBulkEntries r
def uptoBulkEntry {H : Type} : Lit × DataW H → Nat
  | (.string bytes, d) => bytes.length + uptoBulk d + 1
  | (_, d) => uptoBulk d + 1
 end
def uptoSmall : (H : Type) → List (DataW H) → Bool := fun _ ds => decide (uptoBulkAll ds ≤ 1048576)
def OpenSpec.upto (s : _root_.Go.ChangeSpec) : _root_.Go.OpenSpec := { _root_.Go.OpenSpec.ofChange s with cond := some uptoSmall }

/-- 'polestarlaw13.OrbitLeaves', WHERE WHAT IT READS IS OF BULK AT MOST 1048576: true; the input reads as it did. -/
def orbitLeavesUptoRow : OpenClaim := { program := "ytmghfjcjcfaagaagreat", sum := "b649f6f2e80b306fdabe486782ad3431aed7a82af5c912c95f8cb263180f2805", func := "polestar/polestarlaw13.OrbitLeaves", spec := "orbitLeaves", unfollowed := true, recurses := true, named := ["math/bits.overflowError"], apart := false, narrowed := true }
def OrbitLeavesUptoSaid : Prop := orbitLeavesUptoRow.holds Tryz.pinned (OpenSpec.upto orbitLeavesSpec)

/-- 'polestarlaw12.CavityKinds', WHERE WHAT IT READS IS OF BULK AT MOST 1048576: true; the input reads as it did. -/
def cavityKindsUptoRow : OpenClaim := { program := "ytmghfjcjcfaagaagreat", sum := "b649f6f2e80b306fdabe486782ad3431aed7a82af5c912c95f8cb263180f2805", func := "polestar/polestarlaw12.CavityKinds", spec := "cavityKinds", unfollowed := true, recurses := true, named := ["math/bits.overflowError"], apart := false, narrowed := true }
def CavityKindsUptoSaid : Prop := cavityKindsUptoRow.holds Tryz.pinned (OpenSpec.upto cavityKindsSpec)

/-- 'polestarlaw20.MatchBests', WHERE WHAT IT READS IS OF BULK AT MOST 1048576: true; the input reads as it did. -/
def matchBestsUptoRow : OpenClaim := { program := "ytmghfjcjcfaagaagreat", sum := "b649f6f2e80b306fdabe486782ad3431aed7a82af5c912c95f8cb263180f2805", func := "polestar/polestarlaw20.MatchBests", spec := "matchBests", unfollowed := true, recurses := true, named := ["math/bits.overflowError"], apart := false, narrowed := true }
def MatchBestsUptoSaid : Prop := matchBestsUptoRow.holds Tryz.pinned (OpenSpec.upto matchBestsSpec)

/-- 'polestarlaw24.TolerChecks', WHERE WHAT IT READS IS OF BULK AT MOST 1048576: true; the input reads as it did. -/
def tolerChecksUptoRow : OpenClaim := { program := "ytmghfjcjcfaagaagreat", sum := "b649f6f2e80b306fdabe486782ad3431aed7a82af5c912c95f8cb263180f2805", func := "polestar/polestarlaw24.TolerChecks", spec := "tolerChecks", unfollowed := true, recurses := true, named := ["math/bits.overflowError"], apart := false, narrowed := true }
def TolerChecksUptoSaid : Prop := tolerChecksUptoRow.holds Tryz.pinned (OpenSpec.upto tolerChecksSpec)

end Rows
end Go.Proofs.YtmghfjcjcfaagaaGreat
