/-
  No cell of these rows narrows 'for every input' (looked for: loops, veiled, ifaces, maps, wideKeys, modest, calm, conditions, laid).
  DERIVED. THE GIVEN ROWS OF THIS SEAT. 4 by the template 'for every input the law returns true; each argument reads behind the call as it read before'; 0 by the template 'total and deterministic' (their statements: YtiflajpmipejnaaTotals.lean).
  GIVEN WITH THE SEED: the statements are not yours to turn. If you find one false, say at which input.
  Laid BY PROGRAM, IN A SANDBOX (cutbox-rows.mjs): the forced cells as the released guide's own fill.sh prints them over the translation df5e58998aaec71d… (all of the seat's roots in one cut). By AI agents, Wed Nov 11 2026. No macro, syntax, notation, axiom, sorry.
-/
import Derived.Test.YtiflajpmipejnaaChecked
import GoSem.Claim
import GoSem.ClaimJoined
import GoSem.ClaimMapViews
import Derived.JoinedTies
import Derived.KernelRfl
namespace Go.Proofs.Ytiflajpmipejnaa
/- THE CELL 'sum', in the pinned program and in every row, IS THE sha256 OF THE DUMP (.gsa) THAT YtiflajpmipejnaaProg.lean LOADS. Nothing in Lean hashes anything: it is a label: what it is worth is what the hold of that sum in a sandbox is worth. -/
noncomputable def Try.pinned : Pinned := { name := "ytiflajpmipejnaa", sum := "df5e58998aaec71dcb31a2308e2f89157eafbaa28e02e3abd06c56ffa2775f48", checked := Try.checked }
namespace Rows
def none {H : Type} : Left H := { results := [], args := [] }

/-- 'polestartop.TopAway': WHATEVER THE INPUT: true; the input reads as it did. -/
def topAwaySpec : ChangeSpec := { name := "topAway", fn := fun _ => fun
  | [d] => { results := [.lit (.bool true)], args := [d] }
  | _ => none }
def topAwayRow : OpenClaim := { program := "ytiflajpmipejnaa", sum := "df5e58998aaec71dcb31a2308e2f89157eafbaa28e02e3abd06c56ffa2775f48", func := "polestar/polestartop.TopAway", spec := "topAway", unfollowed := true, recurses := true, named := ["math/bits.overflowError"], apart := false }
def TopAwaySaid : Prop := topAwayRow.holds Try.pinned (OpenSpec.ofChange topAwaySpec)

/-- ITS FALSE NEIGHBOUR: 'it returns false'. Refute it at one input. -/
def topAwayWrong : ChangeSpec := { name := "topAway", fn := fun _ => fun
  | [d] => { results := [.lit (.bool false)], args := [d] }
  | _ => none }
def TopAwayWrongFalsely : Prop := topAwayRow.holds Try.pinned (OpenSpec.ofChange topAwayWrong)

/-- 'polestarlaw13.OrbitWild': WHATEVER THE INPUT: true; the input reads as it did. -/
def orbitWildSpec : ChangeSpec := { name := "orbitWild", fn := fun _ => fun
  | [d] => { results := [.lit (.bool true)], args := [d] }
  | _ => none }
def orbitWildRow : OpenClaim := { program := "ytiflajpmipejnaa", sum := "df5e58998aaec71dcb31a2308e2f89157eafbaa28e02e3abd06c56ffa2775f48", func := "polestar/polestarlaw13.OrbitWild", spec := "orbitWild", unfollowed := true, recurses := true, named := ["math/bits.overflowError"], apart := false }
def OrbitWildSaid : Prop := orbitWildRow.holds Try.pinned (OpenSpec.ofChange orbitWildSpec)

/-- ITS FALSE NEIGHBOUR: 'it returns false'. Refute it at one input. -/
def orbitWildWrong : ChangeSpec := { name := "orbitWild", fn := fun _ => fun
  | [d] => { results := [.lit (.bool false)], args := [d] }
  | _ => none }
def OrbitWildWrongFalsely : Prop := orbitWildRow.holds Try.pinned (OpenSpec.ofChange orbitWildWrong)

/-- 'polestarlaw13.OrbitFirst': WHATEVER THE INPUT: true; the input reads as it did. -/
def orbitFirstSpec : ChangeSpec := { name := "orbitFirst", fn := fun _ => fun
  | [d1, d2, d3] => { results := [.lit (.bool true)], args := [d1, d2, d3] }
  | _ => none }
def orbitFirstRow : OpenClaim := { program := "ytiflajpmipejnaa", sum := "df5e58998aaec71dcb31a2308e2f89157eafbaa28e02e3abd06c56ffa2775f48", func := "polestar/polestarlaw13.OrbitFirst", spec := "orbitFirst", unfollowed := true, recurses := true, named := ["math/bits.overflowError"], apart := false }
def OrbitFirstSaid : Prop := orbitFirstRow.holds Try.pinned (OpenSpec.ofChange orbitFirstSpec)

/-- ITS FALSE NEIGHBOUR: 'it returns false'. Refute it at one input. -/
def orbitFirstWrong : ChangeSpec := { name := "orbitFirst", fn := fun _ => fun
  | [d1, d2, d3] => { results := [.lit (.bool false)], args := [d1, d2, d3] }
  | _ => none }
def OrbitFirstWrongFalsely : Prop := orbitFirstRow.holds Try.pinned (OpenSpec.ofChange orbitFirstWrong)

/-- 'polestarlaw13.OrbitKeeps': WHATEVER THE INPUT: true; the input reads as it did. -/
def orbitKeepsSpec : ChangeSpec := { name := "orbitKeeps", fn := fun _ => fun
  | [d1, d2, d3] => { results := [.lit (.bool true)], args := [d1, d2, d3] }
  | _ => none }
def orbitKeepsRow : OpenClaim := { program := "ytiflajpmipejnaa", sum := "df5e58998aaec71dcb31a2308e2f89157eafbaa28e02e3abd06c56ffa2775f48", func := "polestar/polestarlaw13.OrbitKeeps", spec := "orbitKeeps", unfollowed := true, recurses := true, named := ["math/bits.overflowError"], apart := false }
def OrbitKeepsSaid : Prop := orbitKeepsRow.holds Try.pinned (OpenSpec.ofChange orbitKeepsSpec)

/-- ITS FALSE NEIGHBOUR: 'it returns false'. Refute it at one input. -/
def orbitKeepsWrong : ChangeSpec := { name := "orbitKeeps", fn := fun _ => fun
  | [d1, d2, d3] => { results := [.lit (.bool false)], args := [d1, d2, d3] }
  | _ => none }
def OrbitKeepsWrongFalsely : Prop := orbitKeepsRow.holds Try.pinned (OpenSpec.ofChange orbitKeepsWrong)

/- THE SECOND FORM. 'bulk': how many values and letters a reading holds, each counted each time it is reached (what is shared counts as often as it is met; a slice's spare places count too). A statement '..UptoSaid' is the law's where the arguments, and the package variables that the reading takes, are together of bulk at most 1048576: NARROWER than '..Said'. Prove '..Said' where nothing that the law and all that it calls make is longer than what came in: it says more and counts as full. Else prove '..UptoSaid'. A law counts once. -/
mutual
def uptoBulk {H : Type} : DataW H → Nat
  | .lit (.string bytes) => bytes.length + 1
  | .lit _ => 1
  | .nil => 1
  | .ptr d => uptoBulk d + 1
  | .slice elems spare => uptoBulkAll elems + uptoBulkAll spare + 1
  | .agg parts => uptoBulkAll parts + 1
  | .iface _ d => uptoBulk d + 1
  | .map entries => uptoBulkEntries entries + 1
  | .held _ => 1
def uptoBulkAll {H : Type} : List (DataW H) → Nat
  | [] => 0
  | d :: r => uptoBulk d + uptoBulkAll r
def uptoBulkEntries {H : Type} : List (Lit × DataW H) → Nat
  | [] => 0
  | x :: r => uptoBulkEntry x + uptoBulkEntries r
def uptoBulkEntry {H : Type} : Lit × DataW H → Nat
  | (.string bytes, d) => bytes.length + uptoBulk d + 1
  | (_, d) => uptoBulk d + 1
 end
def uptoSmall : (H : Type) → List (DataW H) → Bool := fun _ ds => decide (uptoBulkAll ds ≤ 1048576)
def OpenSpec.upto (s : _root_.Go.ChangeSpec) : _root_.Go.OpenSpec := { _root_.Go.OpenSpec.ofChange s with cond := some uptoSmall }

/-- 'polestartop.TopAway', WHERE WHAT IT READS IS OF BULK AT MOST 1048576: true; the input reads as it did. -/
def topAwayUptoRow : OpenClaim := { program := "ytiflajpmipejnaa", sum := "df5e58998aaec71dcb31a2308e2f89157eafbaa28e02e3abd06c56ffa2775f48", func := "polestar/polestartop.TopAway", spec := "topAway", unfollowed := true, recurses := true, named := ["math/bits.overflowError"], apart := false, narrowed := true }
def TopAwayUptoSaid : Prop := topAwayUptoRow.holds Try.pinned (OpenSpec.upto topAwaySpec)

/-- 'polestarlaw13.OrbitWild', WHERE WHAT IT READS IS OF BULK AT MOST 1048576: true; the input reads as it did. -/
def orbitWildUptoRow : OpenClaim := { program := "ytiflajpmipejnaa", sum := "df5e58998aaec71dcb31a2308e2f89157eafbaa28e02e3abd06c56ffa2775f48", func := "polestar/polestarlaw13.OrbitWild", spec := "orbitWild", unfollowed := true, recurses := true, named := ["math/bits.overflowError"], apart := false, narrowed := true }
def OrbitWildUptoSaid : Prop := orbitWildUptoRow.holds Try.pinned (OpenSpec.upto orbitWildSpec)

/-- 'polestarlaw13.OrbitFirst', WHERE WHAT IT READS IS OF BULK AT MOST 1048576: true; the input reads as it did. -/
def orbitFirstUptoRow : OpenClaim := { program := "ytiflajpmipejnaa", sum := "df5e58998aaec71dcb31a2308e2f89157eafbaa28e02e3abd06c56ffa2775f48", func := "polestar/polestarlaw13.OrbitFirst", spec := "orbitFirst", unfollowed := true, recurses := true, named := ["math/bits.overflowError"], apart := false, narrowed := true }
def OrbitFirstUptoSaid : Prop := orbitFirstUptoRow.holds Try.pinned (OpenSpec.upto orbitFirstSpec)

/-- 'polestarlaw13.OrbitKeeps', WHERE WHAT IT READS IS OF BULK AT MOST 1048576: true; the input reads as it did. -/
def orbitKeepsUptoRow : OpenClaim := { program := "ytiflajpmipejnaa", sum := "df5e58998aaec71dcb31a2308e2f89157eafbaa28e02e3abd06c56ffa2775f48", func := "polestar/polestarlaw13.OrbitKeeps", spec := "orbitKeeps", unfollowed := true, recurses := true, named := ["math/bits.overflowError"], apart := false, narrowed := true }
def OrbitKeepsUptoSaid : Prop := orbitKeepsUptoRow.holds Try.pinned (OpenSpec.upto orbitKeepsSpec)

end Rows
end Go.Proofs.Ytiflajpmipejnaa
