/-
  No cell of these rows narrows 'for every input' (looked for: loops, veiled, ifaces, maps, wideKeys, modest, calm, conditions, laid).
  DERIVED. THE GIVEN ROWS OF THIS SEAT. 9 by the template 'for every input the law returns true; each argument reads behind the call as it read before'; 0 by the template 'total and deterministic' (their statements: YtgjolcbehcjhcaaTotals.lean).
  GIVEN WITH THE SEED: the statements are not yours to turn. If you find one false, say at which input.
  Laid BY PROGRAM, IN A SANDBOX (cutbox-rows.mjs): the forced cells as the released guide's own fill.sh prints them over the translation 4fa24ec0e1df1b3a… (all of the seat's roots in one cut). By AI agents, Wed Nov 11 2026. No macro, syntax, notation, axiom, sorry.
-/
import Derived.Test.YtgjolcbehcjhcaaChecked
import GoSem.Claim
import GoSem.ClaimJoined
import GoSem.ClaimMapViews
import Derived.JoinedTies
import Derived.KernelRfl
namespace Go.Proofs.Ytgjolcbehcjhcaa
/- THE CELL 'sum', in the pinned program and in every row, IS THE sha256 OF THE DUMP (.gsa) THAT YtgjolcbehcjhcaaProg.lean LOADS. Nothing in Lean hashes anything: it is a label: what it is worth is what the hold of that sum in a sandbox is worth. -/
noncomputable def Try.pinned : Pinned := { name := "ytgjolcbehcjhcaa", sum := "4fa24ec0e1df1b3a12edb3e0229fd63441deb22f180b0fd1fbe7b4da5c8560ce", checked := Try.checked }
namespace Rows
def none {H : Type} : Left H := { results := [], args := [] }

/-- 'polestarlaw12.CavityAlike': WHATEVER THE INPUT: true; the input reads as it did. -/
def cavityAlikeSpec : ChangeSpec := { name := "cavityAlike", fn := fun _ => fun
  | [d1, d2] => { results := [.lit (.bool true)], args := [d1, d2] }
  | _ => none }
def cavityAlikeRow : OpenClaim := { program := "ytgjolcbehcjhcaa", sum := "4fa24ec0e1df1b3a12edb3e0229fd63441deb22f180b0fd1fbe7b4da5c8560ce", func := "polestar/polestarlaw12.CavityAlike", spec := "cavityAlike", unfollowed := true, recurses := true, named := ["math/bits.overflowError"], apart := false }
def CavityAlikeSaid : Prop := cavityAlikeRow.holds Try.pinned (OpenSpec.ofChange cavityAlikeSpec)

/-- ITS FALSE NEIGHBOUR: 'it returns false'. Refute it at one input. -/
def cavityAlikeWrong : ChangeSpec := { name := "cavityAlike", fn := fun _ => fun
  | [d1, d2] => { results := [.lit (.bool false)], args := [d1, d2] }
  | _ => none }
def CavityAlikeWrongFalsely : Prop := cavityAlikeRow.holds Try.pinned (OpenSpec.ofChange cavityAlikeWrong)

/-- 'polestarlaw12.CavityFactors': WHATEVER THE INPUT: true; the input reads as it did. -/
def cavityFactorsSpec : ChangeSpec := { name := "cavityFactors", fn := fun _ => fun
  | [d1, d2, d3] => { results := [.lit (.bool true)], args := [d1, d2, d3] }
  | _ => none }
def cavityFactorsRow : OpenClaim := { program := "ytgjolcbehcjhcaa", sum := "4fa24ec0e1df1b3a12edb3e0229fd63441deb22f180b0fd1fbe7b4da5c8560ce", func := "polestar/polestarlaw12.CavityFactors", spec := "cavityFactors", unfollowed := true, recurses := true, named := ["math/bits.overflowError"], apart := false }
def CavityFactorsSaid : Prop := cavityFactorsRow.holds Try.pinned (OpenSpec.ofChange cavityFactorsSpec)

/-- ITS FALSE NEIGHBOUR: 'it returns false'. Refute it at one input. -/
def cavityFactorsWrong : ChangeSpec := { name := "cavityFactors", fn := fun _ => fun
  | [d1, d2, d3] => { results := [.lit (.bool false)], args := [d1, d2, d3] }
  | _ => none }
def CavityFactorsWrongFalsely : Prop := cavityFactorsRow.holds Try.pinned (OpenSpec.ofChange cavityFactorsWrong)

/-- 'polestarlaw10.BenchJoins': WHATEVER THE INPUT: true; the input reads as it did. -/
def benchJoinsSpec : ChangeSpec := { name := "benchJoins", fn := fun _ => fun
  | [d1, d2] => { results := [.lit (.bool true)], args := [d1, d2] }
  | _ => none }
def benchJoinsRow : OpenClaim := { program := "ytgjolcbehcjhcaa", sum := "4fa24ec0e1df1b3a12edb3e0229fd63441deb22f180b0fd1fbe7b4da5c8560ce", func := "polestar/polestarlaw10.BenchJoins", spec := "benchJoins", unfollowed := true, recurses := true, named := ["math/bits.overflowError"], apart := false }
def BenchJoinsSaid : Prop := benchJoinsRow.holds Try.pinned (OpenSpec.ofChange benchJoinsSpec)

/-- ITS FALSE NEIGHBOUR: 'it returns false'. Refute it at one input. -/
def benchJoinsWrong : ChangeSpec := { name := "benchJoins", fn := fun _ => fun
  | [d1, d2] => { results := [.lit (.bool false)], args := [d1, d2] }
  | _ => none }
def BenchJoinsWrongFalsely : Prop := benchJoinsRow.holds Try.pinned (OpenSpec.ofChange benchJoinsWrong)

/-- 'polestarlaw10.BenchSame': WHATEVER THE INPUT: true; the input reads as it did. -/
def benchSameSpec : ChangeSpec := { name := "benchSame", fn := fun _ => fun
  | [d1, d2] => { results := [.lit (.bool true)], args := [d1, d2] }
  | _ => none }
def benchSameRow : OpenClaim := { program := "ytgjolcbehcjhcaa", sum := "4fa24ec0e1df1b3a12edb3e0229fd63441deb22f180b0fd1fbe7b4da5c8560ce", func := "polestar/polestarlaw10.BenchSame", spec := "benchSame", unfollowed := true, recurses := true, named := ["math/bits.overflowError"], apart := false }
def BenchSameSaid : Prop := benchSameRow.holds Try.pinned (OpenSpec.ofChange benchSameSpec)

/-- ITS FALSE NEIGHBOUR: 'it returns false'. Refute it at one input. -/
def benchSameWrong : ChangeSpec := { name := "benchSame", fn := fun _ => fun
  | [d1, d2] => { results := [.lit (.bool false)], args := [d1, d2] }
  | _ => none }
def BenchSameWrongFalsely : Prop := benchSameRow.holds Try.pinned (OpenSpec.ofChange benchSameWrong)

/-- 'polestarlaw10.BenchSteps': WHATEVER THE INPUT: true; the input reads as it did. -/
def benchStepsSpec : ChangeSpec := { name := "benchSteps", fn := fun _ => fun
  | [d1, d2, d3] => { results := [.lit (.bool true)], args := [d1, d2, d3] }
  | _ => none }
def benchStepsRow : OpenClaim := { program := "ytgjolcbehcjhcaa", sum := "4fa24ec0e1df1b3a12edb3e0229fd63441deb22f180b0fd1fbe7b4da5c8560ce", func := "polestar/polestarlaw10.BenchSteps", spec := "benchSteps", unfollowed := true, recurses := true, named := ["math/bits.overflowError"], apart := false }
def BenchStepsSaid : Prop := benchStepsRow.holds Try.pinned (OpenSpec.ofChange benchStepsSpec)

/-- ITS FALSE NEIGHBOUR: 'it returns false'. Refute it at one input. -/
def benchStepsWrong : ChangeSpec := { name := "benchSteps", fn := fun _ => fun
  | [d1, d2, d3] => { results := [.lit (.bool false)], args := [d1, d2, d3] }
  | _ => none }
def BenchStepsWrongFalsely : Prop := benchStepsRow.holds Try.pinned (OpenSpec.ofChange benchStepsWrong)

/-- 'polestarlaw18.FilmEnergy': WHATEVER THE INPUT: true; the input reads as it did. -/
def filmEnergySpec : ChangeSpec := { name := "filmEnergy", fn := fun _ => fun
  | [d1, d2, d3] => { results := [.lit (.bool true)], args := [d1, d2, d3] }
  | _ => none }
def filmEnergyRow : OpenClaim := { program := "ytgjolcbehcjhcaa", sum := "4fa24ec0e1df1b3a12edb3e0229fd63441deb22f180b0fd1fbe7b4da5c8560ce", func := "polestar/polestarlaw18.FilmEnergy", spec := "filmEnergy", unfollowed := true, recurses := true, named := ["math/bits.overflowError"], apart := false }
def FilmEnergySaid : Prop := filmEnergyRow.holds Try.pinned (OpenSpec.ofChange filmEnergySpec)

/-- ITS FALSE NEIGHBOUR: 'it returns false'. Refute it at one input. -/
def filmEnergyWrong : ChangeSpec := { name := "filmEnergy", fn := fun _ => fun
  | [d1, d2, d3] => { results := [.lit (.bool false)], args := [d1, d2, d3] }
  | _ => none }
def FilmEnergyWrongFalsely : Prop := filmEnergyRow.holds Try.pinned (OpenSpec.ofChange filmEnergyWrong)

/-- 'polestarlaw10.BenchParts': WHATEVER THE INPUT: true; the input reads as it did. -/
def benchPartsSpec : ChangeSpec := { name := "benchParts", fn := fun _ => fun
  | [d] => { results := [.lit (.bool true)], args := [d] }
  | _ => none }
def benchPartsRow : OpenClaim := { program := "ytgjolcbehcjhcaa", sum := "4fa24ec0e1df1b3a12edb3e0229fd63441deb22f180b0fd1fbe7b4da5c8560ce", func := "polestar/polestarlaw10.BenchParts", spec := "benchParts", unfollowed := true, recurses := true, named := ["math/bits.overflowError"], apart := false }
def BenchPartsSaid : Prop := benchPartsRow.holds Try.pinned (OpenSpec.ofChange benchPartsSpec)

/-- ITS FALSE NEIGHBOUR: 'it returns false'. Refute it at one input. -/
def benchPartsWrong : ChangeSpec := { name := "benchParts", fn := fun _ => fun
  | [d] => { results := [.lit (.bool false)], args := [d] }
  | _ => none }
def BenchPartsWrongFalsely : Prop := benchPartsRow.holds Try.pinned (OpenSpec.ofChange benchPartsWrong)

/-- 'polestarlaw18.FilmRound': WHATEVER THE INPUT: true; the input reads as it did. -/
def filmRoundSpec : ChangeSpec := { name := "filmRound", fn := fun _ => fun
  | [d1, d2, d3] => { results := [.lit (.bool true)], args := [d1, d2, d3] }
  | _ => none }
def filmRoundRow : OpenClaim := { program := "ytgjolcbehcjhcaa", sum := "4fa24ec0e1df1b3a12edb3e0229fd63441deb22f180b0fd1fbe7b4da5c8560ce", func := "polestar/polestarlaw18.FilmRound", spec := "filmRound", unfollowed := true, recurses := true, named := ["math/bits.overflowError"], apart := false }
def FilmRoundSaid : Prop := filmRoundRow.holds Try.pinned (OpenSpec.ofChange filmRoundSpec)

/-- ITS FALSE NEIGHBOUR: 'it returns false'. Refute it at one input. -/
def filmRoundWrong : ChangeSpec := { name := "filmRound", fn := fun _ => fun
  | [d1, d2, d3] => { results := [.lit (.bool false)], args := [d1, d2, d3] }
  | _ => none }
def FilmRoundWrongFalsely : Prop := filmRoundRow.holds Try.pinned (OpenSpec.ofChange filmRoundWrong)

/-- 'polestarlaw12.CavityRound': WHATEVER THE INPUT: true; the input reads as it did. -/
def cavityRoundSpec : ChangeSpec := { name := "cavityRound", fn := fun _ => fun
  | [d1, d2] => { results := [.lit (.bool true)], args := [d1, d2] }
  | _ => none }
def cavityRoundRow : OpenClaim := { program := "ytgjolcbehcjhcaa", sum := "4fa24ec0e1df1b3a12edb3e0229fd63441deb22f180b0fd1fbe7b4da5c8560ce", func := "polestar/polestarlaw12.CavityRound", spec := "cavityRound", unfollowed := true, recurses := true, named := ["math/bits.overflowError"], apart := false }
def CavityRoundSaid : Prop := cavityRoundRow.holds Try.pinned (OpenSpec.ofChange cavityRoundSpec)

/-- ITS FALSE NEIGHBOUR: 'it returns false'. Refute it at one input. -/
def cavityRoundWrong : ChangeSpec := { name := "cavityRound", fn := fun _ => fun
  | [d1, d2] => { results := [.lit (.bool false)], args := [d1, d2] }
  | _ => none }
def CavityRoundWrongFalsely : Prop := cavityRoundRow.holds Try.pinned (OpenSpec.ofChange cavityRoundWrong)

/- THE SECOND FORM. 'bulk': how many values and letters a reading holds, each counted each time it is reached (what is shared counts as often as it is met; a slice's spare places count too). A statement '..UptoSaid' is the law's where the arguments, and the package variables that the reading takes, are together of bulk at most 1048576: NARROWER than '..Said'. Prove '..Said' where nothing that the law and all that it calls make is longer than what came in: it says more and counts as full. Else prove '..UptoSaid'. A law counts once. -/
mutual
def uptoBulk {H : Type} : DataW H → Nat
  | .lit (.string bytes) => bytes.length + 1
  | .lit _ => 1
  | .nil => 1
  | .ptr d => uptoBulk d + 1
  | .slice elems spare => uptoBulkAll elems + uptoBulkAll spare + 1
  | .agg parts => uptoBulkAll parts + 1
  | .iface _ d => uptoBulk d + 1
  | .map entries => uptoBulkEntries entries + 1
  | .held _ => 1
def uptoBulkAll {H : Type} : List (DataW H) → Nat
  | [] => 0
  | d :: r => uptoBulk d + uptoBulkAll r
def uptoBulkEntries {H : Type} : List (Lit × DataW H) → Nat
  | [] => 0
  | x :: r => uptoBulkEntry x + uptoBulkEntries r
def uptoBulkEntry {H : Type} : Lit × DataW H → Nat
  | (.string bytes, d) => bytes.length + uptoBulk d + 1
  | (_, d) => uptoBulk d + 1
 end
def uptoSmall : (H : Type) → List (DataW H) → Bool := fun _ ds => decide (uptoBulkAll ds ≤ 1048576)
def OpenSpec.upto (s : _root_.Go.ChangeSpec) : _root_.Go.OpenSpec := { _root_.Go.OpenSpec.ofChange s with cond := some uptoSmall }

/-- 'polestarlaw12.CavityAlike', WHERE WHAT IT READS IS OF BULK AT MOST 1048576: true; the input reads as it did. -/
def cavityAlikeUptoRow : OpenClaim := { program := "ytgjolcbehcjhcaa", sum := "4fa24ec0e1df1b3a12edb3e0229fd63441deb22f180b0fd1fbe7b4da5c8560ce", func := "polestar/polestarlaw12.CavityAlike", spec := "cavityAlike", unfollowed := true, recurses := true, named := ["math/bits.overflowError"], apart := false, narrowed := true }
def CavityAlikeUptoSaid : Prop := cavityAlikeUptoRow.holds Try.pinned (OpenSpec.upto cavityAlikeSpec)

/-- 'polestarlaw12.CavityFactors', WHERE WHAT IT READS IS OF BULK AT MOST 1048576: true; the input reads as it did. -/
def cavityFactorsUptoRow : OpenClaim := { program := "ytgjolcbehcjhcaa", sum := "4fa24ec0e1df1b3a12edb3e0229fd63441deb22f180b0fd1fbe7b4da5c8560ce", func := "polestar/polestarlaw12.CavityFactors", spec := "cavityFactors", unfollowed := true, recurses := true, named := ["math/bits.overflowError"], apart := false, narrowed := true }
def CavityFactorsUptoSaid : Prop := cavityFactorsUptoRow.holds Try.pinned (OpenSpec.upto cavityFactorsSpec)

/-- 'polestarlaw10.BenchJoins', WHERE WHAT IT READS IS OF BULK AT MOST 1048576: true; the input reads as it did. -/
def benchJoinsUptoRow : OpenClaim := { program := "ytgjolcbehcjhcaa", sum := "4fa24ec0e1df1b3a12edb3e0229fd63441deb22f180b0fd1fbe7b4da5c8560ce", func := "polestar/polestarlaw10.BenchJoins", spec := "benchJoins", unfollowed := true, recurses := true, named := ["math/bits.overflowError"], apart := false, narrowed := true }
def BenchJoinsUptoSaid : Prop := benchJoinsUptoRow.holds Try.pinned (OpenSpec.upto benchJoinsSpec)

/-- 'polestarlaw10.BenchSame', WHERE WHAT IT READS IS OF BULK AT MOST 1048576: true; the input reads as it did. -/
def benchSameUptoRow : OpenClaim := { program := "ytgjolcbehcjhcaa", sum := "4fa24ec0e1df1b3a12edb3e0229fd63441deb22f180b0fd1fbe7b4da5c8560ce", func := "polestar/polestarlaw10.BenchSame", spec := "benchSame", unfollowed := true, recurses := true, named := ["math/bits.overflowError"], apart := false, narrowed := true }
def BenchSameUptoSaid : Prop := benchSameUptoRow.holds Try.pinned (OpenSpec.upto benchSameSpec)

/-- 'polestarlaw10.BenchSteps', WHERE WHAT IT READS IS OF BULK AT MOST 1048576: true; the input reads as it did. -/
def benchStepsUptoRow : OpenClaim := { program := "ytgjolcbehcjhcaa", sum := "4fa24ec0e1df1b3a12edb3e0229fd63441deb22f180b0fd1fbe7b4da5c8560ce", func := "polestar/polestarlaw10.BenchSteps", spec := "benchSteps", unfollowed := true, recurses := true, named := ["math/bits.overflowError"], apart := false, narrowed := true }
def BenchStepsUptoSaid : Prop := benchStepsUptoRow.holds Try.pinned (OpenSpec.upto benchStepsSpec)

/-- 'polestarlaw18.FilmEnergy', WHERE WHAT IT READS IS OF BULK AT MOST 1048576: true; the input reads as it did. -/
def filmEnergyUptoRow : OpenClaim := { program := "ytgjolcbehcjhcaa", sum := "4fa24ec0e1df1b3a12edb3e0229fd63441deb22f180b0fd1fbe7b4da5c8560ce", func := "polestar/polestarlaw18.FilmEnergy", spec := "filmEnergy", unfollowed := true, recurses := true, named := ["math/bits.overflowError"], apart := false, narrowed := true }
def FilmEnergyUptoSaid : Prop := filmEnergyUptoRow.holds Try.pinned (OpenSpec.upto filmEnergySpec)

/-- 'polestarlaw10.BenchParts', WHERE WHAT IT READS IS OF BULK AT MOST 1048576: true; the input reads as it did. -/
def benchPartsUptoRow : OpenClaim := { program := "ytgjolcbehcjhcaa", sum := "4fa24ec0e1df1b3a12edb3e0229fd63441deb22f180b0fd1fbe7b4da5c8560ce", func := "polestar/polestarlaw10.BenchParts", spec := "benchParts", unfollowed := true, recurses := true, named := ["math/bits.overflowError"], apart := false, narrowed := true }
def BenchPartsUptoSaid : Prop := benchPartsUptoRow.holds Try.pinned (OpenSpec.upto benchPartsSpec)

/-- 'polestarlaw18.FilmRound', WHERE WHAT IT READS IS OF BULK AT MOST 1048576: true; the input reads as it did. -/
def filmRoundUptoRow : OpenClaim := { program := "ytgjolcbehcjhcaa", sum := "4fa24ec0e1df1b3a12edb3e0229fd63441deb22f180b0fd1fbe7b4da5c8560ce", func := "polestar/polestarlaw18.FilmRound", spec := "filmRound", unfollowed := true, recurses := true, named := ["math/bits.overflowError"], apart := false, narrowed := true }
def FilmRoundUptoSaid : Prop := filmRoundUptoRow.holds Try.pinned (OpenSpec.upto filmRoundSpec)

/-- 'polestarlaw12.CavityRound', WHERE WHAT IT READS IS OF BULK AT MOST 1048576: true; the input reads as it did. -/
def cavityRoundUptoRow : OpenClaim := { program := "ytgjolcbehcjhcaa", sum := "4fa24ec0e1df1b3a12edb3e0229fd63441deb22f180b0fd1fbe7b4da5c8560ce", func := "polestar/polestarlaw12.CavityRound", spec := "cavityRound", unfollowed := true, recurses := true, named := ["math/bits.overflowError"], apart := false, narrowed := true }
def CavityRoundUptoSaid : Prop := cavityRoundUptoRow.holds Try.pinned (OpenSpec.upto cavityRoundSpec)

end Rows
end Go.Proofs.Ytgjolcbehcjhcaa
