/- Reading an argument that is a slice of structs. -/
import Derived.Test.YtmghfjcjcfaagaaGreatLeafX
import Derived.ProofKit
import Derived.OpenShut
import Derived.ChangeOld
import Derived.Below
import Derived.Deep.Slices
namespace Go.Proofs.YtmghfjcjcfaagaaGreat
open Go Go.RowKit
namespace MatC

end MatC
open MatC
open Go.ChangeShapes Go.WideShapes Go.ChangeAt
theorem all2_apx {α β : Type} {R' : α → β → Prop} {l1 l2 : List α} {m1 m2 : List β} (h : All2 R' l1 m1) (h' : All2 R' l2 m2) : All2 R' (l1 ++ l2) (m1 ++ m2) := by
  induction h with
  | nil => exact h'
  | cons h1 _ ih => exact .cons h1 ih
theorem cat_apx {l l' : List As} {B : Nat} {ds ds' : List Value} {w : World} (h : (cat l).p B ds w) (h' : (cat l').p B ds' w) : (cat (l ++ l')).p B (ds ++ ds') w := by
  obtain ⟨ps, rfl, h1⟩ := h
  obtain ⟨ps', rfl, h2⟩ := h'
  exact ⟨ps ++ ps', by simp, all2_apx h1 h2⟩
theorem cat_onex {A : As} {B : Nat} {ds : List Value} {w : World} (h : A.p B ds w) : (cat [A]).p B ds w := ⟨[ds], by simp, .cons h .nil⟩
section
variable {H : Type} {enc : TypeId × Value → H} {w : World} {base : Nat} {spare : Nat → Bool} {held : Bool} {fuel : Nat} {cs : List Value} {x : DataW H × List MemPlace}
end

end Go.Proofs.YtmghfjcjcfaagaaGreat
