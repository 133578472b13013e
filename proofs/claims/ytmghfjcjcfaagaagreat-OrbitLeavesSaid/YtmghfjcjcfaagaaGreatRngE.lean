/- Iterators over what they have captured: what a function makes that hands one back; what a call of it leaves. -/
import Derived.Test.YtmghfjcjcfaagaaGreatRngD
import Derived.Test.YtmghfjcjcfaagaaGreatBenA
namespace Go.Proofs.YtmghfjcjcfaagaaGreat
open Go Go.RowKit
namespace RngE

end RngE
open RngE
/-- the names of some variables. -/
def Nmd (Γ : List (Nat × VA)) : List (Nat × Nat) → List Nat → Prop
  | [], [] => True
  | p :: ps, k :: ks => Γ[k]? = some (p.1, EqV (ptr p.2)) ∧ Nmd Γ ps ks
  | _, _ => False
section
variable {P : Program} {R : Rg} {Q : Exit → Act → World → Prop} {B i : Nat} {w0 : Bs}
/-- the names of some variables, at an operation. -/
inductive Nmo (R : Rg) (B : Nat) (w0 : Bs) (i : Nat) : List (Nat × Nat) → Prop
  | nil : Nmo R B w0 i []
  | cons {s g T : Nat} {A : As} {l : List (Nat × Nat)} : Has R B w0 i (.tmp s) (EqV (ptr g)) → Loc R i s T A → Nmo R B w0 i l → Nmo R B w0 i ((s, g) :: l)
theorem Nmo.lt {l : List (Nat × Nat)} (h : Nmo R B w0 i l) {a : Act} {w : World} (av : R.Av B w0 i a w) : ∀ p ∈ l, p.2 < w.heap.size := by
  induction h with
  | nil => intro p hp; cases hp
  | cons h1 h2 _ ih =>
    intro p hp
    rcases List.mem_cons.1 hp with rfl | hp
    · obtain ⟨g, cs, e1, _, e3, _⟩ := h2.ok av
      have e2 := h1 a w av
      have e2' : a.eval (.tmp _) = ptr _ := e2
      rw [e2'] at e1
      have : ptr _ = ptr g := e1
      injection this with this
      injection this with this
      injection this with this
      rw [this]
      exact (Array.getElem?_eq_some_iff.1 e3).1
    · exact ih p hp
end

end Go.Proofs.YtmghfjcjcfaagaaGreat
