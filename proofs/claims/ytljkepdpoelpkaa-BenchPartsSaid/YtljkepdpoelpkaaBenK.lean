/- A function value that captures a variable which points to another one: the state of a builder. -/
import Derived.Test.YtljkepdpoelpkaaBenI
import Derived.Test.YtljkepdpoelpkaaRngD
import Derived.Test.YtljkepdpoelpkaaMatC
namespace Go.Proofs.Ytljkepdpoelpkaa
open Go Go.RowKit
namespace BenK

end BenK
open BenK
set_option linter.unusedVariables false
/-- a function value of f that captures a variable (of type Tp) which points to the variable at g (of type T, with A in it); nobody else writes either. -/
def ClB (f : FuncId) (Tp T : TypeId) (g : Nat) (A : As) : VA where
  p B v w := ∃ c cs, v = .func (.func f) #[] #[ptr c] ∧ c ≠ g ∧ B ≤ c ∧ B ≤ g ∧ w.heap[c]? = some (.cells #[ptr g] Tp (0, 0)) ∧ w.heap[g]? = some (.cells (List.toArray cs) T (0, 0)) ∧ A.p B cs w
  deps := Tp :: T :: A.deps
  cg := by
    rintro B v w w' hg ⟨c, cs, e0, h1, h2, h3, h4, h5, h6⟩
    exact ⟨c, cs, e0, h1, h2, h3, hg.heap h4, hg.heap h5, A.cg _ _ _ _ hg h6⟩
  wr := by
    rintro B v w w' k u T' fz hgc hT hB hW ⟨c, cs, e0, h1, h2, h3, h4, h5, h6⟩
    simp only [List.mem_cons, not_or] at hT
    have n1 : c ≠ k := by
      rintro rfl
      rw [hgc] at h4
      injection h4 with h4
      injection h4 with _ h4 _
      exact hT.1 h4
    have n2 : g ≠ k := by
      rintro rfl
      rw [hgc] at h5
      injection h5 with h5
      injection h5 with _ h5 _
      exact hT.2.1 h5
    exact ⟨c, cs, e0, h1, h2, h3, by rw [hW.block c n1]; exact h4, by rw [hW.block g n2]; exact h5, A.wr _ _ _ _ _ _ _ _ hgc hT.2.2 hB hW h6⟩
/-- what is in the variable, seen by its name. -/
theorem clb_at {f : FuncId} {Tp T : TypeId} {g : Nat} {A : As} {B : Nat} {v : Value} {w : World} (h : (ClB f Tp T g A).p B v w) : ∃ cs, w.heap[g]? = some (.cells (List.toArray cs) T (0, 0)) ∧ A.p B cs w := by
  obtain ⟨c, cs, _, _, _, _, _, h5, h6⟩ := h
  exact ⟨cs, h5, h6⟩
theorem clb_wk {f : FuncId} {Tp T : TypeId} {g : Nat} {A A' : As} (h : WkA A A') : Wk (ClB f Tp T g A) (ClB f Tp T g A') := fun B v w ⟨c, cs, e0, h1, h2, h3, h4, h5, h6⟩ => ⟨c, cs, e0, h1, h2, h3, h4, h5, h.2.2 _ _ _ h6⟩

end Go.Proofs.Ytljkepdpoelpkaa
