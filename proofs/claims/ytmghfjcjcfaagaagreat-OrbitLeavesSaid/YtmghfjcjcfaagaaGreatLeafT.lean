import Derived.Test.YtmghfjcjcfaagaaGreatLeafS
namespace Go.Proofs.YtmghfjcjcfaagaaGreat
open Go Go.RowKit
namespace LeafT
end LeafT
open LeafT
theorem okM_q {m : RM} (h : okM m = true) : [m.a, m.b, m.c, m.d].all okX = true ∧ detM (toM m) = 1 := by
  unfold okM at h
  rw [Bool.and_eq_true, decide_eq_true_eq] at h
  exact h

end Go.Proofs.YtmghfjcjcfaagaaGreat
