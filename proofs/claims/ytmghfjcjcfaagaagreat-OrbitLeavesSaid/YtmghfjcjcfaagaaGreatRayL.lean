import Derived.Test.YtmghfjcjcfaagaaGreatRayE
import Derived.ProofKit
import Derived.OpenShut
import Derived.ChangeOld
import Derived.Below
-- merged
/- Contract of ray.Mul: the product of two matrices. -/
namespace Go.Proofs.YtmghfjcjcfaagaaGreat
open Go Go.RowKit
namespace RayF

end RayF
open RayF
def p4 (m : MQ) (j : Nat) : Rat := [m.a, m.b, m.c, m.d].getD j 0
end Go.Proofs.YtmghfjcjcfaagaaGreat

/- Contract of chapter 11 helper within; what a product that is answered is. -/
namespace Go.Proofs.YtmghfjcjcfaagaaGreat
open Go Go.RowKit
namespace RayG

end RayG
open RayG
end Go.Proofs.YtmghfjcjcfaagaaGreat

/- A function that writes a variable that is not its first argument; contracts of the helpers of chapter 9: less, alive, behind. -/
namespace Go.Proofs.YtmghfjcjcfaagaaGreat
open Go Go.RowKit
namespace RayH

end RayH
open RayH
theorem sub_self {A : As} : Sub A 0 A := fun B cs w h => by
  have hl := A.len B cs w h
  refine ⟨?_, by omega⟩
  rw [List.drop_zero, List.take_of_length_le (by omega)]
  exact h
end Go.Proofs.YtmghfjcjcfaagaaGreat

/- Sizes: how long products, sums and traces of small matrices are; chapter 9: two small matrices, one behind the other. -/
namespace Go.Proofs.YtmghfjcjcfaagaaGreat
open Go Go.RowKit
namespace RayI

end RayI
open RayI
end Go.Proofs.YtmghfjcjcfaagaaGreat

/- How long the entries of a product of three small matrices are: rows over a common denominator. -/
namespace Go.Proofs.YtmghfjcjcfaagaaGreat
open Go Go.RowKit
namespace RayJ

end RayJ
open RayJ
end Go.Proofs.YtmghfjcjcfaagaaGreat

/- A call behind a guard that is surely met, which writes a variable; Back and Mirror on small matrices. -/
namespace Go.Proofs.YtmghfjcjcfaagaaGreat
open Go Go.RowKit
namespace RayK

end RayK
open RayK
section
variable {P : Program} {R : Rg} {Q : Exit → Act → World → Prop} {B i : Nat} {w0 : Bs}
end
end Go.Proofs.YtmghfjcjcfaagaaGreat

/- Chapter 9: two matrices and two rays as arguments; rays through small matrices. -/
namespace Go.Proofs.YtmghfjcjcfaagaaGreat
open Go Go.RowKit
namespace RayL

end RayL
open RayL
end Go.Proofs.YtmghfjcjcfaagaaGreat
