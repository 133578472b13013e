/- Plain laws for chapter 20: what a thin lens and a space make of a beam. No program in sight. -/
import Derived.Test.YtmghfjcjcfaagaaGreatLeafW
import Derived.WalkKit
namespace Go.Proofs.YtmghfjcjcfaagaaGreat
open Go Go.RowKit
namespace LeafX

end LeafX
open LeafX
theorem div_pos {x y : Rat} (h : 0 < x) (h' : 0 < y) : 0 < x / y := Rat.mul_pos h (Rat.inv_pos.2 h')

/-! the algebra of a lens, of a space -/
end Go.Proofs.YtmghfjcjcfaagaaGreat
