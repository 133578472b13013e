/- Reading an argument that is a slice of structs. -/
import Derived.Test.YtmghfjcjcfaagaaGreatLeafX
import Derived.ProofKit
import Derived.OpenShut
import Derived.ChangeOld
import Derived.Below
import Derived.Deep.Slices
namespace Go.Proofs.YtmghfjcjcfaagaaGreat
open Go Go.RowKit
namespace MatC

end MatC
open MatC
open Go.ChangeShapes Go.WideShapes Go.ChangeAt
section
variable {H : Type} {enc : TypeId × Value → H} {w : World} {base : Nat} {spare : Nat → Bool} {held : Bool} {fuel : Nat} {cs : List Value} {x : DataW H × List MemPlace}
end

end Go.Proofs.YtmghfjcjcfaagaaGreat
