import Derived.Test.YtmghfjcjcfaagaaGreatLeafV
namespace Go.Proofs.YtmghfjcjcfaagaaGreat
open Go Go.RowKit
namespace LeafW
end LeafW
open LeafW
/-! small numbers; beams that may be -/
/-- a beam that may be, as numbers. -/
structure OkG (p : GQ) : Prop where
  re : longQ p.re = false
  im : longQ p.im = false
  pos : 0 < p.im
end Go.Proofs.YtmghfjcjcfaagaaGreat
