import Derived.Test.YtmghfjcjcfaagaaGreatLeafQ
namespace Go.Proofs.YtmghfjcjcfaagaaGreat
open Go Go.RowKit
namespace LeafR
end LeafR
open LeafR
end Go.Proofs.YtmghfjcjcfaagaaGreat
