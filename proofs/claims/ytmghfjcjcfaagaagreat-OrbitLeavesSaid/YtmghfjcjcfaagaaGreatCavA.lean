/- Contracts of package row (pair, Times, Through) and of package cavity without its benches: Kind, Two, Factors. -/
import Derived.Test.YtmghfjcjcfaagaaGreatRayL
namespace Go.Proofs.YtmghfjcjcfaagaaGreat
open Go Go.RowKit
namespace CavA
end CavA
open CavA
end Go.Proofs.YtmghfjcjcfaagaaGreat
