/- Elements: which may be, the matrix of each and of all; how long its entries are. Contracts of bench.Check, Matrix, One, row.Matrix, Through. -/
import Derived.Test.YtmghfjcjcfaagaaGreatBenA
namespace Go.Proofs.YtmghfjcjcfaagaaGreat
open Go Go.RowKit
namespace BenB
end BenB
open BenB
/-! entries over one denominator -/
end Go.Proofs.YtmghfjcjcfaagaaGreat
