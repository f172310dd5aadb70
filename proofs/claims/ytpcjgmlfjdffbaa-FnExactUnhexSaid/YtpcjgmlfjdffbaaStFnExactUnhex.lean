/- The pure statement of FnExactUnhex: what its printed function answers. No condition beyond the sizes and ranges that Go's values have. -/
import Derived.Test.YtpcjgmlfjdffbaaQFnExactUnhexx0
import Derived.Test.YtpcjgmlfjdffbaaQFnExactUnhexx1
import Derived.Test.YtpcjgmlfjdffbaaOpen
namespace Go.Proofs.Ytpcjgmlfjdffbaa.QFnExactUnhex
open Go.RowKit Go.Proofs.YtpcjgmlfjdffbaaW.PrintWords Go.Proofs.Ytpcjgmlfjdffbaa.Open
def laws_FnExactUnhex.Pure : Prop := ∀ (a0 : ByteArray), a0.size ≤ 9223372036854775807 → ∃ k, laws_FnExactUnhex.f k a0 = some true
end Go.Proofs.Ytpcjgmlfjdffbaa.QFnExactUnhex
