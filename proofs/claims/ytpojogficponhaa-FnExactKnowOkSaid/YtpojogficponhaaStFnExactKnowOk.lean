/- The pure statement of FnExactKnowOk: what its printed function answers. No condition beyond the sizes and ranges that Go's values have. -/
import Derived.Test.YtpojogficponhaaPFnExactKnowOkx0
import Derived.Test.YtpojogficponhaaPFnExactKnowOkx1
import Derived.Test.YtpojogficponhaaOpen
namespace Go.Proofs.Ytpojogficponhaa.PFnExactKnowOk
open Go.RowKit Go.Proofs.YtpojogficponhaaW.PrintWords Go.Proofs.Ytpojogficponhaa.Open
def laws_FnExactKnowOk.Pure0 : Prop := ∀ (l0 : List Int), (l0.length ≤ 9223372036854775807 ∧ ∀ x ∈ l0, (Lit.int .i64 x).wf = true) → ∃ k, laws_FnExactKnowOk.f k l0 = some true
end Go.Proofs.Ytpojogficponhaa.PFnExactKnowOk
