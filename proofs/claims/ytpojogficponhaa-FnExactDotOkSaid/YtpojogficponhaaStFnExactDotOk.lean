/- The pure statement of FnExactDotOk: what its printed function answers. No condition beyond the sizes and ranges that Go's values have. -/
import Derived.Test.YtpojogficponhaaPFnExactDotOkx0
import Derived.Test.YtpojogficponhaaPFnExactDotOkx1
import Derived.Test.YtpojogficponhaaOpen
namespace Go.Proofs.Ytpojogficponhaa.PFnExactDotOk
open Go.RowKit Go.Proofs.YtpojogficponhaaW.PrintWords Go.Proofs.Ytpojogficponhaa.Open
def laws_FnExactDotOk.Pure : Prop := ∀ (a0_0 : Int) (a0_1 : Int), (Lit.int .i64 a0_0).wf = true → (Lit.int .i64 a0_1).wf = true → laws_FnExactDotOk.f a0_0 a0_1 = some true
end Go.Proofs.Ytpojogficponhaa.PFnExactDotOk
