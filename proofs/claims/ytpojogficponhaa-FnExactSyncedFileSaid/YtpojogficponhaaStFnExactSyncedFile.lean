/- The pure statement of FnExactSyncedFile: what its printed function answers. No condition beyond the sizes and ranges that Go's values have. -/
import Derived.Test.YtpojogficponhaaPFnExactSyncedFilex0
import Derived.Test.YtpojogficponhaaPFnExactSyncedFilex1
import Derived.Test.YtpojogficponhaaOpen
namespace Go.Proofs.Ytpojogficponhaa.PFnExactSyncedFile
open Go.RowKit Go.Proofs.YtpojogficponhaaW.PrintWords Go.Proofs.Ytpojogficponhaa.Open
def laws_FnExactSyncedFile.Pure : Prop := ∀ (a0_0 : ByteArray) (a0_1 : Int), a0_0.size ≤ 9223372036854775807 → (Lit.int .i64 a0_1).wf = true → laws_FnExactSyncedFile.f a0_0 a0_1 = some true
end Go.Proofs.Ytpojogficponhaa.PFnExactSyncedFile
