/- The pure statement of FnExactDotsIn: what its printed function answers. No condition beyond the sizes and ranges that Go's values have. -/
import Derived.Test.YtfaiggdikdndnaaPFnExactDotsInx0
import Derived.Test.YtfaiggdikdndnaaPFnExactDotsInx1
import Derived.Test.YtfaiggdikdndnaaPFnExactDotsInx2
import Derived.Test.YtfaiggdikdndnaaPFnExactDotsInx3
import Derived.Test.YtfaiggdikdndnaaOpen
namespace Go.Proofs.Ytfaiggdikdndnaa.PFnExactDotsIn
open Go.RowKit Go.Proofs.YtfaiggdikdndnaaW.PrintWords Go.Proofs.Ytfaiggdikdndnaa.Open
def laws_FnExactDotsIn.Pure0 : Prop := ∀ (l0 : List Int) (l1 : List Int), (l0.length ≤ 9223372036854775807 ∧ ∀ x ∈ l0, (Lit.int .i64 x).wf = true) → (l1.length ≤ 9223372036854775807 ∧ ∀ x ∈ l1, (Lit.int .i64 x).wf = true) → ∃ k, laws_FnExactDotsIn.f k l0 l1 = some true
end Go.Proofs.Ytfaiggdikdndnaa.PFnExactDotsIn
