/- The pure statement of FnExactKnowIn: what its printed function answers. No condition beyond the sizes and ranges that Go's values have. -/
import Derived.Test.YtfaiggdikdndnaaPFnExactKnowInx0
import Derived.Test.YtfaiggdikdndnaaPFnExactKnowInx1
import Derived.Test.YtfaiggdikdndnaaPFnExactKnowInx2
import Derived.Test.YtfaiggdikdndnaaOpen
namespace Go.Proofs.Ytfaiggdikdndnaa.PFnExactKnowIn
open Go.RowKit Go.Proofs.YtfaiggdikdndnaaW.PrintWords Go.Proofs.Ytfaiggdikdndnaa.Open
def laws_FnExactKnowIn.Pure0 : Prop := ∀ (l0 : List Int) (l1 : List Int), (l0.length ≤ 9223372036854775807 ∧ ∀ x ∈ l0, (Lit.int .i64 x).wf = true) → (l1.length ≤ 9223372036854775807 ∧ ∀ x ∈ l1, (Lit.int .i64 x).wf = true) → ∃ k, laws_FnExactKnowIn.f k l0 l1 = some true
end Go.Proofs.Ytfaiggdikdndnaa.PFnExactKnowIn
