/- The pure statement of FnExactKnowMin: what its printed function answers. No condition beyond the sizes and ranges that Go's values have. -/
import Derived.Test.YtfaiggdikdndnaaPFnExactKnowMinx0
import Derived.Test.YtfaiggdikdndnaaPFnExactKnowMinx1
import Derived.Test.YtfaiggdikdndnaaPFnExactKnowMinx2
import Derived.Test.YtfaiggdikdndnaaPFnExactKnowMinx3
import Derived.Test.YtfaiggdikdndnaaOpen
namespace Go.Proofs.Ytfaiggdikdndnaa.PFnExactKnowMin
open Go.RowKit Go.Proofs.YtfaiggdikdndnaaW.PrintWords Go.Proofs.Ytfaiggdikdndnaa.Open
def laws_FnExactKnowMin.Pure0 : Prop := ∀ (l0 : List Int) (l1 : List Int), (l0.length ≤ 9223372036854775807 ∧ ∀ x ∈ l0, (Lit.int .i64 x).wf = true) → (l1.length ≤ 9223372036854775807 ∧ ∀ x ∈ l1, (Lit.int .i64 x).wf = true) → ∃ k, laws_FnExactKnowMin.f k l0 l1 = some true
end Go.Proofs.Ytfaiggdikdndnaa.PFnExactKnowMin
