/- The pure statement of FnKnows: what its printed function answers. No condition beyond the sizes and ranges that Go's values have. -/
import Derived.Test.YtmohbiagcbfkpaaVFnKnowsQDrawx0
import Derived.Test.YtmohbiagcbfkpaaVFnKnowsQDrawx1
import Derived.Test.YtmohbiagcbfkpaaVFnKnowsQDrawx3
import Derived.Test.YtmohbiagcbfkpaaVFnKnowsQDrawx4
import Derived.Test.YtmohbiagcbfkpaaVFnKnowsQDrawx6
import Derived.Test.YtmohbiagcbfkpaaVFnKnowsQDrawx7
import Derived.Test.YtmohbiagcbfkpaaVFnKnowsQDrawx8
import Derived.Test.YtmohbiagcbfkpaaVFnKnowsQDrawx9
import Derived.Test.YtmohbiagcbfkpaaVFnKnowsQDrawx10
import Derived.Test.YtmohbiagcbfkpaaVFnKnowsQDrawx11
import Derived.Test.YtmohbiagcbfkpaaVFnKnowsQDrawx12
import Derived.Test.YtmohbiagcbfkpaaVFnKnowsOpen
namespace Go.Proofs.Ytmohbiagcbfkpaa.QDraw
open Go.RowKit Go.Proofs.YtmohbiagcbfkpaaW.PrintWords Go.Proofs.Ytmohbiagcbfkpaa.Open
def laws_FnKnows.Pure : Prop := ∀ (l0 : List Int), (l0.length ≤ 9223372036854775807 ∧ ∀ x ∈ l0, (Lit.int .u8 x).wf = true) → ∃ k, laws_FnKnows.f k l0 = some true
end Go.Proofs.Ytmohbiagcbfkpaa.QDraw
