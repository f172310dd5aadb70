/- The pure statement of FnTurned: what its printed function answers. No condition beyond the sizes and ranges that Go's values have. -/
import Derived.Test.YtmohbiagcbfkpaaQDrawx0
import Derived.Test.YtmohbiagcbfkpaaQDrawx3
import Derived.Test.YtmohbiagcbfkpaaQDrawx13
import Derived.Test.YtmohbiagcbfkpaaQDrawx14
import Derived.Test.YtmohbiagcbfkpaaOpen
namespace Go.Proofs.Ytmohbiagcbfkpaa.QDraw
open Go.RowKit Go.Proofs.YtmohbiagcbfkpaaW.PrintWords Go.Proofs.Ytmohbiagcbfkpaa.Open
def laws_FnTurned.Pure : Prop := ∀ (l0 : List Int), (l0.length ≤ 9223372036854775807 ∧ ∀ x ∈ l0, (Lit.int .u8 x).wf = true) → ∃ k, laws_FnTurned.f k l0 = some true
end Go.Proofs.Ytmohbiagcbfkpaa.QDraw
