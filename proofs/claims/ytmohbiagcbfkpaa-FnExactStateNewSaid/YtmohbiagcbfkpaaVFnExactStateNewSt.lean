/- The pure statement of FnExactStateNew: what its printed function answers. No condition beyond the sizes and ranges that Go's values have. -/
import Derived.Test.YtmohbiagcbfkpaaVFnExactStateNewQActx0
import Derived.Test.YtmohbiagcbfkpaaVFnExactStateNewQActx1
import Derived.Test.YtmohbiagcbfkpaaVFnExactStateNewQActx2
import Derived.Test.YtmohbiagcbfkpaaVFnExactStateNewQActx3
import Derived.Test.YtmohbiagcbfkpaaVFnExactStateNewQActx18
import Derived.Test.YtmohbiagcbfkpaaVFnExactStateNewQActx19
import Derived.Test.YtmohbiagcbfkpaaVFnExactStateNewQActx20
import Derived.Test.YtmohbiagcbfkpaaVFnExactStateNewQActx21
import Derived.Test.YtmohbiagcbfkpaaVFnExactStateNewQActx22
import Derived.Test.YtmohbiagcbfkpaaVFnExactStateNewQActx23
import Derived.Test.YtmohbiagcbfkpaaVFnExactStateNewQActx24
import Derived.Test.YtmohbiagcbfkpaaVFnExactStateNewQActx25
import Derived.Test.YtmohbiagcbfkpaaVFnExactStateNewQActx26
import Derived.Test.YtmohbiagcbfkpaaVFnExactStateNewQActx27
import Derived.Test.YtmohbiagcbfkpaaVFnExactStateNewQActx28
import Derived.Test.YtmohbiagcbfkpaaVFnExactStateNewOpen
namespace Go.Proofs.Ytmohbiagcbfkpaa.QAct
open Go.RowKit Go.Proofs.YtmohbiagcbfkpaaW.PrintWords Go.Proofs.Ytmohbiagcbfkpaa.Open
def laws_FnExactStateNew.Pure : Prop := ∃ k, laws_FnExactStateNew.f k  = some true
end Go.Proofs.Ytmohbiagcbfkpaa.QAct
