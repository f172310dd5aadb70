/- The pure statement of FnExactActText: what its printed function answers. No condition beyond the sizes and ranges that Go's values have. -/
import Derived.Test.YtmohbiagcbfkpaaVFnExactActTextQActx0
import Derived.Test.YtmohbiagcbfkpaaVFnExactActTextQActx1
import Derived.Test.YtmohbiagcbfkpaaVFnExactActTextQActx2
import Derived.Test.YtmohbiagcbfkpaaVFnExactActTextQActx3
import Derived.Test.YtmohbiagcbfkpaaVFnExactActTextQActx4
import Derived.Test.YtmohbiagcbfkpaaVFnExactActTextQActx5
import Derived.Test.YtmohbiagcbfkpaaVFnExactActTextQActx6
import Derived.Test.YtmohbiagcbfkpaaVFnExactActTextQActx7
import Derived.Test.YtmohbiagcbfkpaaVFnExactActTextQActx8
import Derived.Test.YtmohbiagcbfkpaaVFnExactActTextQActx9
import Derived.Test.YtmohbiagcbfkpaaVFnExactActTextQActx10
import Derived.Test.YtmohbiagcbfkpaaVFnExactActTextQActx11
import Derived.Test.YtmohbiagcbfkpaaVFnExactActTextQActx12
import Derived.Test.YtmohbiagcbfkpaaVFnExactActTextQActx13
import Derived.Test.YtmohbiagcbfkpaaVFnExactActTextQActx14
import Derived.Test.YtmohbiagcbfkpaaVFnExactActTextQActx15
import Derived.Test.YtmohbiagcbfkpaaVFnExactActTextOpen
namespace Go.Proofs.Ytmohbiagcbfkpaa.QAct
open Go.RowKit Go.Proofs.YtmohbiagcbfkpaaW.PrintWords Go.Proofs.Ytmohbiagcbfkpaa.Open
def laws_FnExactActText.Pure : Prop := ∀ (a0_0 : Int) (a0_1 : Int) (a0_2 : Int) (l0_3 : List Int) (a0_4 : Int) (a0_5 : ByteArray) (a0_6 : ByteArray) (a0_7 : Int) (a0_8 : Int) (a0_9 : Int), (Lit.int .i64 a0_0).wf = true → (Lit.int .i64 a0_1).wf = true → (Lit.int .i64 a0_2).wf = true → (l0_3.length ≤ 9223372036854775807 ∧ ∀ x ∈ l0_3, (Lit.int .i64 x).wf = true) → (Lit.int .i64 a0_4).wf = true → a0_5.size ≤ 9223372036854775807 → a0_6.size ≤ 9223372036854775807 → (Lit.int .i64 a0_7).wf = true → (Lit.int .i64 a0_8).wf = true → (Lit.int .i64 a0_9).wf = true → ∃ k, laws_FnExactActText.f k a0_0 a0_1 a0_2 l0_3 a0_4 a0_5 a0_6 a0_7 a0_8 a0_9 = some true
end Go.Proofs.Ytmohbiagcbfkpaa.QAct
