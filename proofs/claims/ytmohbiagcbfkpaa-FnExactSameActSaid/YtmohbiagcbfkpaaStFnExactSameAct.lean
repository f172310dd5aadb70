/- The pure statement of FnExactSameAct: what its printed function answers. No condition beyond the sizes and ranges that Go's values have. -/
import Derived.Test.YtmohbiagcbfkpaaQActx0
import Derived.Test.YtmohbiagcbfkpaaQActx1
import Derived.Test.YtmohbiagcbfkpaaQActx2
import Derived.Test.YtmohbiagcbfkpaaQActx3
import Derived.Test.YtmohbiagcbfkpaaQActx4
import Derived.Test.YtmohbiagcbfkpaaOpen
namespace Go.Proofs.Ytmohbiagcbfkpaa.QAct
open Go.RowKit Go.Proofs.YtmohbiagcbfkpaaW.PrintWords Go.Proofs.Ytmohbiagcbfkpaa.Open
def laws_FnExactSameAct.Pure : Prop := ∀ (a0_0 : Int) (a0_1 : Int) (a0_2 : Int) (l0_3 : List Int) (a0_4 : Int) (a0_5 : ByteArray) (a0_6 : ByteArray) (a0_7 : Int) (a0_8 : Int) (a0_9 : Int) (a1_0 : Int) (a1_1 : Int) (a1_2 : Int) (l1_3 : List Int) (a1_4 : Int) (a1_5 : ByteArray) (a1_6 : ByteArray) (a1_7 : Int) (a1_8 : Int) (a1_9 : Int), (Lit.int .i64 a0_0).wf = true → (Lit.int .i64 a0_1).wf = true → (Lit.int .i64 a0_2).wf = true → (l0_3.length ≤ 9223372036854775807 ∧ ∀ x ∈ l0_3, (Lit.int .i64 x).wf = true) → (Lit.int .i64 a0_4).wf = true → a0_5.size ≤ 9223372036854775807 → a0_6.size ≤ 9223372036854775807 → (Lit.int .i64 a0_7).wf = true → (Lit.int .i64 a0_8).wf = true → (Lit.int .i64 a0_9).wf = true → (Lit.int .i64 a1_0).wf = true → (Lit.int .i64 a1_1).wf = true → (Lit.int .i64 a1_2).wf = true → (l1_3.length ≤ 9223372036854775807 ∧ ∀ x ∈ l1_3, (Lit.int .i64 x).wf = true) → (Lit.int .i64 a1_4).wf = true → a1_5.size ≤ 9223372036854775807 → a1_6.size ≤ 9223372036854775807 → (Lit.int .i64 a1_7).wf = true → (Lit.int .i64 a1_8).wf = true → (Lit.int .i64 a1_9).wf = true → ∃ k, laws_FnExactSameAct.f k a0_0 a0_1 a0_2 l0_3 a0_4 a0_5 a0_6 a0_7 a0_8 a0_9 a1_0 a1_1 a1_2 l1_3 a1_4 a1_5 a1_6 a1_7 a1_8 a1_9 = some true
end Go.Proofs.Ytmohbiagcbfkpaa.QAct
