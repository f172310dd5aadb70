/- The pure statement of FnExactLivesOf: what its printed function answers. No condition beyond the sizes and ranges that Go's values have. -/
import Derived.Test.YtmohbiagcbfkpaaVFnExactLivesOfQActx0
import Derived.Test.YtmohbiagcbfkpaaVFnExactLivesOfQActx1
import Derived.Test.YtmohbiagcbfkpaaVFnExactLivesOfQActx2
import Derived.Test.YtmohbiagcbfkpaaVFnExactLivesOfQActx3
import Derived.Test.YtmohbiagcbfkpaaVFnExactLivesOfQActx18
import Derived.Test.YtmohbiagcbfkpaaVFnExactLivesOfQActx19
import Derived.Test.YtmohbiagcbfkpaaVFnExactLivesOfQActx20
import Derived.Test.YtmohbiagcbfkpaaVFnExactLivesOfQActx21
import Derived.Test.YtmohbiagcbfkpaaVFnExactLivesOfQActx22
import Derived.Test.YtmohbiagcbfkpaaVFnExactLivesOfQActx23
import Derived.Test.YtmohbiagcbfkpaaVFnExactLivesOfQActx24
import Derived.Test.YtmohbiagcbfkpaaVFnExactLivesOfQActx25
import Derived.Test.YtmohbiagcbfkpaaVFnExactLivesOfOpen
namespace Go.Proofs.Ytmohbiagcbfkpaa.QAct
open Go.RowKit Go.Proofs.YtmohbiagcbfkpaaW.PrintWords Go.Proofs.Ytmohbiagcbfkpaa.Open
def G157 (x : S157) : Prop := x.f0.size ≤ 9223372036854775807 ∧ (Lit.int .i64 x.f1).wf = true ∧ (Lit.int .i64 x.f2).wf = true
def G23 (x : S23) : Prop := (Lit.int .i64 x.f0).wf = true ∧ (Lit.int .i64 x.f1).wf = true
def G160 (x : S160) : Prop := True ∧ x.f1.size ≤ 9223372036854775807 ∧ x.f2.size ≤ 9223372036854775807 ∧ (Lit.int .i64 x.f3).wf = true ∧ G23 x.f4
def G163 (x : S163) : Prop := x.f0.size ≤ 9223372036854775807 ∧ G23 x.f1 ∧ (Lit.int .i64 x.f2).wf = true ∧ G23 x.f3 ∧ (Lit.int .i64 x.f4).wf = true ∧ True
def laws_FnExactLivesOf.Pure : Prop := ∀ (l0_0 : List Int) (l0_1 : List S157) (l0_2 : List S160) (l0_3 : List S163) (a1 : Bool) (a2 : ByteArray) (a3 : ByteArray), (l0_0.length ≤ 9223372036854775807 ∧ ∀ x ∈ l0_0, (Lit.int .i64 x).wf = true) → (l0_1.length ≤ 9223372036854775807 ∧ ∀ x ∈ l0_1, G157 x) → (l0_2.length ≤ 9223372036854775807 ∧ ∀ x ∈ l0_2, G160 x) → (l0_3.length ≤ 9223372036854775807 ∧ ∀ x ∈ l0_3, G163 x) → a2.size ≤ 9223372036854775807 → a3.size ≤ 9223372036854775807 → ∃ k, laws_FnExactLivesOf.f k l0_0 l0_1 l0_2 l0_3 a1 a2 a3 = some true
end Go.Proofs.Ytmohbiagcbfkpaa.QAct
