/- The pure statement of FnExactTallyAt: what its printed function answers. No condition beyond the sizes and ranges that Go's values have. -/
import Derived.Test.YtmohbiagcbfkpaaPFnExactTallyAtx0
import Derived.Test.YtmohbiagcbfkpaaPFnExactTallyAtx1
import Derived.Test.YtmohbiagcbfkpaaPFnExactTallyAtx2
import Derived.Test.YtmohbiagcbfkpaaPFnExactTallyAtx3
import Derived.Test.YtmohbiagcbfkpaaPFnExactTallyAtx4
import Derived.Test.YtmohbiagcbfkpaaPFnExactTallyAtx5
import Derived.Test.YtmohbiagcbfkpaaPFnExactTallyAtx6
import Derived.Test.YtmohbiagcbfkpaaOpen
namespace Go.Proofs.Ytmohbiagcbfkpaa.PFnExactTallyAt
open Go.RowKit Go.Proofs.YtmohbiagcbfkpaaW.PrintWords Go.Proofs.Ytmohbiagcbfkpaa.Open
/-- What an element of type 157 holds is in range. -/
def G157 (x : S157) : Prop := x.f0.size ≤ 9223372036854775807 ∧ (Lit.int .i64 x.f1).wf = true ∧ (Lit.int .i64 x.f2).wf = true
/-- What an element of type 23 holds is in range. -/
def G23 (x : S23) : Prop := (Lit.int .i64 x.f0).wf = true ∧ (Lit.int .i64 x.f1).wf = true
/-- What an element of type 160 holds is in range. -/
def G160 (x : S160) : Prop := True ∧ x.f1.size ≤ 9223372036854775807 ∧ x.f2.size ≤ 9223372036854775807 ∧ (Lit.int .i64 x.f3).wf = true ∧ G23 x.f4
/-- What an element of type 163 holds is in range. -/
def G163 (x : S163) : Prop := x.f0.size ≤ 9223372036854775807 ∧ G23 x.f1 ∧ (Lit.int .i64 x.f2).wf = true ∧ G23 x.f3 ∧ (Lit.int .i64 x.f4).wf = true ∧ True
def laws_FnExactTallyAt.Pure : Prop := ∀ (l0_0 : List Int) (l0_1 : List S157) (l0_2 : List S160) (l0_3 : List S163) (a1 : ByteArray) (a2 : Int), (l0_0.length ≤ 9223372036854775807 ∧ ∀ x ∈ l0_0, (Lit.int .i64 x).wf = true) → (l0_1.length ≤ 9223372036854775807 ∧ ∀ x ∈ l0_1, G157 x) → (l0_2.length ≤ 9223372036854775807 ∧ ∀ x ∈ l0_2, G160 x) → (l0_3.length ≤ 9223372036854775807 ∧ ∀ x ∈ l0_3, G163 x) → a1.size ≤ 9223372036854775807 → (Lit.int .i64 a2).wf = true → ∃ k, laws_FnExactTallyAt.f k l0_0 l0_1 l0_2 l0_3 a1 a2 = some true
end Go.Proofs.Ytmohbiagcbfkpaa.PFnExactTallyAt
