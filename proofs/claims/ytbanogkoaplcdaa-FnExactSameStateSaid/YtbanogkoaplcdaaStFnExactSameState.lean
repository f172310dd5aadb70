/- The pure statement of FnExactSameState: what its printed function answers. No condition beyond the sizes and ranges that Go's values have. -/
import Derived.Test.YtbanogkoaplcdaaQFnExactSameStatex0
import Derived.Test.YtbanogkoaplcdaaQFnExactSameStatex1
import Derived.Test.YtbanogkoaplcdaaQFnExactSameStatex2
import Derived.Test.YtbanogkoaplcdaaQFnExactSameStatex3
import Derived.Test.YtbanogkoaplcdaaQFnExactSameStatex4
import Derived.Test.YtbanogkoaplcdaaQFnExactSameStatex5
import Derived.Test.YtbanogkoaplcdaaQFnExactSameStatex6
import Derived.Test.YtbanogkoaplcdaaQFnExactSameStatex7
import Derived.Test.YtbanogkoaplcdaaQFnExactSameStatex8
import Derived.Test.YtbanogkoaplcdaaQFnExactSameStatex9
import Derived.Test.YtbanogkoaplcdaaQFnExactSameStatex10
import Derived.Test.YtbanogkoaplcdaaQFnExactSameStatex11
import Derived.Test.YtbanogkoaplcdaaOpen
namespace Go.Proofs.Ytbanogkoaplcdaa.QFnExactSameState
open Go.RowKit Go.Proofs.YtbanogkoaplcdaaW.PrintWords Go.Proofs.Ytbanogkoaplcdaa.Open
/-- What an element of type 112 holds is in range. -/
def G112 (x : S112) : Prop := x.f0.size ≤ 9223372036854775807 ∧ (Lit.int .i64 x.f1).wf = true ∧ (Lit.int .i64 x.f2).wf = true
/-- What an element of type 29 holds is in range. -/
def G29 (x : S29) : Prop := (Lit.int .i64 x.f0).wf = true ∧ (Lit.int .i64 x.f1).wf = true
/-- What an element of type 115 holds is in range. -/
def G115 (x : S115) : Prop := True ∧ x.f1.size ≤ 9223372036854775807 ∧ x.f2.size ≤ 9223372036854775807 ∧ (Lit.int .i64 x.f3).wf = true ∧ G29 x.f4
/-- What an element of type 118 holds is in range. -/
def G118 (x : S118) : Prop := x.f0.size ≤ 9223372036854775807 ∧ G29 x.f1 ∧ (Lit.int .i64 x.f2).wf = true ∧ G29 x.f3 ∧ (Lit.int .i64 x.f4).wf = true ∧ True
def laws_FnExactSameState.Pure : Prop := ∀ (l0_0 : List Int) (l0_1 : List S112) (l0_2 : List S115) (l0_3 : List S118) (l1_0 : List Int) (l1_1 : List S112) (l1_2 : List S115) (l1_3 : List S118), (l0_0.length ≤ 9223372036854775807 ∧ ∀ x ∈ l0_0, (Lit.int .i64 x).wf = true) → (l0_1.length ≤ 9223372036854775807 ∧ ∀ x ∈ l0_1, G112 x) → (l0_2.length ≤ 9223372036854775807 ∧ ∀ x ∈ l0_2, G115 x) → (l0_3.length ≤ 9223372036854775807 ∧ ∀ x ∈ l0_3, G118 x) → (l1_0.length ≤ 9223372036854775807 ∧ ∀ x ∈ l1_0, (Lit.int .i64 x).wf = true) → (l1_1.length ≤ 9223372036854775807 ∧ ∀ x ∈ l1_1, G112 x) → (l1_2.length ≤ 9223372036854775807 ∧ ∀ x ∈ l1_2, G115 x) → (l1_3.length ≤ 9223372036854775807 ∧ ∀ x ∈ l1_3, G118 x) → ∃ k, laws_FnExactSameState.f k l0_0 l0_1 l0_2 l0_3 l1_0 l1_1 l1_2 l1_3 = some true
end Go.Proofs.Ytbanogkoaplcdaa.QFnExactSameState
