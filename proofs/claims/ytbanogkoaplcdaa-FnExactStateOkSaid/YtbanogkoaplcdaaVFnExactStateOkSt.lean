/- The pure statement of FnExactStateOk: what its printed function answers. No condition beyond the sizes and ranges that Go's values have. -/
import Derived.Test.YtbanogkoaplcdaaVFnExactStateOkQSOkx0
import Derived.Test.YtbanogkoaplcdaaVFnExactStateOkQSOkx1
import Derived.Test.YtbanogkoaplcdaaVFnExactStateOkQSOkx2
import Derived.Test.YtbanogkoaplcdaaVFnExactStateOkQSOkx3
import Derived.Test.YtbanogkoaplcdaaVFnExactStateOkQSOkx4
import Derived.Test.YtbanogkoaplcdaaVFnExactStateOkQSOkx5
import Derived.Test.YtbanogkoaplcdaaVFnExactStateOkQSOkx6
import Derived.Test.YtbanogkoaplcdaaVFnExactStateOkQSOkx7
import Derived.Test.YtbanogkoaplcdaaVFnExactStateOkQSOkx8
import Derived.Test.YtbanogkoaplcdaaVFnExactStateOkQSOkx9
import Derived.Test.YtbanogkoaplcdaaVFnExactStateOkQSOkx10
import Derived.Test.YtbanogkoaplcdaaVFnExactStateOkQSOkx11
import Derived.Test.YtbanogkoaplcdaaVFnExactStateOkQSOkx12
import Derived.Test.YtbanogkoaplcdaaVFnExactStateOkQSOkx13
import Derived.Test.YtbanogkoaplcdaaVFnExactStateOkQSOkx14
import Derived.Test.YtbanogkoaplcdaaVFnExactStateOkQSOkx15
import Derived.Test.YtbanogkoaplcdaaVFnExactStateOkQSOkx16
import Derived.Test.YtbanogkoaplcdaaVFnExactStateOkQSOkx17
import Derived.Test.YtbanogkoaplcdaaVFnExactStateOkOpen
namespace Go.Proofs.Ytbanogkoaplcdaa.QSOk
open Go.RowKit Go.Proofs.YtbanogkoaplcdaaW.PrintWords Go.Proofs.Ytbanogkoaplcdaa.Open
def G112 (x : S112) : Prop := x.f0.size ≤ 9223372036854775807 ∧ (Lit.int .i64 x.f1).wf = true ∧ (Lit.int .i64 x.f2).wf = true
def G29 (x : S29) : Prop := (Lit.int .i64 x.f0).wf = true ∧ (Lit.int .i64 x.f1).wf = true
def G115 (x : S115) : Prop := True ∧ x.f1.size ≤ 9223372036854775807 ∧ x.f2.size ≤ 9223372036854775807 ∧ (Lit.int .i64 x.f3).wf = true ∧ G29 x.f4
def G118 (x : S118) : Prop := x.f0.size ≤ 9223372036854775807 ∧ G29 x.f1 ∧ (Lit.int .i64 x.f2).wf = true ∧ G29 x.f3 ∧ (Lit.int .i64 x.f4).wf = true ∧ True
def laws_FnExactStateOk.Pure : Prop := ∀ (l0_0 : List Int) (l0_1 : List S112) (l0_2 : List S115) (l0_3 : List S118), (l0_0.length ≤ 9223372036854775807 ∧ ∀ x ∈ l0_0, (Lit.int .i64 x).wf = true) → (l0_1.length ≤ 9223372036854775807 ∧ ∀ x ∈ l0_1, G112 x) → (l0_2.length ≤ 9223372036854775807 ∧ ∀ x ∈ l0_2, G115 x) → (l0_3.length ≤ 9223372036854775807 ∧ ∀ x ∈ l0_3, G118 x) → ∃ k, laws_FnExactStateOk.f k l0_0 l0_1 l0_2 l0_3 = some true
end Go.Proofs.Ytbanogkoaplcdaa.QSOk
