/- The pure statement of FnExactMapOf: what its printed function answers. No condition beyond the sizes and ranges that Go's values have. -/
import Derived.Test.YtbanogkoaplcdaaVFnExactMapOfQx0
import Derived.Test.YtbanogkoaplcdaaVFnExactMapOfQx1
import Derived.Test.YtbanogkoaplcdaaVFnExactMapOfQx2
import Derived.Test.YtbanogkoaplcdaaVFnExactMapOfQx3
import Derived.Test.YtbanogkoaplcdaaVFnExactMapOfQx4
import Derived.Test.YtbanogkoaplcdaaVFnExactMapOfQx5
import Derived.Test.YtbanogkoaplcdaaVFnExactMapOfQx6
import Derived.Test.YtbanogkoaplcdaaVFnExactMapOfQx7
import Derived.Test.YtbanogkoaplcdaaVFnExactMapOfQx8
import Derived.Test.YtbanogkoaplcdaaVFnExactMapOfQx9
import Derived.Test.YtbanogkoaplcdaaVFnExactMapOfQx10
import Derived.Test.YtbanogkoaplcdaaVFnExactMapOfQx11
import Derived.Test.YtbanogkoaplcdaaVFnExactMapOfQx12
import Derived.Test.YtbanogkoaplcdaaVFnExactMapOfQx13
import Derived.Test.YtbanogkoaplcdaaVFnExactMapOfQx14
import Derived.Test.YtbanogkoaplcdaaVFnExactMapOfQx23
import Derived.Test.YtbanogkoaplcdaaVFnExactMapOfQx24
import Derived.Test.YtbanogkoaplcdaaVFnExactMapOfOpen
namespace Go.Proofs.Ytbanogkoaplcdaa.QFnExactMapOf
open Go.RowKit Go.Proofs.YtbanogkoaplcdaaW.PrintWords Go.Proofs.Ytbanogkoaplcdaa.Open
def G112 (x : S112) : Prop := x.f0.size ≤ 9223372036854775807 ∧ (Lit.int .i64 x.f1).wf = true ∧ (Lit.int .i64 x.f2).wf = true
def G29 (x : S29) : Prop := (Lit.int .i64 x.f0).wf = true ∧ (Lit.int .i64 x.f1).wf = true
def G115 (x : S115) : Prop := True ∧ x.f1.size ≤ 9223372036854775807 ∧ x.f2.size ≤ 9223372036854775807 ∧ (Lit.int .i64 x.f3).wf = true ∧ G29 x.f4
def G118 (x : S118) : Prop := x.f0.size ≤ 9223372036854775807 ∧ G29 x.f1 ∧ (Lit.int .i64 x.f2).wf = true ∧ G29 x.f3 ∧ (Lit.int .i64 x.f4).wf = true ∧ True
def laws_FnExactMapOf.Pure : Prop := ∀ (l0_0 : List Int) (l0_1 : List S112) (l0_2 : List S115) (l0_3 : List S118) (a1 : ByteArray) (a2 : ByteArray), (l0_0.length ≤ 9223372036854775807 ∧ ∀ x ∈ l0_0, (Lit.int .i64 x).wf = true) → (l0_1.length ≤ 9223372036854775807 ∧ ∀ x ∈ l0_1, G112 x) → (l0_2.length ≤ 9223372036854775807 ∧ ∀ x ∈ l0_2, G115 x) → (l0_3.length ≤ 9223372036854775807 ∧ ∀ x ∈ l0_3, G118 x) → a1.size ≤ 9223372036854775807 → a2.size ≤ 9223372036854775807 → ∃ k, laws_FnExactMapOf.f k l0_0 l0_1 l0_2 l0_3 a1 a2 = some true
end Go.Proofs.Ytbanogkoaplcdaa.QFnExactMapOf
