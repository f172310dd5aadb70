/- The pure statement of FnExactCellAt: what its printed function answers. No condition beyond the sizes and ranges that Go's values have. -/
import Derived.Test.YtbanogkoaplcdaaQCellx0
import Derived.Test.YtbanogkoaplcdaaQCellx1
import Derived.Test.YtbanogkoaplcdaaQCellx2
import Derived.Test.YtbanogkoaplcdaaQCellx3
import Derived.Test.YtbanogkoaplcdaaQCellx4
import Derived.Test.YtbanogkoaplcdaaQCellx5
import Derived.Test.YtbanogkoaplcdaaQCellx6
import Derived.Test.YtbanogkoaplcdaaQCellx7
import Derived.Test.YtbanogkoaplcdaaOpen
namespace Go.Proofs.Ytbanogkoaplcdaa.QCell
open Go.RowKit Go.Proofs.YtbanogkoaplcdaaW.PrintWords Go.Proofs.Ytbanogkoaplcdaa.Open
/-- What an element of type 112 holds is in range. -/
def G112 (x : S112) : Prop := x.f0.size ≤ 9223372036854775807 ∧ (Lit.int .i64 x.f1).wf = true ∧ (Lit.int .i64 x.f2).wf = true
/-- What an element of type 29 holds is in range. -/
def G29 (x : S29) : Prop := (Lit.int .i64 x.f0).wf = true ∧ (Lit.int .i64 x.f1).wf = true
/-- What an element of type 115 holds is in range. -/
def G115 (x : S115) : Prop := True ∧ x.f1.size ≤ 9223372036854775807 ∧ x.f2.size ≤ 9223372036854775807 ∧ (Lit.int .i64 x.f3).wf = true ∧ G29 x.f4
/-- What an element of type 118 holds is in range. -/
def G118 (x : S118) : Prop := x.f0.size ≤ 9223372036854775807 ∧ G29 x.f1 ∧ (Lit.int .i64 x.f2).wf = true ∧ G29 x.f3 ∧ (Lit.int .i64 x.f4).wf = true ∧ True
def laws_FnExactCellAt.Pure : Prop := ∀ (l0_0 : List Int) (l0_1 : List S112) (l0_2 : List S115) (l0_3 : List S118) (a1_0 : Int) (a1_1 : Int), (l0_0.length ≤ 9223372036854775807 ∧ ∀ x ∈ l0_0, (Lit.int .i64 x).wf = true) → (l0_1.length ≤ 9223372036854775807 ∧ ∀ x ∈ l0_1, G112 x) → (l0_2.length ≤ 9223372036854775807 ∧ ∀ x ∈ l0_2, G115 x) → (l0_3.length ≤ 9223372036854775807 ∧ ∀ x ∈ l0_3, G118 x) → (Lit.int .i64 a1_0).wf = true → (Lit.int .i64 a1_1).wf = true → ∃ k, laws_FnExactCellAt.f k l0_0 l0_1 l0_2 l0_3 a1_0 a1_1 = some true
end Go.Proofs.Ytbanogkoaplcdaa.QCell
