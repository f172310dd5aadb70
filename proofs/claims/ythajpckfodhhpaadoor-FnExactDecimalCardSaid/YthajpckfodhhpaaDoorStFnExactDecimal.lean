/- The pure statement of FnExactDecimal: what its printed function answers. No condition beyond the sizes and ranges that Go's values have. -/
import Derived.Test.YthajpckfodhhpaaDoorQNumx0
import Derived.Test.YthajpckfodhhpaaDoorQNumx1
import Derived.Test.YthajpckfodhhpaaDoorOpen
namespace Go.Proofs.YthajpckfodhhpaaDoor.QNum
open Go.RowKit Go.Proofs.YthajpckfodhhpaaDoorW.PrintWords Go.Proofs.YthajpckfodhhpaaDoor.Open
def laws_FnExactDecimal.Pure : Prop := ∀ (a0 : Int), (Lit.int .i64 a0).wf = true → ∃ k, laws_FnExactDecimal.f k a0 = some true
end Go.Proofs.YthajpckfodhhpaaDoor.QNum
