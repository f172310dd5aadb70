/- The pure statement of FnNumbers: what its printed function answers. No condition beyond the sizes and ranges that Go's values have. -/
import Derived.Test.YthajpckfodhhpaaDoorQNumx0
import Derived.Test.YthajpckfodhhpaaDoorQNumx1
import Derived.Test.YthajpckfodhhpaaDoorQNumx2
import Derived.Test.YthajpckfodhhpaaDoorQNumx3
import Derived.Test.YthajpckfodhhpaaDoorQNumx4
import Derived.Test.YthajpckfodhhpaaDoorOpen
namespace Go.Proofs.YthajpckfodhhpaaDoor.QNum
open Go.RowKit Go.Proofs.YthajpckfodhhpaaDoorW.PrintWords Go.Proofs.YthajpckfodhhpaaDoor.Open
def laws_FnNumbers.Pure : Prop := ∀ (l0 : List Int), (l0.length ≤ 9223372036854775807 ∧ ∀ x ∈ l0, (Lit.int .u8 x).wf = true) → ∃ k, laws_FnNumbers.f k l0 = some true
end Go.Proofs.YthajpckfodhhpaaDoor.QNum
