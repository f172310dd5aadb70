/- The pure statement of FnExactReadDecimal: what its printed function answers. No condition beyond the sizes and ranges that Go's values have. -/
import Derived.Test.YthajpckfodhhpaaDoorQNumx0
import Derived.Test.YthajpckfodhhpaaDoorQNumx1
import Derived.Test.YthajpckfodhhpaaDoorOpen
namespace Go.Proofs.YthajpckfodhhpaaDoor.QNum
open Go.RowKit Go.Proofs.YthajpckfodhhpaaDoorW.PrintWords Go.Proofs.YthajpckfodhhpaaDoor.Open
def laws_FnExactReadDecimal.Pure : Prop := ∀ (a0 : ByteArray), a0.size ≤ 9223372036854775807 → ∃ k, laws_FnExactReadDecimal.f k a0 = some true
end Go.Proofs.YthajpckfodhhpaaDoor.QNum
