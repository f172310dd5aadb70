/- The pure statement of FnExactPartsOf: what its printed function answers. No condition beyond the sizes and ranges that Go's values have. -/
import Derived.Test.YthajpckfodhhpaaDoorQPartsx0
import Derived.Test.YthajpckfodhhpaaDoorQPartsx1
import Derived.Test.YthajpckfodhhpaaDoorQPartsx2
import Derived.Test.YthajpckfodhhpaaDoorQPartsx3
import Derived.Test.YthajpckfodhhpaaDoorOpen
namespace Go.Proofs.YthajpckfodhhpaaDoor.QParts
open Go.RowKit Go.Proofs.YthajpckfodhhpaaDoorW.PrintWords Go.Proofs.YthajpckfodhhpaaDoor.Open
def laws_FnExactPartsOf.Pure : Prop := ∀ (a0 : ByteArray), a0.size ≤ 9223372036854775807 → ∃ k, laws_FnExactPartsOf.f k a0 = some true
end Go.Proofs.YthajpckfodhhpaaDoor.QParts
