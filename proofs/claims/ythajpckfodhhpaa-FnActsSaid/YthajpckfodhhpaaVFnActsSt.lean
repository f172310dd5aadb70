/- The pure statement of FnActs: what its printed function answers. No condition beyond the sizes and ranges that Go's values have. -/
import Derived.Test.YthajpckfodhhpaaVFnActsQRAx0
import Derived.Test.YthajpckfodhhpaaVFnActsQRAx1
import Derived.Test.YthajpckfodhhpaaVFnActsQRAx2
import Derived.Test.YthajpckfodhhpaaVFnActsQRAx3
import Derived.Test.YthajpckfodhhpaaVFnActsQRAx4
import Derived.Test.YthajpckfodhhpaaVFnActsQRAx5
import Derived.Test.YthajpckfodhhpaaVFnActsQRAx6
import Derived.Test.YthajpckfodhhpaaVFnActsQRAx7
import Derived.Test.YthajpckfodhhpaaVFnActsQRAx8
import Derived.Test.YthajpckfodhhpaaVFnActsQRAx9
import Derived.Test.YthajpckfodhhpaaVFnActsQRAx10
import Derived.Test.YthajpckfodhhpaaVFnActsQRAx11
import Derived.Test.YthajpckfodhhpaaVFnActsQRAx12
import Derived.Test.YthajpckfodhhpaaVFnActsQRAx13
import Derived.Test.YthajpckfodhhpaaVFnActsQRAx14
import Derived.Test.YthajpckfodhhpaaVFnActsQRAx15
import Derived.Test.YthajpckfodhhpaaVFnActsQRAx16
import Derived.Test.YthajpckfodhhpaaVFnActsQRAx17
import Derived.Test.YthajpckfodhhpaaVFnActsQRAx18
import Derived.Test.YthajpckfodhhpaaVFnActsQRAx19
import Derived.Test.YthajpckfodhhpaaVFnActsQRAx20
import Derived.Test.YthajpckfodhhpaaVFnActsQRAx21
import Derived.Test.YthajpckfodhhpaaVFnActsQRAx22
import Derived.Test.YthajpckfodhhpaaVFnActsOpen
namespace Go.Proofs.Ythajpckfodhhpaa.QRA
open Go.RowKit Go.Proofs.YthajpckfodhhpaaW.PrintWords Go.Proofs.Ythajpckfodhhpaa.Open
def laws_FnActs.Pure : Prop := ∀ (l0 : List Int), (l0.length ≤ 9223372036854775807 ∧ ∀ x ∈ l0, (Lit.int .u8 x).wf = true) → ∃ k, laws_FnActs.f k l0 = some true
end Go.Proofs.Ythajpckfodhhpaa.QRA
