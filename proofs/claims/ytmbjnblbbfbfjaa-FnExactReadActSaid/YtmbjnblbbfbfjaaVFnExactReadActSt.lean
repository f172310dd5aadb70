/- The pure statement of FnExactReadAct: what its printed function answers. No condition beyond the sizes and ranges that Go's values have. -/
import Derived.Test.YtmbjnblbbfbfjaaVFnExactReadActQRdActx0
import Derived.Test.YtmbjnblbbfbfjaaVFnExactReadActQRdActx1
import Derived.Test.YtmbjnblbbfbfjaaVFnExactReadActQRdActx2
import Derived.Test.YtmbjnblbbfbfjaaVFnExactReadActQRdActx3
import Derived.Test.YtmbjnblbbfbfjaaVFnExactReadActQRdActx4
import Derived.Test.YtmbjnblbbfbfjaaVFnExactReadActQRdActx5
import Derived.Test.YtmbjnblbbfbfjaaVFnExactReadActQRdActx6
import Derived.Test.YtmbjnblbbfbfjaaVFnExactReadActQRdActx7
import Derived.Test.YtmbjnblbbfbfjaaVFnExactReadActQRdActx8
import Derived.Test.YtmbjnblbbfbfjaaVFnExactReadActQRdActx9
import Derived.Test.YtmbjnblbbfbfjaaVFnExactReadActQRdActx10
import Derived.Test.YtmbjnblbbfbfjaaVFnExactReadActQRdActx11
import Derived.Test.YtmbjnblbbfbfjaaVFnExactReadActQRdActx12
import Derived.Test.YtmbjnblbbfbfjaaVFnExactReadActQRdActx13
import Derived.Test.YtmbjnblbbfbfjaaVFnExactReadActQRdActx14
import Derived.Test.YtmbjnblbbfbfjaaVFnExactReadActQRdActx15
import Derived.Test.YtmbjnblbbfbfjaaVFnExactReadActOpen
namespace Go.Proofs.Ytmbjnblbbfbfjaa.QRdAct
open Go.RowKit Go.Proofs.YtmbjnblbbfbfjaaW.PrintWords Go.Proofs.Ytmbjnblbbfbfjaa.Open
def laws_FnExactReadAct.Pure : Prop := ∀ (a0 : ByteArray) (a1 : Int), a0.size ≤ 9223372036854775807 → (Lit.int .i64 a1).wf = true → ∃ k, laws_FnExactReadAct.f k a0 a1 = some true
end Go.Proofs.Ytmbjnblbbfbfjaa.QRdAct
