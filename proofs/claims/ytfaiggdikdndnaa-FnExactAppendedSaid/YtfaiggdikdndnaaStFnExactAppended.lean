/- The pure statement of FnExactAppended: what its printed function answers. No condition beyond the sizes and ranges that Go's values have. -/
import Derived.Test.YtfaiggdikdndnaaPFnExactAppendedx0
import Derived.Test.YtfaiggdikdndnaaPFnExactAppendedx1
import Derived.Test.YtfaiggdikdndnaaOpen
namespace Go.Proofs.Ytfaiggdikdndnaa.PFnExactAppended
open Go.RowKit Go.Proofs.YtfaiggdikdndnaaW.PrintWords Go.Proofs.Ytfaiggdikdndnaa.Open
def laws_FnExactAppended.Pure : Prop := ∀ (a0_0 : ByteArray) (a0_1 : Int) (a1 : ByteArray), a0_0.size ≤ 9223372036854775807 → (Lit.int .i64 a0_1).wf = true → a1.size ≤ 9223372036854775807 → laws_FnExactAppended.f a0_0 a0_1 a1 = some true
end Go.Proofs.Ytfaiggdikdndnaa.PFnExactAppended
