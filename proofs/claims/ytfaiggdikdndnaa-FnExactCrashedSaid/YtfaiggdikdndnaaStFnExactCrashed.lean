/- The pure statement of FnExactCrashed: what its printed function answers. No condition beyond the sizes and ranges that Go's values have. -/
import Derived.Test.YtfaiggdikdndnaaQFnExactCrashedx0
import Derived.Test.YtfaiggdikdndnaaQFnExactCrashedx1
import Derived.Test.YtfaiggdikdndnaaOpen
namespace Go.Proofs.Ytfaiggdikdndnaa.QFnExactCrashed
open Go.RowKit Go.Proofs.YtfaiggdikdndnaaW.PrintWords Go.Proofs.Ytfaiggdikdndnaa.Open
def laws_FnExactCrashed.Pure : Prop := ∀ (a0_0 : ByteArray) (a0_1 : Int) (a1 : Int), a0_0.size ≤ 9223372036854775807 → (Lit.int .i64 a0_1).wf = true → (Lit.int .i64 a1).wf = true → laws_FnExactCrashed.f a0_0 a0_1 a1 = some true
end Go.Proofs.Ytfaiggdikdndnaa.QFnExactCrashed
