/- The pure statement of FnExactKnows: what its printed function answers. No condition beyond the sizes and ranges that Go's values have. -/
import Derived.Test.YtfaiggdikdndnaaQFnExactKnowsx0
import Derived.Test.YtfaiggdikdndnaaQFnExactKnowsx1
import Derived.Test.YtfaiggdikdndnaaQFnExactKnowsx2
import Derived.Test.YtfaiggdikdndnaaQFnExactKnowsx3
import Derived.Test.YtfaiggdikdndnaaOpen
namespace Go.Proofs.Ytfaiggdikdndnaa.QFnExactKnows
open Go.RowKit Go.Proofs.YtfaiggdikdndnaaW.PrintWords Go.Proofs.Ytfaiggdikdndnaa.Open
def laws_FnExactKnows.Pure : Prop := ∀ (l0 : List Int) (a1_0 : Int) (a1_1 : Int), (l0.length ≤ 9223372036854775807 ∧ ∀ x ∈ l0, (Lit.int .i64 x).wf = true) → (Lit.int .i64 a1_0).wf = true → (Lit.int .i64 a1_1).wf = true → ∃ k, laws_FnExactKnows.f k l0 a1_0 a1_1 = some true
end Go.Proofs.Ytfaiggdikdndnaa.QFnExactKnows
