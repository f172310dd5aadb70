/- The program's DotOk tells of every dot what the reference's DotOk tells.
No condition beyond those of the given row. -/
import Derived.Test.YtpojogficponhaaPFnExactDotOkx0
import Derived.Test.YtpojogficponhaaPFnExactDotOkx1
import Derived.Test.YtpojogficponhaaStFnExactDotOk
import Derived.Test.YtpojogficponhaaPlain
namespace Go.Proofs.Ytpojogficponhaa.Pure
open Go.RowKit Go.Proofs.Ytpojogficponhaa.PFnExactDotOk Go.Proofs.Ytpojogficponhaa.Plain Go.Proofs.YtpojogficponhaaW.PrintWords Go.Proofs.YtpojogficponhaaW.PrintLast

def dotB (r s : Int) : Bool := if inB r 0 2 = true then inB s 1 1000 else false

theorem spec_in (x lo hi : Int) : spec_l01In.f x lo hi = some (inB x lo hi) := in_ite x lo hi

theorem spec_DotOk_eq (r s : Int) : spec_DotOk.f r s = some (dotB r s) := by
  unfold spec_DotOk.f dotB
  simp only [spec_in, Option.bind_some]
  split <;> rfl

theorem impl_in (x lo hi : Int) : impl_within.f x lo hi = some (inB x lo hi) := in_ite x lo hi

theorem impl_DotOk_eq (r s : Int) : impl_DotOk.f r s = some (dotB r s) := by
  unfold impl_DotOk.f dotB
  simp only [impl_in, Option.bind_some]
  split <;> rfl

theorem FnExactDotOk : laws_FnExactDotOk.Pure := by
  intro r s _ _
  unfold laws_FnExactDotOk.f laws_toDot.f
  simp [spec_DotOk_eq, impl_DotOk_eq]

end Go.Proofs.Ytpojogficponhaa.Pure
