/- The program's constants are those that the reference names.
No condition beyond those of the given row. -/
import Derived.Test.YtpojogficponhaaPFnExactConstantsx0
import Derived.Test.YtpojogficponhaaPFnExactConstantsx1
import Derived.Test.YtpojogficponhaaPlain
namespace Go.Proofs.Ytpojogficponhaa.Pure
open Go.RowKit Go.Proofs.Ytpojogficponhaa.PFnExactConstants Go.Proofs.Ytpojogficponhaa.Plain Go.Proofs.YtpojogficponhaaW.PrintWords Go.Proofs.YtpojogficponhaaW.PrintLast

theorem FnExactConstants : laws_FnExactConstants.Pure := rfl

end Go.Proofs.Ytpojogficponhaa.Pure
