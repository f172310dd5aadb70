/- What the functions behind FnExactHex compute, and that the program's calls come to just that: lines of the kit's print, put right by fixp.py of this session. No condition. -/
import Derived.Test.YtpojogficponhaaProg
import Derived.Below
import Derived.Deep.Draws
import Derived.Deep.AppendLies
import Derived.Maps.AppendAt
import Derived.OwnWalk
import Derived.Laws.BytesArg
import Derived.Laws.MakeOwn
import Derived.Laws.OwnMore
import Derived.Deep.OwnRows
import Derived.Tactics
import Derived.Lib.ConvBytes
import Derived.Laws.Slices
import Derived.WalkKit
import Derived.KernelRfl
import Derived.RowKit3
import Derived.Deep.LoopGhost
import Derived.Deep.QuietTactic
import Derived.BigQuiet
import Derived.WideLaws
import Derived.Deep.DeepCutAuto
import Derived.Deep.CutBlock
import Derived.Deep.RegionHeld3
import Derived.Laws.Rows
import Derived.Lib.AppendStr
import Derived.ArgAppend
import Derived.Laws.IdiomCopy
import Derived.OrdersHeld
import Derived.Laws.BitsLemmas
import Derived.RowKit
import Derived.Test.YtpojogficponhaaWWords
import Derived.Test.YtpojogficponhaaWLast
import Derived.Test.YtpojogficponhaaWTab
import Derived.Test.YtpojogficponhaaWFour
import Derived.Test.YtpojogficponhaaWQPut
import Derived.Test.YtpojogficponhaaWApart
import Derived.Test.YtpojogficponhaaWArr
import Derived.Test.YtpojogficponhaaWZeros
import Derived.Test.YtpojogficponhaaWFoot
import Derived.Test.YtpojogficponhaaWKept
import Derived.Test.YtpojogficponhaaWShare
import Derived.Test.YtpojogficponhaaWN
import Derived.Test.YtpojogficponhaaWFootNe
import Derived.Test.YtpojogficponhaaWAt
import Derived.Test.YtpojogficponhaaWEqStruct
import Derived.Test.YtpojogficponhaaWRepsOne
import Derived.Test.YtpojogficponhaaWInv
import Derived.Test.YtpojogficponhaaWInvWords
import Derived.Test.YtpojogficponhaaWGuard
import Derived.Test.YtpojogficponhaaWNEv
import Derived.Test.YtpojogficponhaaWMore
namespace Go.Proofs.Ytpojogficponhaa.QFnExactHex
open Go.RowKit Go.Proofs.YtpojogficponhaaW.PrintWords Go.Proofs.YtpojogficponhaaW.PrintLast Go.Proofs.YtpojogficponhaaW.PrintMore
attribute [local go_sem] max2_int min2_int max_two min_two max_three min_three max_four min_four   -- for this text's walks alone
set_option linter.unusedVariables false
set_option linter.unusedSimpArgs false



def errW : Option Int → Value
  | none => .nilIface
  | some c => .iface 0 (.int .i64 c)
theorem errW_none : errW none = .nilIface := rfl
theorem errW_some (c : Int) : errW (some c) = .iface 0 (.int .i64 c) := rfl

theorem info5 : (Try.prog.info? 5).map (fun i => (i.zero, i.size, i.bytes)) = some (some (.int .u8 0), 1, 1) := by kernel_rfl
-- the values' own types

end Go.Proofs.Ytpojogficponhaa.QFnExactHex
