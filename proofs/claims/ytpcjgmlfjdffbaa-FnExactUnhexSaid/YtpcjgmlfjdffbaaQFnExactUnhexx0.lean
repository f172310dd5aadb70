/- What the functions behind FnExactUnhex compute, and that the program's calls come to just that. Written by a program of this session on the base of the kit's print. No condition. -/
import Derived.Test.YtpcjgmlfjdffbaaProg
import Derived.Below
import Derived.Deep.Draws
import Derived.Deep.AppendLies
import Derived.Maps.AppendAt
import Derived.OwnWalk
import Derived.Laws.BytesArg
import Derived.Laws.MakeOwn
import Derived.Laws.OwnMore
import Derived.Deep.OwnRows
import Derived.Tactics
import Derived.Lib.ConvBytes
import Derived.Laws.Slices
import Derived.WalkKit
import Derived.KernelRfl
import Derived.RowKit3
import Derived.Deep.LoopGhost
import Derived.Deep.QuietTactic
import Derived.BigQuiet
import Derived.WideLaws
import Derived.Deep.DeepCutAuto
import Derived.Deep.CutBlock
import Derived.Deep.RegionHeld3
import Derived.Laws.Rows
import Derived.Lib.AppendStr
import Derived.ArgAppend
import Derived.Laws.IdiomCopy
import Derived.OrdersHeld
import Derived.Laws.BitsLemmas
import Derived.RowKit
import Derived.Test.YtpcjgmlfjdffbaaWWords
import Derived.Test.YtpcjgmlfjdffbaaWLast
import Derived.Test.YtpcjgmlfjdffbaaWTab
import Derived.Test.YtpcjgmlfjdffbaaWFour
import Derived.Test.YtpcjgmlfjdffbaaWQPut
import Derived.Test.YtpcjgmlfjdffbaaWApart
import Derived.Test.YtpcjgmlfjdffbaaWArr
import Derived.Test.YtpcjgmlfjdffbaaWZeros
import Derived.Test.YtpcjgmlfjdffbaaWFoot
import Derived.Test.YtpcjgmlfjdffbaaWKept
import Derived.Test.YtpcjgmlfjdffbaaWShare
import Derived.Test.YtpcjgmlfjdffbaaWN
import Derived.Test.YtpcjgmlfjdffbaaWFootNe
import Derived.Test.YtpcjgmlfjdffbaaWAt
import Derived.Test.YtpcjgmlfjdffbaaWEqStruct
import Derived.Test.YtpcjgmlfjdffbaaWRepsOne
import Derived.Test.YtpcjgmlfjdffbaaWInv
import Derived.Test.YtpcjgmlfjdffbaaWInvWords
import Derived.Test.YtpcjgmlfjdffbaaWGuard
import Derived.Test.YtpcjgmlfjdffbaaWNEv
import Derived.Test.YtpcjgmlfjdffbaaWMore
import Derived.Test.YtpcjgmlfjdffbaaGiven
namespace Go.Proofs.Ytpcjgmlfjdffbaa.QFnExactUnhex
open Go.RowKit Go.Proofs.YtpcjgmlfjdffbaaW.PrintWords Go.Proofs.YtpcjgmlfjdffbaaW.PrintLast Go.Proofs.YtpcjgmlfjdffbaaW.PrintMore
attribute [local go_sem] max2_int min2_int max_two min_two max_three min_three max_four min_four   -- for this text's walks alone
set_option linter.unusedVariables false
set_option linter.unusedSimpArgs false



def errW : Option Int → Value
  | none => .nilIface
  | some c => .iface 0 (.int .i64 c)
theorem errW_none : errW none = .nilIface := rfl
theorem errW_some (c : Int) : errW (some c) = .iface 0 (.int .i64 c) := rfl

theorem info5 : (Try.prog.info? 5).map (fun i => (i.zero, i.size, i.bytes)) = some (some (.int .u8 0), 1, 1) := by kernel_rfl
-- the values' own types

end Go.Proofs.Ytpcjgmlfjdffbaa.QFnExactUnhex
