/- What the functions behind RdAct compute, and that the program's calls come to just that. Written by a program of this session on the base of the kit's print. No condition. -/
import Derived.Test.YtmbjnblbbfbfjaaProg
import Derived.Below
import Derived.Deep.Draws
import Derived.Deep.AppendLies
import Derived.Maps.AppendAt
import Derived.OwnWalk
import Derived.Laws.BytesArg
import Derived.Laws.MakeOwn
import Derived.Laws.OwnMore
import Derived.Deep.OwnRows
import Derived.Tactics
import Derived.Lib.ConvBytes
import Derived.Laws.Slices
import Derived.WalkKit
import Derived.KernelRfl
import Derived.RowKit3
import Derived.Deep.LoopGhost
import Derived.Deep.QuietTactic
import Derived.BigQuiet
import Derived.WideLaws
import Derived.Deep.DeepCutAuto
import Derived.Deep.CutBlock
import Derived.Deep.RegionHeld3
import Derived.Laws.Rows
import Derived.Lib.AppendStr
import Derived.ArgAppend
import Derived.Laws.IdiomCopy
import Derived.OrdersHeld
import Derived.Laws.BitsLemmas
import Derived.RowKit
import Derived.Test.YtmbjnblbbfbfjaaVFnExactReadActWWords
import Derived.Test.YtmbjnblbbfbfjaaVFnExactReadActWLast
import Derived.Test.YtmbjnblbbfbfjaaVFnExactReadActWTab
import Derived.Test.YtmbjnblbbfbfjaaVFnExactReadActWFour
import Derived.Test.YtmbjnblbbfbfjaaVFnExactReadActWQPut
import Derived.Test.YtmbjnblbbfbfjaaVFnExactReadActWApart
import Derived.Test.YtmbjnblbbfbfjaaVFnExactReadActWArr
import Derived.Test.YtmbjnblbbfbfjaaVFnExactReadActWZeros
import Derived.Test.YtmbjnblbbfbfjaaVFnExactReadActWFoot
import Derived.Test.YtmbjnblbbfbfjaaVFnExactReadActWKept
import Derived.Test.YtmbjnblbbfbfjaaVFnExactReadActWShare
import Derived.Test.YtmbjnblbbfbfjaaVFnExactReadActWN
import Derived.Test.YtmbjnblbbfbfjaaVFnExactReadActWFootNe
import Derived.Test.YtmbjnblbbfbfjaaVFnExactReadActWAt
import Derived.Test.YtmbjnblbbfbfjaaVFnExactReadActWEqStruct
import Derived.Test.YtmbjnblbbfbfjaaVFnExactReadActWRepsOne
import Derived.Test.YtmbjnblbbfbfjaaVFnExactReadActWInv
import Derived.Test.YtmbjnblbbfbfjaaVFnExactReadActWInvWords
import Derived.Test.YtmbjnblbbfbfjaaVFnExactReadActWGuard
import Derived.Test.YtmbjnblbbfbfjaaVFnExactReadActWNEv
import Derived.Test.YtmbjnblbbfbfjaaVFnExactReadActWMore
namespace Go.Proofs.Ytmbjnblbbfbfjaa.QRdAct
open Go.RowKit Go.Proofs.YtmbjnblbbfbfjaaW.PrintWords Go.Proofs.YtmbjnblbbfbfjaaW.PrintLast Go.Proofs.YtmbjnblbbfbfjaaW.PrintMore
attribute [local go_sem] max2_int min2_int max_two min_two max_three min_three max_four min_four   -- for this text's walks alone
set_option linter.unusedVariables false
set_option linter.unusedSimpArgs false
def errW : Option Int → Value
  | none => .nilIface
  | some c => .iface 0 (.int .i64 c)
theorem errW_none : errW none = .nilIface := rfl
theorem errW_some (c : Int) : errW (some c) = .iface 0 (.int .i64 c) := rfl
theorem info3 : (Try.prog.info? 3).map (fun i => (i.zero, i.size, i.bytes)) = some (some (.int .i64 0), 1, 8) := by kernel_rfl
theorem info5 : (Try.prog.info? 5).map (fun i => (i.zero, i.size, i.bytes)) = some (some (.int .u8 0), 1, 1) := by kernel_rfl
end Go.Proofs.Ytmbjnblbbfbfjaa.QRdAct
