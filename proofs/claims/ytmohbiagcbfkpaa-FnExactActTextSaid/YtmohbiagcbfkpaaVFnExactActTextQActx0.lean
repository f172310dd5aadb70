/- What the functions behind Act compute, and that the program's calls come to just that. Written by a program of this session on the base of the kit's print. No condition. -/
import Derived.Test.YtmohbiagcbfkpaaProg
import Derived.Below
import Derived.Deep.Draws
import Derived.Deep.AppendLies
import Derived.Maps.AppendAt
import Derived.OwnWalk
import Derived.Laws.BytesArg
import Derived.Laws.MakeOwn
import Derived.Laws.OwnMore
import Derived.Deep.OwnRows
import Derived.Tactics
import Derived.Lib.ConvBytes
import Derived.Laws.Slices
import Derived.WalkKit
import Derived.KernelRfl
import Derived.RowKit3
import Derived.Deep.LoopGhost
import Derived.Deep.QuietTactic
import Derived.BigQuiet
import Derived.WideLaws
import Derived.Deep.DeepCutAuto
import Derived.Deep.CutBlock
import Derived.Deep.RegionHeld3
import Derived.Laws.Rows
import Derived.Lib.AppendStr
import Derived.ArgAppend
import Derived.Laws.IdiomCopy
import Derived.OrdersHeld
import Derived.Laws.BitsLemmas
import Derived.RowKit
import Derived.Test.YtmohbiagcbfkpaaVFnExactActTextWWords
import Derived.Test.YtmohbiagcbfkpaaVFnExactActTextWLast
import Derived.Test.YtmohbiagcbfkpaaVFnExactActTextWTab
import Derived.Test.YtmohbiagcbfkpaaVFnExactActTextWFour
import Derived.Test.YtmohbiagcbfkpaaVFnExactActTextWQPut
import Derived.Test.YtmohbiagcbfkpaaVFnExactActTextWApart
import Derived.Test.YtmohbiagcbfkpaaVFnExactActTextWArr
import Derived.Test.YtmohbiagcbfkpaaVFnExactActTextWZeros
import Derived.Test.YtmohbiagcbfkpaaVFnExactActTextWFoot
import Derived.Test.YtmohbiagcbfkpaaVFnExactActTextWKept
import Derived.Test.YtmohbiagcbfkpaaVFnExactActTextWShare
import Derived.Test.YtmohbiagcbfkpaaVFnExactActTextWN
import Derived.Test.YtmohbiagcbfkpaaVFnExactActTextWFootNe
import Derived.Test.YtmohbiagcbfkpaaVFnExactActTextWAt
import Derived.Test.YtmohbiagcbfkpaaVFnExactActTextWEqStruct
import Derived.Test.YtmohbiagcbfkpaaVFnExactActTextWRepsOne
import Derived.Test.YtmohbiagcbfkpaaVFnExactActTextWInv
import Derived.Test.YtmohbiagcbfkpaaVFnExactActTextWInvWords
import Derived.Test.YtmohbiagcbfkpaaVFnExactActTextWGuard
import Derived.Test.YtmohbiagcbfkpaaVFnExactActTextWNEv
import Derived.Test.YtmohbiagcbfkpaaVFnExactActTextWMore
namespace Go.Proofs.Ytmohbiagcbfkpaa.QAct
open Go.RowKit Go.Proofs.YtmohbiagcbfkpaaW.PrintWords Go.Proofs.YtmohbiagcbfkpaaW.PrintLast Go.Proofs.YtmohbiagcbfkpaaW.PrintMore
attribute [local go_sem] max2_int min2_int max_two min_two max_three min_three max_four min_four   -- for this text's walks alone
set_option linter.unusedVariables false
set_option linter.unusedSimpArgs false
def errW : Option Int → Value
  | none => .nilIface
  | some c => .iface 0 (.int .i64 c)
theorem errW_none : errW none = .nilIface := rfl
theorem errW_some (c : Int) : errW (some c) = .iface 0 (.int .i64 c) := rfl
theorem info3 : (Try.prog.info? 3).map (fun i => (i.zero, i.size, i.bytes)) = some (some (.int .i64 0), 1, 8) := by kernel_rfl
theorem info5 : (Try.prog.info? 5).map (fun i => (i.zero, i.size, i.bytes)) = some (some (.int .u8 0), 1, 1) := by kernel_rfl
structure S157 where
  f0 : ByteArray
  f1 : Int
  f2 : Int
structure S23 where
  f0 : Int
  f1 : Int
structure S160 where
  f0 : Bool
  f1 : ByteArray
  f2 : ByteArray
  f3 : Int
  f4 : S23
structure S163 where
  f0 : ByteArray
  f1 : S23
  f2 : Int
  f3 : S23
  f4 : Int
  f5 : Bool
structure S127 where
  f0 : ByteArray
  f1 : Int
  f2 : Int
structure S29 where
  f0 : Int
  f1 : Int
structure S134 where
  f0 : Bool
  f1 : ByteArray
  f2 : ByteArray
  f3 : Int
  f4 : S29
structure S167 where
  f0 : ByteArray
  f1 : S29
  f2 : Int
  f3 : S29
  f4 : Int
  f5 : Bool
end Go.Proofs.Ytmohbiagcbfkpaa.QAct
