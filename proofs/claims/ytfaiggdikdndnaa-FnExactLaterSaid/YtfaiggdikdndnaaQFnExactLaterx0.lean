/- What the functions behind FnExactLater compute, and that the program's calls come to just that. Written by a program of this session on the base of the kit's print. No condition. -/
import Derived.Test.YtfaiggdikdndnaaProg
import Derived.Below
import Derived.Deep.Draws
import Derived.Deep.AppendLies
import Derived.Maps.AppendAt
import Derived.OwnWalk
import Derived.Laws.BytesArg
import Derived.Laws.MakeOwn
import Derived.Laws.OwnMore
import Derived.Deep.OwnRows
import Derived.Tactics
import Derived.Lib.ConvBytes
import Derived.Laws.Slices
import Derived.WalkKit
import Derived.KernelRfl
import Derived.RowKit3
import Derived.Deep.LoopGhost
import Derived.Deep.QuietTactic
import Derived.BigQuiet
import Derived.WideLaws
import Derived.Deep.DeepCutAuto
import Derived.Deep.CutBlock
import Derived.Deep.RegionHeld3
import Derived.Laws.Rows
import Derived.Lib.AppendStr
import Derived.ArgAppend
import Derived.Laws.IdiomCopy
import Derived.OrdersHeld
import Derived.Laws.BitsLemmas
import Derived.RowKit
import Derived.Test.YtfaiggdikdndnaaWWords
import Derived.Test.YtfaiggdikdndnaaWLast
import Derived.Test.YtfaiggdikdndnaaWTab
import Derived.Test.YtfaiggdikdndnaaWFour
import Derived.Test.YtfaiggdikdndnaaWQPut
import Derived.Test.YtfaiggdikdndnaaWApart
import Derived.Test.YtfaiggdikdndnaaWArr
import Derived.Test.YtfaiggdikdndnaaWZeros
import Derived.Test.YtfaiggdikdndnaaWFoot
import Derived.Test.YtfaiggdikdndnaaWKept
import Derived.Test.YtfaiggdikdndnaaWShare
import Derived.Test.YtfaiggdikdndnaaWN
import Derived.Test.YtfaiggdikdndnaaWFootNe
import Derived.Test.YtfaiggdikdndnaaWAt
import Derived.Test.YtfaiggdikdndnaaWEqStruct
import Derived.Test.YtfaiggdikdndnaaWRepsOne
import Derived.Test.YtfaiggdikdndnaaWInv
import Derived.Test.YtfaiggdikdndnaaWInvWords
import Derived.Test.YtfaiggdikdndnaaWGuard
import Derived.Test.YtfaiggdikdndnaaWNEv
import Derived.Test.YtfaiggdikdndnaaWMore
namespace Go.Proofs.Ytfaiggdikdndnaa.QFnExactLater
open Go.RowKit Go.Proofs.YtfaiggdikdndnaaW.PrintWords Go.Proofs.YtfaiggdikdndnaaW.PrintLast Go.Proofs.YtfaiggdikdndnaaW.PrintMore
attribute [local go_sem] max2_int min2_int max_two min_two max_three min_three max_four min_four   -- for this text's walks alone
set_option linter.unusedVariables false
set_option linter.unusedSimpArgs false



def errW : Option Int → Value
  | none => .nilIface
  | some c => .iface 0 (.int .i64 c)
theorem errW_none : errW none = .nilIface := rfl
theorem errW_some (c : Int) : errW (some c) = .iface 0 (.int .i64 c) := rfl

theorem info3 : (Try.prog.info? 3).map (fun i => (i.zero, i.size, i.bytes)) = some (some (.int .i64 0), 1, 8) := by kernel_rfl
-- the values' own types

end Go.Proofs.Ytfaiggdikdndnaa.QFnExactLater
