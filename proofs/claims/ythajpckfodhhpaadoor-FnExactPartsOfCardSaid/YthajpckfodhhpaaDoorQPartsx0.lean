/- What the functions behind Parts compute, and that the program's calls come to just that. Written by a program of this session on the base of the kit's print. No condition. -/
import Derived.Test.YthajpckfodhhpaaDoorProg
import Derived.Below
import Derived.Deep.Draws
import Derived.Deep.AppendLies
import Derived.Maps.AppendAt
import Derived.OwnWalk
import Derived.Laws.BytesArg
import Derived.Laws.MakeOwn
import Derived.Laws.OwnMore
import Derived.Deep.OwnRows
import Derived.Tactics
import Derived.Lib.ConvBytes
import Derived.Laws.Slices
import Derived.WalkKit
import Derived.KernelRfl
import Derived.RowKit3
import Derived.Deep.LoopGhost
import Derived.Deep.QuietTactic
import Derived.BigQuiet
import Derived.WideLaws
import Derived.Deep.DeepCutAuto
import Derived.Deep.CutBlock
import Derived.Deep.RegionHeld3
import Derived.Laws.Rows
import Derived.Lib.AppendStr
import Derived.ArgAppend
import Derived.Laws.IdiomCopy
import Derived.OrdersHeld
import Derived.Laws.BitsLemmas
import Derived.RowKit
import Derived.Test.YthajpckfodhhpaaDoorWWords
import Derived.Test.YthajpckfodhhpaaDoorWLast
import Derived.Test.YthajpckfodhhpaaDoorWTab
import Derived.Test.YthajpckfodhhpaaDoorWFour
import Derived.Test.YthajpckfodhhpaaDoorWQPut
import Derived.Test.YthajpckfodhhpaaDoorWApart
import Derived.Test.YthajpckfodhhpaaDoorWArr
import Derived.Test.YthajpckfodhhpaaDoorWZeros
import Derived.Test.YthajpckfodhhpaaDoorWFoot
import Derived.Test.YthajpckfodhhpaaDoorWKept
import Derived.Test.YthajpckfodhhpaaDoorWShare
import Derived.Test.YthajpckfodhhpaaDoorWN
import Derived.Test.YthajpckfodhhpaaDoorWFootNe
import Derived.Test.YthajpckfodhhpaaDoorWAt
import Derived.Test.YthajpckfodhhpaaDoorWEqStruct
import Derived.Test.YthajpckfodhhpaaDoorWRepsOne
import Derived.Test.YthajpckfodhhpaaDoorWInv
import Derived.Test.YthajpckfodhhpaaDoorWInvWords
import Derived.Test.YthajpckfodhhpaaDoorWGuard
import Derived.Test.YthajpckfodhhpaaDoorWNEv
import Derived.Test.YthajpckfodhhpaaDoorWMore
namespace Go.Proofs.YthajpckfodhhpaaDoor.QParts
open Go.RowKit Go.Proofs.YthajpckfodhhpaaDoorW.PrintWords Go.Proofs.YthajpckfodhhpaaDoorW.PrintLast Go.Proofs.YthajpckfodhhpaaDoorW.PrintMore
attribute [local go_sem] max2_int min2_int max_two min_two max_three min_three max_four min_four   -- for this text's walks alone
set_option linter.unusedVariables false
set_option linter.unusedSimpArgs false



def errW : Option Int → Value
  | none => .nilIface
  | some c => .iface 0 (.int .i64 c)
theorem errW_none : errW none = .nilIface := rfl
theorem errW_some (c : Int) : errW (some c) = .iface 0 (.int .i64 c) := rfl

theorem info5 : (Tryd.prog.info? 5).map (fun i => (i.zero, i.size, i.bytes)) = some (some (.int .u8 0), 1, 1) := by kernel_rfl
theorem info9 : (Tryd.prog.info? 9).map (fun i => (i.zero, i.size, i.bytes)) = some (some (.string ⟨#[]⟩), 1, 16) := by kernel_rfl
-- the values' own types

end Go.Proofs.YthajpckfodhhpaaDoor.QParts
