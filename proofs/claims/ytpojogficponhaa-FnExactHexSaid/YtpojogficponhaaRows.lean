/-
  No cell of these rows narrows 'for every input' (looked for: loops, veiled, ifaces, maps, wideKeys, modest, calm, conditions, laid).
  DERIVED. THE GIVEN ROWS OF THIS SEAT. 12 by the template 'for every input the law returns true; each argument reads behind the call as it read before'; 0 by the template 'total and deterministic' (their statements: YtpojogficponhaaTotals.lean).
  GIVEN WITH THE SEED: the statements are not yours to turn. If you find one false, say at which input.
  Laid BY PROGRAM, IN A SANDBOX (cutbox-rows.mjs): the forced cells as the released guide's own fill.sh prints them over the translation b1b81609d1d222f2… (all of the seat's roots in one cut). By AI agents, Wed Nov 11 2026. No macro, syntax, notation, axiom, sorry.
-/
import Derived.Test.YtpojogficponhaaChecked
import GoSem.Claim
import GoSem.ClaimJoined
import GoSem.ClaimMapViews
import Derived.JoinedTies
import Derived.KernelRfl
namespace Go.Proofs.Ytpojogficponhaa
/- THE CELL 'sum', in the pinned program and in every row, IS THE sha256 OF THE DUMP (.gsa) THAT YtpojogficponhaaProg.lean LOADS. Nothing in Lean hashes anything: it is a label: what it is worth is what the hold of that sum in a sandbox is worth. -/
noncomputable def Try.pinned : Pinned := { name := "ytpojogficponhaa", sum := "b1b81609d1d222f22e10436c4fa76b700413f1bffceacba60e2690033701274f", checked := Try.checked }
namespace Rows
def none {H : Type} : Left H := { results := [], args := [] }

/-- 'laws.FnExactConstants': WHATEVER THE INPUT: true; the input reads as it did. -/
def fnExactConstantsSpec : ChangeSpec := { name := "fnExactConstants", fn := fun _ => fun
  | [] => { results := [.lit (.bool true)], args := [] }
  | _ => none }
def fnExactConstantsRow : OpenClaim := { program := "ytpojogficponhaa", sum := "b1b81609d1d222f22e10436c4fa76b700413f1bffceacba60e2690033701274f", func := "loop.example/g00463/laws.FnExactConstants", spec := "fnExactConstants", apart := false }
def FnExactConstantsSaid : Prop := fnExactConstantsRow.holds Try.pinned (OpenSpec.ofChange fnExactConstantsSpec)

/-- ITS FALSE NEIGHBOUR: 'it returns false'. Refute it at one input. -/
def fnExactConstantsWrong : ChangeSpec := { name := "fnExactConstants", fn := fun _ => fun
  | [] => { results := [.lit (.bool false)], args := [] }
  | _ => none }
def FnExactConstantsWrongFalsely : Prop := fnExactConstantsRow.holds Try.pinned (OpenSpec.ofChange fnExactConstantsWrong)

/-- 'laws.FnExactDotOk': WHATEVER THE INPUT: true; the input reads as it did. -/
def fnExactDotOkSpec : ChangeSpec := { name := "fnExactDotOk", fn := fun _ => fun
  | [d] => { results := [.lit (.bool true)], args := [d] }
  | _ => none }
def fnExactDotOkRow : OpenClaim := { program := "ytpojogficponhaa", sum := "b1b81609d1d222f22e10436c4fa76b700413f1bffceacba60e2690033701274f", func := "loop.example/g00463/laws.FnExactDotOk", spec := "fnExactDotOk", apart := false }
def FnExactDotOkSaid : Prop := fnExactDotOkRow.holds Try.pinned (OpenSpec.ofChange fnExactDotOkSpec)

/-- ITS FALSE NEIGHBOUR: 'it returns false'. Refute it at one input. -/
def fnExactDotOkWrong : ChangeSpec := { name := "fnExactDotOk", fn := fun _ => fun
  | [d] => { results := [.lit (.bool false)], args := [d] }
  | _ => none }
def FnExactDotOkWrongFalsely : Prop := fnExactDotOkRow.holds Try.pinned (OpenSpec.ofChange fnExactDotOkWrong)

/-- 'laws.FnExactNameOk': WHATEVER THE INPUT: true; the input reads as it did. -/
def fnExactNameOkSpec : ChangeSpec := { name := "fnExactNameOk", fn := fun _ => fun
  | [d] => { results := [.lit (.bool true)], args := [d] }
  | _ => none }
def fnExactNameOkRow : OpenClaim := { program := "ytpojogficponhaa", sum := "b1b81609d1d222f22e10436c4fa76b700413f1bffceacba60e2690033701274f", func := "loop.example/g00463/laws.FnExactNameOk", spec := "fnExactNameOk", apart := false }
def FnExactNameOkSaid : Prop := fnExactNameOkRow.holds Try.pinned (OpenSpec.ofChange fnExactNameOkSpec)

/-- ITS FALSE NEIGHBOUR: 'it returns false'. Refute it at one input. -/
def fnExactNameOkWrong : ChangeSpec := { name := "fnExactNameOk", fn := fun _ => fun
  | [d] => { results := [.lit (.bool false)], args := [d] }
  | _ => none }
def FnExactNameOkWrongFalsely : Prop := fnExactNameOkRow.holds Try.pinned (OpenSpec.ofChange fnExactNameOkWrong)

/-- 'laws.FnExactFileOk': WHATEVER THE INPUT: true; the input reads as it did. -/
def fnExactFileOkSpec : ChangeSpec := { name := "fnExactFileOk", fn := fun _ => fun
  | [d] => { results := [.lit (.bool true)], args := [d] }
  | _ => none }
def fnExactFileOkRow : OpenClaim := { program := "ytpojogficponhaa", sum := "b1b81609d1d222f22e10436c4fa76b700413f1bffceacba60e2690033701274f", func := "loop.example/g00463/laws.FnExactFileOk", spec := "fnExactFileOk", apart := false }
def FnExactFileOkSaid : Prop := fnExactFileOkRow.holds Try.pinned (OpenSpec.ofChange fnExactFileOkSpec)

/-- ITS FALSE NEIGHBOUR: 'it returns false'. Refute it at one input. -/
def fnExactFileOkWrong : ChangeSpec := { name := "fnExactFileOk", fn := fun _ => fun
  | [d] => { results := [.lit (.bool false)], args := [d] }
  | _ => none }
def FnExactFileOkWrongFalsely : Prop := fnExactFileOkRow.holds Try.pinned (OpenSpec.ofChange fnExactFileOkWrong)

/-- 'laws.FnExactSumMore': WHATEVER THE INPUT: true; the input reads as it did. -/
def fnExactSumMoreSpec : ChangeSpec := { name := "fnExactSumMore", fn := fun _ => fun
  | [d1, d2] => { results := [.lit (.bool true)], args := [d1, d2] }
  | _ => none }
def fnExactSumMoreRow : OpenClaim := { program := "ytpojogficponhaa", sum := "b1b81609d1d222f22e10436c4fa76b700413f1bffceacba60e2690033701274f", func := "loop.example/g00463/laws.FnExactSumMore", spec := "fnExactSumMore", apart := false }
def FnExactSumMoreSaid : Prop := fnExactSumMoreRow.holds Try.pinned (OpenSpec.ofChange fnExactSumMoreSpec)

/-- ITS FALSE NEIGHBOUR: 'it returns false'. Refute it at one input. -/
def fnExactSumMoreWrong : ChangeSpec := { name := "fnExactSumMore", fn := fun _ => fun
  | [d1, d2] => { results := [.lit (.bool false)], args := [d1, d2] }
  | _ => none }
def FnExactSumMoreWrongFalsely : Prop := fnExactSumMoreRow.holds Try.pinned (OpenSpec.ofChange fnExactSumMoreWrong)

/-- 'laws.FnExactHex': WHATEVER THE INPUT: true; the input reads as it did. -/
def fnExactHexSpec : ChangeSpec := { name := "fnExactHex", fn := fun _ => fun
  | [d] => { results := [.lit (.bool true)], args := [d] }
  | _ => none }
def fnExactHexRow : OpenClaim := { program := "ytpojogficponhaa", sum := "b1b81609d1d222f22e10436c4fa76b700413f1bffceacba60e2690033701274f", func := "loop.example/g00463/laws.FnExactHex", spec := "fnExactHex", apart := false }
def FnExactHexSaid : Prop := fnExactHexRow.holds Try.pinned (OpenSpec.ofChange fnExactHexSpec)

/-- ITS FALSE NEIGHBOUR: 'it returns false'. Refute it at one input. -/
def fnExactHexWrong : ChangeSpec := { name := "fnExactHex", fn := fun _ => fun
  | [d] => { results := [.lit (.bool false)], args := [d] }
  | _ => none }
def FnExactHexWrongFalsely : Prop := fnExactHexRow.holds Try.pinned (OpenSpec.ofChange fnExactHexWrong)

/-- 'laws.FnExactVarText': WHATEVER THE INPUT: true; the input reads as it did. -/
def fnExactVarTextSpec : ChangeSpec := { name := "fnExactVarText", fn := fun _ => fun
  | [d] => { results := [.lit (.bool true)], args := [d] }
  | _ => none }
def fnExactVarTextRow : OpenClaim := { program := "ytpojogficponhaa", sum := "b1b81609d1d222f22e10436c4fa76b700413f1bffceacba60e2690033701274f", func := "loop.example/g00463/laws.FnExactVarText", spec := "fnExactVarText", apart := false }
def FnExactVarTextSaid : Prop := fnExactVarTextRow.holds Try.pinned (OpenSpec.ofChange fnExactVarTextSpec)

/-- ITS FALSE NEIGHBOUR: 'it returns false'. Refute it at one input. -/
def fnExactVarTextWrong : ChangeSpec := { name := "fnExactVarText", fn := fun _ => fun
  | [d] => { results := [.lit (.bool false)], args := [d] }
  | _ => none }
def FnExactVarTextWrongFalsely : Prop := fnExactVarTextRow.holds Try.pinned (OpenSpec.ofChange fnExactVarTextWrong)

/-- 'laws.FnExactSumOf': WHATEVER THE INPUT: true; the input reads as it did. -/
def fnExactSumOfSpec : ChangeSpec := { name := "fnExactSumOf", fn := fun _ => fun
  | [d] => { results := [.lit (.bool true)], args := [d] }
  | _ => none }
def fnExactSumOfRow : OpenClaim := { program := "ytpojogficponhaa", sum := "b1b81609d1d222f22e10436c4fa76b700413f1bffceacba60e2690033701274f", func := "loop.example/g00463/laws.FnExactSumOf", spec := "fnExactSumOf", apart := false }
def FnExactSumOfSaid : Prop := fnExactSumOfRow.holds Try.pinned (OpenSpec.ofChange fnExactSumOfSpec)

/-- ITS FALSE NEIGHBOUR: 'it returns false'. Refute it at one input. -/
def fnExactSumOfWrong : ChangeSpec := { name := "fnExactSumOf", fn := fun _ => fun
  | [d] => { results := [.lit (.bool false)], args := [d] }
  | _ => none }
def FnExactSumOfWrongFalsely : Prop := fnExactSumOfRow.holds Try.pinned (OpenSpec.ofChange fnExactSumOfWrong)

/-- 'laws.FnExactKnowNew': WHATEVER THE INPUT: true; the input reads as it did. -/
def fnExactKnowNewSpec : ChangeSpec := { name := "fnExactKnowNew", fn := fun _ => fun
  | [] => { results := [.lit (.bool true)], args := [] }
  | _ => none }
def fnExactKnowNewRow : OpenClaim := { program := "ytpojogficponhaa", sum := "b1b81609d1d222f22e10436c4fa76b700413f1bffceacba60e2690033701274f", func := "loop.example/g00463/laws.FnExactKnowNew", spec := "fnExactKnowNew", apart := false }
def FnExactKnowNewSaid : Prop := fnExactKnowNewRow.holds Try.pinned (OpenSpec.ofChange fnExactKnowNewSpec)

/-- ITS FALSE NEIGHBOUR: 'it returns false'. Refute it at one input. -/
def fnExactKnowNewWrong : ChangeSpec := { name := "fnExactKnowNew", fn := fun _ => fun
  | [] => { results := [.lit (.bool false)], args := [] }
  | _ => none }
def FnExactKnowNewWrongFalsely : Prop := fnExactKnowNewRow.holds Try.pinned (OpenSpec.ofChange fnExactKnowNewWrong)

/-- 'laws.FnExactShortText': WHATEVER THE INPUT: true; the input reads as it did. -/
def fnExactShortTextSpec : ChangeSpec := { name := "fnExactShortText", fn := fun _ => fun
  | [d] => { results := [.lit (.bool true)], args := [d] }
  | _ => none }
def fnExactShortTextRow : OpenClaim := { program := "ytpojogficponhaa", sum := "b1b81609d1d222f22e10436c4fa76b700413f1bffceacba60e2690033701274f", func := "loop.example/g00463/laws.FnExactShortText", spec := "fnExactShortText", apart := false }
def FnExactShortTextSaid : Prop := fnExactShortTextRow.holds Try.pinned (OpenSpec.ofChange fnExactShortTextSpec)

/-- ITS FALSE NEIGHBOUR: 'it returns false'. Refute it at one input. -/
def fnExactShortTextWrong : ChangeSpec := { name := "fnExactShortText", fn := fun _ => fun
  | [d] => { results := [.lit (.bool false)], args := [d] }
  | _ => none }
def FnExactShortTextWrongFalsely : Prop := fnExactShortTextRow.holds Try.pinned (OpenSpec.ofChange fnExactShortTextWrong)

/-- 'laws.FnExactKnowOk': WHATEVER THE INPUT: true; the input reads as it did. -/
def fnExactKnowOkSpec : ChangeSpec := { name := "fnExactKnowOk", fn := fun _ => fun
  | [d] => { results := [.lit (.bool true)], args := [d] }
  | _ => none }
def fnExactKnowOkRow : OpenClaim := { program := "ytpojogficponhaa", sum := "b1b81609d1d222f22e10436c4fa76b700413f1bffceacba60e2690033701274f", func := "loop.example/g00463/laws.FnExactKnowOk", spec := "fnExactKnowOk", apart := false }
def FnExactKnowOkSaid : Prop := fnExactKnowOkRow.holds Try.pinned (OpenSpec.ofChange fnExactKnowOkSpec)

/-- ITS FALSE NEIGHBOUR: 'it returns false'. Refute it at one input. -/
def fnExactKnowOkWrong : ChangeSpec := { name := "fnExactKnowOk", fn := fun _ => fun
  | [d] => { results := [.lit (.bool false)], args := [d] }
  | _ => none }
def FnExactKnowOkWrongFalsely : Prop := fnExactKnowOkRow.holds Try.pinned (OpenSpec.ofChange fnExactKnowOkWrong)

/-- 'laws.FnExactSyncedFile': WHATEVER THE INPUT: true; the input reads as it did. -/
def fnExactSyncedFileSpec : ChangeSpec := { name := "fnExactSyncedFile", fn := fun _ => fun
  | [d] => { results := [.lit (.bool true)], args := [d] }
  | _ => none }
def fnExactSyncedFileRow : OpenClaim := { program := "ytpojogficponhaa", sum := "b1b81609d1d222f22e10436c4fa76b700413f1bffceacba60e2690033701274f", func := "loop.example/g00463/laws.FnExactSyncedFile", spec := "fnExactSyncedFile", apart := false }
def FnExactSyncedFileSaid : Prop := fnExactSyncedFileRow.holds Try.pinned (OpenSpec.ofChange fnExactSyncedFileSpec)

/-- ITS FALSE NEIGHBOUR: 'it returns false'. Refute it at one input. -/
def fnExactSyncedFileWrong : ChangeSpec := { name := "fnExactSyncedFile", fn := fun _ => fun
  | [d] => { results := [.lit (.bool false)], args := [d] }
  | _ => none }
def FnExactSyncedFileWrongFalsely : Prop := fnExactSyncedFileRow.holds Try.pinned (OpenSpec.ofChange fnExactSyncedFileWrong)

/- THE SECOND FORM. 'bulk': how many values and letters a reading holds, each counted each time it is reached (what is shared counts as often as it is met; a slice's spare places count too). A statement '..UptoSaid' is the law's where the arguments, and the package variables that the reading takes, are together of bulk at most 1048576: NARROWER than '..Said'. Prove '..Said' where nothing that the law and all that it calls make is longer than what came in: it says more and counts as full. Else prove '..UptoSaid'. A law counts once. -/
mutual
def uptoBulk {H : Type} : DataW H → Nat
  | .lit (.string bytes) => bytes.length + 1
  | .lit _ => 1
  | .nil => 1
  | .ptr d => uptoBulk d + 1
  | .slice elems spare => uptoBulkAll elems + uptoBulkAll spare + 1
  | .agg parts => uptoBulkAll parts + 1
  | .iface _ d => uptoBulk d + 1
  | .map entries => uptoBulkEntries entries + 1
  | .held _ => 1
def uptoBulkAll {H : Type} : List (DataW H) → Nat
  | [] => 0
  | d :: r => uptoBulk d + uptoBulkAll r
def uptoBulkEntries {H : Type} : List (Lit × DataW H) → Nat
  | [] => 0
  | x :: r => uptoBulkEntry x + uptoBulkEntries r
def uptoBulkEntry {H : Type} : Lit × DataW H → Nat
  | (.string bytes, d) => bytes.length + uptoBulk d + 1
  | (_, d) => uptoBulk d + 1
 end
def uptoSmall : (H : Type) → List (DataW H) → Bool := fun _ ds => decide (uptoBulkAll ds ≤ 1048576)
def OpenSpec.upto (s : _root_.Go.ChangeSpec) : _root_.Go.OpenSpec := { _root_.Go.OpenSpec.ofChange s with cond := some uptoSmall }

/-- 'laws.FnExactConstants', WHERE WHAT IT READS IS OF BULK AT MOST 1048576: true; the input reads as it did. -/
def fnExactConstantsUptoRow : OpenClaim := { program := "ytpojogficponhaa", sum := "b1b81609d1d222f22e10436c4fa76b700413f1bffceacba60e2690033701274f", func := "loop.example/g00463/laws.FnExactConstants", spec := "fnExactConstants", apart := false, narrowed := true }
def FnExactConstantsUptoSaid : Prop := fnExactConstantsUptoRow.holds Try.pinned (OpenSpec.upto fnExactConstantsSpec)

/-- 'laws.FnExactDotOk', WHERE WHAT IT READS IS OF BULK AT MOST 1048576: true; the input reads as it did. -/
def fnExactDotOkUptoRow : OpenClaim := { program := "ytpojogficponhaa", sum := "b1b81609d1d222f22e10436c4fa76b700413f1bffceacba60e2690033701274f", func := "loop.example/g00463/laws.FnExactDotOk", spec := "fnExactDotOk", apart := false, narrowed := true }
def FnExactDotOkUptoSaid : Prop := fnExactDotOkUptoRow.holds Try.pinned (OpenSpec.upto fnExactDotOkSpec)

/-- 'laws.FnExactNameOk', WHERE WHAT IT READS IS OF BULK AT MOST 1048576: true; the input reads as it did. -/
def fnExactNameOkUptoRow : OpenClaim := { program := "ytpojogficponhaa", sum := "b1b81609d1d222f22e10436c4fa76b700413f1bffceacba60e2690033701274f", func := "loop.example/g00463/laws.FnExactNameOk", spec := "fnExactNameOk", apart := false, narrowed := true }
def FnExactNameOkUptoSaid : Prop := fnExactNameOkUptoRow.holds Try.pinned (OpenSpec.upto fnExactNameOkSpec)

/-- 'laws.FnExactFileOk', WHERE WHAT IT READS IS OF BULK AT MOST 1048576: true; the input reads as it did. -/
def fnExactFileOkUptoRow : OpenClaim := { program := "ytpojogficponhaa", sum := "b1b81609d1d222f22e10436c4fa76b700413f1bffceacba60e2690033701274f", func := "loop.example/g00463/laws.FnExactFileOk", spec := "fnExactFileOk", apart := false, narrowed := true }
def FnExactFileOkUptoSaid : Prop := fnExactFileOkUptoRow.holds Try.pinned (OpenSpec.upto fnExactFileOkSpec)

/-- 'laws.FnExactSumMore', WHERE WHAT IT READS IS OF BULK AT MOST 1048576: true; the input reads as it did. -/
def fnExactSumMoreUptoRow : OpenClaim := { program := "ytpojogficponhaa", sum := "b1b81609d1d222f22e10436c4fa76b700413f1bffceacba60e2690033701274f", func := "loop.example/g00463/laws.FnExactSumMore", spec := "fnExactSumMore", apart := false, narrowed := true }
def FnExactSumMoreUptoSaid : Prop := fnExactSumMoreUptoRow.holds Try.pinned (OpenSpec.upto fnExactSumMoreSpec)

/-- 'laws.FnExactHex', WHERE WHAT IT READS IS OF BULK AT MOST 1048576: true; the input reads as it did. -/
def fnExactHexUptoRow : OpenClaim := { program := "ytpojogficponhaa", sum := "b1b81609d1d222f22e10436c4fa76b700413f1bffceacba60e2690033701274f", func := "loop.example/g00463/laws.FnExactHex", spec := "fnExactHex", apart := false, narrowed := true }
def FnExactHexUptoSaid : Prop := fnExactHexUptoRow.holds Try.pinned (OpenSpec.upto fnExactHexSpec)

/-- 'laws.FnExactVarText', WHERE WHAT IT READS IS OF BULK AT MOST 1048576: true; the input reads as it did. -/
def fnExactVarTextUptoRow : OpenClaim := { program := "ytpojogficponhaa", sum := "b1b81609d1d222f22e10436c4fa76b700413f1bffceacba60e2690033701274f", func := "loop.example/g00463/laws.FnExactVarText", spec := "fnExactVarText", apart := false, narrowed := true }
def FnExactVarTextUptoSaid : Prop := fnExactVarTextUptoRow.holds Try.pinned (OpenSpec.upto fnExactVarTextSpec)

/-- 'laws.FnExactSumOf', WHERE WHAT IT READS IS OF BULK AT MOST 1048576: true; the input reads as it did. -/
def fnExactSumOfUptoRow : OpenClaim := { program := "ytpojogficponhaa", sum := "b1b81609d1d222f22e10436c4fa76b700413f1bffceacba60e2690033701274f", func := "loop.example/g00463/laws.FnExactSumOf", spec := "fnExactSumOf", apart := false, narrowed := true }
def FnExactSumOfUptoSaid : Prop := fnExactSumOfUptoRow.holds Try.pinned (OpenSpec.upto fnExactSumOfSpec)

/-- 'laws.FnExactKnowNew', WHERE WHAT IT READS IS OF BULK AT MOST 1048576: true; the input reads as it did. -/
def fnExactKnowNewUptoRow : OpenClaim := { program := "ytpojogficponhaa", sum := "b1b81609d1d222f22e10436c4fa76b700413f1bffceacba60e2690033701274f", func := "loop.example/g00463/laws.FnExactKnowNew", spec := "fnExactKnowNew", apart := false, narrowed := true }
def FnExactKnowNewUptoSaid : Prop := fnExactKnowNewUptoRow.holds Try.pinned (OpenSpec.upto fnExactKnowNewSpec)

/-- 'laws.FnExactShortText', WHERE WHAT IT READS IS OF BULK AT MOST 1048576: true; the input reads as it did. -/
def fnExactShortTextUptoRow : OpenClaim := { program := "ytpojogficponhaa", sum := "b1b81609d1d222f22e10436c4fa76b700413f1bffceacba60e2690033701274f", func := "loop.example/g00463/laws.FnExactShortText", spec := "fnExactShortText", apart := false, narrowed := true }
def FnExactShortTextUptoSaid : Prop := fnExactShortTextUptoRow.holds Try.pinned (OpenSpec.upto fnExactShortTextSpec)

/-- 'laws.FnExactKnowOk', WHERE WHAT IT READS IS OF BULK AT MOST 1048576: true; the input reads as it did. -/
def fnExactKnowOkUptoRow : OpenClaim := { program := "ytpojogficponhaa", sum := "b1b81609d1d222f22e10436c4fa76b700413f1bffceacba60e2690033701274f", func := "loop.example/g00463/laws.FnExactKnowOk", spec := "fnExactKnowOk", apart := false, narrowed := true }
def FnExactKnowOkUptoSaid : Prop := fnExactKnowOkUptoRow.holds Try.pinned (OpenSpec.upto fnExactKnowOkSpec)

/-- 'laws.FnExactSyncedFile', WHERE WHAT IT READS IS OF BULK AT MOST 1048576: true; the input reads as it did. -/
def fnExactSyncedFileUptoRow : OpenClaim := { program := "ytpojogficponhaa", sum := "b1b81609d1d222f22e10436c4fa76b700413f1bffceacba60e2690033701274f", func := "loop.example/g00463/laws.FnExactSyncedFile", spec := "fnExactSyncedFile", apart := false, narrowed := true }
def FnExactSyncedFileUptoSaid : Prop := fnExactSyncedFileUptoRow.holds Try.pinned (OpenSpec.upto fnExactSyncedFileSpec)

end Rows
end Go.Proofs.Ytpojogficponhaa
