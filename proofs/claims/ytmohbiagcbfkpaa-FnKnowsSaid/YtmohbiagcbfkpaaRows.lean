/-
  No cell of these rows narrows 'for every input' (looked for: loops, veiled, ifaces, maps, wideKeys, modest, calm, conditions, laid).
  DERIVED. THE GIVEN ROWS OF THIS SEAT. 11 by the template 'for every input the law returns true; each argument reads behind the call as it read before'; 0 by the template 'total and deterministic' (their statements: YtmohbiagcbfkpaaTotals.lean).
  GIVEN WITH THE SEED: the statements are not yours to turn. If you find one false, say at which input.
  Laid BY PROGRAM, IN A SANDBOX (cutbox-rows.mjs): the forced cells as the released guide's own fill.sh prints them over the translation 52fb05d5bd29e279… (all of the seat's roots in one cut). By AI agents, Wed Nov 11 2026. No macro, syntax, notation, axiom, sorry.
-/
import Derived.Test.YtmohbiagcbfkpaaChecked
import GoSem.Claim
import GoSem.ClaimJoined
import GoSem.ClaimMapViews
import Derived.JoinedTies
import Derived.KernelRfl
namespace Go.Proofs.Ytmohbiagcbfkpaa
/- THE CELL 'sum', in the pinned program and in every row, IS THE sha256 OF THE DUMP (.gsa) THAT YtmohbiagcbfkpaaProg.lean LOADS. Nothing in Lean hashes anything: it is a label: what it is worth is what the hold of that sum in a sandbox is worth. -/
noncomputable def Try.pinned : Pinned := { name := "ytmohbiagcbfkpaa", sum := "52fb05d5bd29e27995f806de35f84b5e980309a4597c624e856e5359444fb2f6", checked := Try.checked }
namespace Rows
def none {H : Type} : Left H := { results := [], args := [] }

/-- 'laws.FnExactSameAct': WHATEVER THE INPUT: true; the input reads as it did. -/
def fnExactSameActSpec : ChangeSpec := { name := "fnExactSameAct", fn := fun _ => fun
  | [d1, d2] => { results := [.lit (.bool true)], args := [d1, d2] }
  | _ => none }
def fnExactSameActRow : OpenClaim := { program := "ytmohbiagcbfkpaa", sum := "52fb05d5bd29e27995f806de35f84b5e980309a4597c624e856e5359444fb2f6", func := "loop.example/g00463/laws.FnExactSameAct", spec := "fnExactSameAct", apart := false }
def FnExactSameActSaid : Prop := fnExactSameActRow.holds Try.pinned (OpenSpec.ofChange fnExactSameActSpec)

/-- ITS FALSE NEIGHBOUR: 'it returns false'. Refute it at one input. -/
def fnExactSameActWrong : ChangeSpec := { name := "fnExactSameAct", fn := fun _ => fun
  | [d1, d2] => { results := [.lit (.bool false)], args := [d1, d2] }
  | _ => none }
def FnExactSameActWrongFalsely : Prop := fnExactSameActRow.holds Try.pinned (OpenSpec.ofChange fnExactSameActWrong)

/-- 'laws.FnExactActOk': WHATEVER THE INPUT: true; the input reads as it did. -/
def fnExactActOkSpec : ChangeSpec := { name := "fnExactActOk", fn := fun _ => fun
  | [d] => { results := [.lit (.bool true)], args := [d] }
  | _ => none }
def fnExactActOkRow : OpenClaim := { program := "ytmohbiagcbfkpaa", sum := "52fb05d5bd29e27995f806de35f84b5e980309a4597c624e856e5359444fb2f6", func := "loop.example/g00463/laws.FnExactActOk", spec := "fnExactActOk", apart := false }
def FnExactActOkSaid : Prop := fnExactActOkRow.holds Try.pinned (OpenSpec.ofChange fnExactActOkSpec)

/-- ITS FALSE NEIGHBOUR: 'it returns false'. Refute it at one input. -/
def fnExactActOkWrong : ChangeSpec := { name := "fnExactActOk", fn := fun _ => fun
  | [d] => { results := [.lit (.bool false)], args := [d] }
  | _ => none }
def FnExactActOkWrongFalsely : Prop := fnExactActOkRow.holds Try.pinned (OpenSpec.ofChange fnExactActOkWrong)

/-- 'laws.FnExactActText': WHATEVER THE INPUT: true; the input reads as it did. -/
def fnExactActTextSpec : ChangeSpec := { name := "fnExactActText", fn := fun _ => fun
  | [d] => { results := [.lit (.bool true)], args := [d] }
  | _ => none }
def fnExactActTextRow : OpenClaim := { program := "ytmohbiagcbfkpaa", sum := "52fb05d5bd29e27995f806de35f84b5e980309a4597c624e856e5359444fb2f6", func := "loop.example/g00463/laws.FnExactActText", spec := "fnExactActText", apart := false }
def FnExactActTextSaid : Prop := fnExactActTextRow.holds Try.pinned (OpenSpec.ofChange fnExactActTextSpec)

/-- ITS FALSE NEIGHBOUR: 'it returns false'. Refute it at one input. -/
def fnExactActTextWrong : ChangeSpec := { name := "fnExactActText", fn := fun _ => fun
  | [d] => { results := [.lit (.bool false)], args := [d] }
  | _ => none }
def FnExactActTextWrongFalsely : Prop := fnExactActTextRow.holds Try.pinned (OpenSpec.ofChange fnExactActTextWrong)

/-- 'laws.FnExactReadAct': WHATEVER THE INPUT: true; the input reads as it did. -/
def fnExactReadActSpec : ChangeSpec := { name := "fnExactReadAct", fn := fun _ => fun
  | [d1, d2] => { results := [.lit (.bool true)], args := [d1, d2] }
  | _ => none }
def fnExactReadActRow : OpenClaim := { program := "ytmohbiagcbfkpaa", sum := "52fb05d5bd29e27995f806de35f84b5e980309a4597c624e856e5359444fb2f6", func := "loop.example/g00463/laws.FnExactReadAct", spec := "fnExactReadAct", apart := false }
def FnExactReadActSaid : Prop := fnExactReadActRow.holds Try.pinned (OpenSpec.ofChange fnExactReadActSpec)

/-- ITS FALSE NEIGHBOUR: 'it returns false'. Refute it at one input. -/
def fnExactReadActWrong : ChangeSpec := { name := "fnExactReadAct", fn := fun _ => fun
  | [d1, d2] => { results := [.lit (.bool false)], args := [d1, d2] }
  | _ => none }
def FnExactReadActWrongFalsely : Prop := fnExactReadActRow.holds Try.pinned (OpenSpec.ofChange fnExactReadActWrong)

/-- 'laws.FnExactTallyAt': WHATEVER THE INPUT: true; the input reads as it did. -/
def fnExactTallyAtSpec : ChangeSpec := { name := "fnExactTallyAt", fn := fun _ => fun
  | [d1, d2, d3] => { results := [.lit (.bool true)], args := [d1, d2, d3] }
  | _ => none }
def fnExactTallyAtRow : OpenClaim := { program := "ytmohbiagcbfkpaa", sum := "52fb05d5bd29e27995f806de35f84b5e980309a4597c624e856e5359444fb2f6", func := "loop.example/g00463/laws.FnExactTallyAt", spec := "fnExactTallyAt", apart := false }
def FnExactTallyAtSaid : Prop := fnExactTallyAtRow.holds Try.pinned (OpenSpec.ofChange fnExactTallyAtSpec)

/-- ITS FALSE NEIGHBOUR: 'it returns false'. Refute it at one input. -/
def fnExactTallyAtWrong : ChangeSpec := { name := "fnExactTallyAt", fn := fun _ => fun
  | [d1, d2, d3] => { results := [.lit (.bool false)], args := [d1, d2, d3] }
  | _ => none }
def FnExactTallyAtWrongFalsely : Prop := fnExactTallyAtRow.holds Try.pinned (OpenSpec.ofChange fnExactTallyAtWrong)

/-- 'laws.FnExactCountOf': WHATEVER THE INPUT: true; the input reads as it did. -/
def fnExactCountOfSpec : ChangeSpec := { name := "fnExactCountOf", fn := fun _ => fun
  | [d1, d2] => { results := [.lit (.bool true)], args := [d1, d2] }
  | _ => none }
def fnExactCountOfRow : OpenClaim := { program := "ytmohbiagcbfkpaa", sum := "52fb05d5bd29e27995f806de35f84b5e980309a4597c624e856e5359444fb2f6", func := "loop.example/g00463/laws.FnExactCountOf", spec := "fnExactCountOf", apart := false }
def FnExactCountOfSaid : Prop := fnExactCountOfRow.holds Try.pinned (OpenSpec.ofChange fnExactCountOfSpec)

/-- ITS FALSE NEIGHBOUR: 'it returns false'. Refute it at one input. -/
def fnExactCountOfWrong : ChangeSpec := { name := "fnExactCountOf", fn := fun _ => fun
  | [d1, d2] => { results := [.lit (.bool false)], args := [d1, d2] }
  | _ => none }
def FnExactCountOfWrongFalsely : Prop := fnExactCountOfRow.holds Try.pinned (OpenSpec.ofChange fnExactCountOfWrong)

/-- 'laws.FnExactLivesOf': WHATEVER THE INPUT: true; the input reads as it did. -/
def fnExactLivesOfSpec : ChangeSpec := { name := "fnExactLivesOf", fn := fun _ => fun
  | [d1, d2, d3, d4] => { results := [.lit (.bool true)], args := [d1, d2, d3, d4] }
  | _ => none }
def fnExactLivesOfRow : OpenClaim := { program := "ytmohbiagcbfkpaa", sum := "52fb05d5bd29e27995f806de35f84b5e980309a4597c624e856e5359444fb2f6", func := "loop.example/g00463/laws.FnExactLivesOf", spec := "fnExactLivesOf", apart := false }
def FnExactLivesOfSaid : Prop := fnExactLivesOfRow.holds Try.pinned (OpenSpec.ofChange fnExactLivesOfSpec)

/-- ITS FALSE NEIGHBOUR: 'it returns false'. Refute it at one input. -/
def fnExactLivesOfWrong : ChangeSpec := { name := "fnExactLivesOf", fn := fun _ => fun
  | [d1, d2, d3, d4] => { results := [.lit (.bool false)], args := [d1, d2, d3, d4] }
  | _ => none }
def FnExactLivesOfWrongFalsely : Prop := fnExactLivesOfRow.holds Try.pinned (OpenSpec.ofChange fnExactLivesOfWrong)

/-- 'laws.FnExactStateNew': WHATEVER THE INPUT: true; the input reads as it did. -/
def fnExactStateNewSpec : ChangeSpec := { name := "fnExactStateNew", fn := fun _ => fun
  | [] => { results := [.lit (.bool true)], args := [] }
  | _ => none }
def fnExactStateNewRow : OpenClaim := { program := "ytmohbiagcbfkpaa", sum := "52fb05d5bd29e27995f806de35f84b5e980309a4597c624e856e5359444fb2f6", func := "loop.example/g00463/laws.FnExactStateNew", spec := "fnExactStateNew", apart := false }
def FnExactStateNewSaid : Prop := fnExactStateNewRow.holds Try.pinned (OpenSpec.ofChange fnExactStateNewSpec)

/-- ITS FALSE NEIGHBOUR: 'it returns false'. Refute it at one input. -/
def fnExactStateNewWrong : ChangeSpec := { name := "fnExactStateNew", fn := fun _ => fun
  | [] => { results := [.lit (.bool false)], args := [] }
  | _ => none }
def FnExactStateNewWrongFalsely : Prop := fnExactStateNewRow.holds Try.pinned (OpenSpec.ofChange fnExactStateNewWrong)

/-- 'laws.FnTurned': WHATEVER THE INPUT: true; the input reads as it did. -/
def fnTurnedSpec : ChangeSpec := { name := "fnTurned", fn := fun _ => fun
  | [d] => { results := [.lit (.bool true)], args := [d] }
  | _ => none }
def fnTurnedRow : OpenClaim := { program := "ytmohbiagcbfkpaa", sum := "52fb05d5bd29e27995f806de35f84b5e980309a4597c624e856e5359444fb2f6", func := "loop.example/g00463/laws.FnTurned", spec := "fnTurned", apart := false }
def FnTurnedSaid : Prop := fnTurnedRow.holds Try.pinned (OpenSpec.ofChange fnTurnedSpec)

/-- ITS FALSE NEIGHBOUR: 'it returns false'. Refute it at one input. -/
def fnTurnedWrong : ChangeSpec := { name := "fnTurned", fn := fun _ => fun
  | [d] => { results := [.lit (.bool false)], args := [d] }
  | _ => none }
def FnTurnedWrongFalsely : Prop := fnTurnedRow.holds Try.pinned (OpenSpec.ofChange fnTurnedWrong)

/-- 'laws.FnFiles': WHATEVER THE INPUT: true; the input reads as it did. -/
def fnFilesSpec : ChangeSpec := { name := "fnFiles", fn := fun _ => fun
  | [d] => { results := [.lit (.bool true)], args := [d] }
  | _ => none }
def fnFilesRow : OpenClaim := { program := "ytmohbiagcbfkpaa", sum := "52fb05d5bd29e27995f806de35f84b5e980309a4597c624e856e5359444fb2f6", func := "loop.example/g00463/laws.FnFiles", spec := "fnFiles", apart := false }
def FnFilesSaid : Prop := fnFilesRow.holds Try.pinned (OpenSpec.ofChange fnFilesSpec)

/-- ITS FALSE NEIGHBOUR: 'it returns false'. Refute it at one input. -/
def fnFilesWrong : ChangeSpec := { name := "fnFiles", fn := fun _ => fun
  | [d] => { results := [.lit (.bool false)], args := [d] }
  | _ => none }
def FnFilesWrongFalsely : Prop := fnFilesRow.holds Try.pinned (OpenSpec.ofChange fnFilesWrong)

/-- 'laws.FnKnows': WHATEVER THE INPUT: true; the input reads as it did. -/
def fnKnowsSpec : ChangeSpec := { name := "fnKnows", fn := fun _ => fun
  | [d] => { results := [.lit (.bool true)], args := [d] }
  | _ => none }
def fnKnowsRow : OpenClaim := { program := "ytmohbiagcbfkpaa", sum := "52fb05d5bd29e27995f806de35f84b5e980309a4597c624e856e5359444fb2f6", func := "loop.example/g00463/laws.FnKnows", spec := "fnKnows", apart := false }
def FnKnowsSaid : Prop := fnKnowsRow.holds Try.pinned (OpenSpec.ofChange fnKnowsSpec)

/-- ITS FALSE NEIGHBOUR: 'it returns false'. Refute it at one input. -/
def fnKnowsWrong : ChangeSpec := { name := "fnKnows", fn := fun _ => fun
  | [d] => { results := [.lit (.bool false)], args := [d] }
  | _ => none }
def FnKnowsWrongFalsely : Prop := fnKnowsRow.holds Try.pinned (OpenSpec.ofChange fnKnowsWrong)

/- THE SECOND FORM. 'bulk': how many values and letters a reading holds, each counted each time it is reached (what is shared counts as often as it is met; a slice's spare places count too). A statement '..UptoSaid' is the law's where the arguments, and the package variables that the reading takes, are together of bulk at most 1048576: NARROWER than '..Said'. Prove '..Said' where nothing that the law and all that it calls make is longer than what came in: it says more and counts as full. Else prove '..UptoSaid'. A law counts once. -/
mutual
def uptoBulk {H : Type} : DataW H → Nat
  | .lit (.string bytes) => bytes.length + 1
  | .lit _ => 1
  | .nil => 1
  | .ptr d => uptoBulk d + 1
  | .slice elems spare => uptoBulkAll elems + uptoBulkAll spare + 1
  | .agg parts => uptoBulkAll parts + 1
  | .iface _ d => uptoBulk d + 1
  | .map entries => uptoBulkEntries entries + 1
  | .held _ => 1
def uptoBulkAll {H : Type} : List (DataW H) → Nat
  | [] => 0
  | d :: r => uptoBulk d + uptoBulkAll r
def uptoBulkEntries {H : Type} : List (Lit × DataW H) → Nat
  | [] => 0
  | x :: r => uptoBulkEntry x + uptoBulkEntries r
def uptoBulkEntry {H : Type} : Lit × DataW H → Nat
  | (.string bytes, d) => bytes.length + uptoBulk d + 1
  | (_, d) => uptoBulk d + 1
 end
def uptoSmall : (H : Type) → List (DataW H) → Bool := fun _ ds => decide (uptoBulkAll ds ≤ 1048576)
def OpenSpec.upto (s : _root_.Go.ChangeSpec) : _root_.Go.OpenSpec := { _root_.Go.OpenSpec.ofChange s with cond := some uptoSmall }

/-- 'laws.FnExactSameAct', WHERE WHAT IT READS IS OF BULK AT MOST 1048576: true; the input reads as it did. -/
def fnExactSameActUptoRow : OpenClaim := { program := "ytmohbiagcbfkpaa", sum := "52fb05d5bd29e27995f806de35f84b5e980309a4597c624e856e5359444fb2f6", func := "loop.example/g00463/laws.FnExactSameAct", spec := "fnExactSameAct", apart := false, narrowed := true }
def FnExactSameActUptoSaid : Prop := fnExactSameActUptoRow.holds Try.pinned (OpenSpec.upto fnExactSameActSpec)

/-- 'laws.FnExactActOk', WHERE WHAT IT READS IS OF BULK AT MOST 1048576: true; the input reads as it did. -/
def fnExactActOkUptoRow : OpenClaim := { program := "ytmohbiagcbfkpaa", sum := "52fb05d5bd29e27995f806de35f84b5e980309a4597c624e856e5359444fb2f6", func := "loop.example/g00463/laws.FnExactActOk", spec := "fnExactActOk", apart := false, narrowed := true }
def FnExactActOkUptoSaid : Prop := fnExactActOkUptoRow.holds Try.pinned (OpenSpec.upto fnExactActOkSpec)

/-- 'laws.FnExactActText', WHERE WHAT IT READS IS OF BULK AT MOST 1048576: true; the input reads as it did. -/
def fnExactActTextUptoRow : OpenClaim := { program := "ytmohbiagcbfkpaa", sum := "52fb05d5bd29e27995f806de35f84b5e980309a4597c624e856e5359444fb2f6", func := "loop.example/g00463/laws.FnExactActText", spec := "fnExactActText", apart := false, narrowed := true }
def FnExactActTextUptoSaid : Prop := fnExactActTextUptoRow.holds Try.pinned (OpenSpec.upto fnExactActTextSpec)

/-- 'laws.FnExactReadAct', WHERE WHAT IT READS IS OF BULK AT MOST 1048576: true; the input reads as it did. -/
def fnExactReadActUptoRow : OpenClaim := { program := "ytmohbiagcbfkpaa", sum := "52fb05d5bd29e27995f806de35f84b5e980309a4597c624e856e5359444fb2f6", func := "loop.example/g00463/laws.FnExactReadAct", spec := "fnExactReadAct", apart := false, narrowed := true }
def FnExactReadActUptoSaid : Prop := fnExactReadActUptoRow.holds Try.pinned (OpenSpec.upto fnExactReadActSpec)

/-- 'laws.FnExactTallyAt', WHERE WHAT IT READS IS OF BULK AT MOST 1048576: true; the input reads as it did. -/
def fnExactTallyAtUptoRow : OpenClaim := { program := "ytmohbiagcbfkpaa", sum := "52fb05d5bd29e27995f806de35f84b5e980309a4597c624e856e5359444fb2f6", func := "loop.example/g00463/laws.FnExactTallyAt", spec := "fnExactTallyAt", apart := false, narrowed := true }
def FnExactTallyAtUptoSaid : Prop := fnExactTallyAtUptoRow.holds Try.pinned (OpenSpec.upto fnExactTallyAtSpec)

/-- 'laws.FnExactCountOf', WHERE WHAT IT READS IS OF BULK AT MOST 1048576: true; the input reads as it did. -/
def fnExactCountOfUptoRow : OpenClaim := { program := "ytmohbiagcbfkpaa", sum := "52fb05d5bd29e27995f806de35f84b5e980309a4597c624e856e5359444fb2f6", func := "loop.example/g00463/laws.FnExactCountOf", spec := "fnExactCountOf", apart := false, narrowed := true }
def FnExactCountOfUptoSaid : Prop := fnExactCountOfUptoRow.holds Try.pinned (OpenSpec.upto fnExactCountOfSpec)

/-- 'laws.FnExactLivesOf', WHERE WHAT IT READS IS OF BULK AT MOST 1048576: true; the input reads as it did. -/
def fnExactLivesOfUptoRow : OpenClaim := { program := "ytmohbiagcbfkpaa", sum := "52fb05d5bd29e27995f806de35f84b5e980309a4597c624e856e5359444fb2f6", func := "loop.example/g00463/laws.FnExactLivesOf", spec := "fnExactLivesOf", apart := false, narrowed := true }
def FnExactLivesOfUptoSaid : Prop := fnExactLivesOfUptoRow.holds Try.pinned (OpenSpec.upto fnExactLivesOfSpec)

/-- 'laws.FnExactStateNew', WHERE WHAT IT READS IS OF BULK AT MOST 1048576: true; the input reads as it did. -/
def fnExactStateNewUptoRow : OpenClaim := { program := "ytmohbiagcbfkpaa", sum := "52fb05d5bd29e27995f806de35f84b5e980309a4597c624e856e5359444fb2f6", func := "loop.example/g00463/laws.FnExactStateNew", spec := "fnExactStateNew", apart := false, narrowed := true }
def FnExactStateNewUptoSaid : Prop := fnExactStateNewUptoRow.holds Try.pinned (OpenSpec.upto fnExactStateNewSpec)

/-- 'laws.FnTurned', WHERE WHAT IT READS IS OF BULK AT MOST 1048576: true; the input reads as it did. -/
def fnTurnedUptoRow : OpenClaim := { program := "ytmohbiagcbfkpaa", sum := "52fb05d5bd29e27995f806de35f84b5e980309a4597c624e856e5359444fb2f6", func := "loop.example/g00463/laws.FnTurned", spec := "fnTurned", apart := false, narrowed := true }
def FnTurnedUptoSaid : Prop := fnTurnedUptoRow.holds Try.pinned (OpenSpec.upto fnTurnedSpec)

/-- 'laws.FnFiles', WHERE WHAT IT READS IS OF BULK AT MOST 1048576: true; the input reads as it did. -/
def fnFilesUptoRow : OpenClaim := { program := "ytmohbiagcbfkpaa", sum := "52fb05d5bd29e27995f806de35f84b5e980309a4597c624e856e5359444fb2f6", func := "loop.example/g00463/laws.FnFiles", spec := "fnFiles", apart := false, narrowed := true }
def FnFilesUptoSaid : Prop := fnFilesUptoRow.holds Try.pinned (OpenSpec.upto fnFilesSpec)

/-- 'laws.FnKnows', WHERE WHAT IT READS IS OF BULK AT MOST 1048576: true; the input reads as it did. -/
def fnKnowsUptoRow : OpenClaim := { program := "ytmohbiagcbfkpaa", sum := "52fb05d5bd29e27995f806de35f84b5e980309a4597c624e856e5359444fb2f6", func := "loop.example/g00463/laws.FnKnows", spec := "fnKnows", apart := false, narrowed := true }
def FnKnowsUptoSaid : Prop := fnKnowsUptoRow.holds Try.pinned (OpenSpec.upto fnKnowsSpec)

end Rows
end Go.Proofs.Ytmohbiagcbfkpaa
