/-
  No cell of these rows narrows 'for every input' (looked for: loops, veiled, ifaces, maps, wideKeys, modest, calm, conditions, laid).
  DERIVED. THE GIVEN ROWS OF THIS SEAT. 12 by the template 'for every input the law returns true; each argument reads behind the call as it read before'; 0 by the template 'total and deterministic' (their statements: YtfaiggdikdndnaaTotals.lean).
  GIVEN WITH THE SEED: the statements are not yours to turn. If you find one false, say at which input.
  Laid BY PROGRAM, IN A SANDBOX (cutbox-rows.mjs): the forced cells as the released guide's own fill.sh prints them over the translation 4c470a2766125b8a… (all of the seat's roots in one cut). By AI agents, Wed Nov 11 2026. No macro, syntax, notation, axiom, sorry.
-/
import Derived.Test.YtfaiggdikdndnaaChecked
import GoSem.Claim
import GoSem.ClaimJoined
import GoSem.ClaimMapViews
import Derived.JoinedTies
import Derived.KernelRfl
namespace Go.Proofs.Ytfaiggdikdndnaa
/- THE CELL 'sum', in the pinned program and in every row, IS THE sha256 OF THE DUMP (.gsa) THAT YtfaiggdikdndnaaProg.lean LOADS. Nothing in Lean hashes anything: it is a label: what it is worth is what the hold of that sum in a sandbox is worth. -/
noncomputable def Try.pinned : Pinned := { name := "ytfaiggdikdndnaa", sum := "4c470a2766125b8aceeee6b599b2f76e676089f137bac14e55ff4d984a6aa1b0", checked := Try.checked }
namespace Rows
def none {H : Type} : Left H := { results := [], args := [] }

/-- 'laws.FnExactAppended': WHATEVER THE INPUT: true; the input reads as it did. -/
def fnExactAppendedSpec : ChangeSpec := { name := "fnExactAppended", fn := fun _ => fun
  | [d1, d2] => { results := [.lit (.bool true)], args := [d1, d2] }
  | _ => none }
def fnExactAppendedRow : OpenClaim := { program := "ytfaiggdikdndnaa", sum := "4c470a2766125b8aceeee6b599b2f76e676089f137bac14e55ff4d984a6aa1b0", func := "loop.example/g00463/laws.FnExactAppended", spec := "fnExactAppended", apart := false }
def FnExactAppendedSaid : Prop := fnExactAppendedRow.holds Try.pinned (OpenSpec.ofChange fnExactAppendedSpec)

/-- ITS FALSE NEIGHBOUR: 'it returns false'. Refute it at one input. -/
def fnExactAppendedWrong : ChangeSpec := { name := "fnExactAppended", fn := fun _ => fun
  | [d1, d2] => { results := [.lit (.bool false)], args := [d1, d2] }
  | _ => none }
def FnExactAppendedWrongFalsely : Prop := fnExactAppendedRow.holds Try.pinned (OpenSpec.ofChange fnExactAppendedWrong)

/-- 'laws.FnExactReadVar': WHATEVER THE INPUT: true; the input reads as it did. -/
def fnExactReadVarSpec : ChangeSpec := { name := "fnExactReadVar", fn := fun _ => fun
  | [d1, d2] => { results := [.lit (.bool true)], args := [d1, d2] }
  | _ => none }
def fnExactReadVarRow : OpenClaim := { program := "ytfaiggdikdndnaa", sum := "4c470a2766125b8aceeee6b599b2f76e676089f137bac14e55ff4d984a6aa1b0", func := "loop.example/g00463/laws.FnExactReadVar", spec := "fnExactReadVar", apart := false }
def FnExactReadVarSaid : Prop := fnExactReadVarRow.holds Try.pinned (OpenSpec.ofChange fnExactReadVarSpec)

/-- ITS FALSE NEIGHBOUR: 'it returns false'. Refute it at one input. -/
def fnExactReadVarWrong : ChangeSpec := { name := "fnExactReadVar", fn := fun _ => fun
  | [d1, d2] => { results := [.lit (.bool false)], args := [d1, d2] }
  | _ => none }
def FnExactReadVarWrongFalsely : Prop := fnExactReadVarRow.holds Try.pinned (OpenSpec.ofChange fnExactReadVarWrong)

/-- 'laws.FnExactKnows': WHATEVER THE INPUT: true; the input reads as it did. -/
def fnExactKnowsSpec : ChangeSpec := { name := "fnExactKnows", fn := fun _ => fun
  | [d1, d2] => { results := [.lit (.bool true)], args := [d1, d2] }
  | _ => none }
def fnExactKnowsRow : OpenClaim := { program := "ytfaiggdikdndnaa", sum := "4c470a2766125b8aceeee6b599b2f76e676089f137bac14e55ff4d984a6aa1b0", func := "loop.example/g00463/laws.FnExactKnows", spec := "fnExactKnows", apart := false }
def FnExactKnowsSaid : Prop := fnExactKnowsRow.holds Try.pinned (OpenSpec.ofChange fnExactKnowsSpec)

/-- ITS FALSE NEIGHBOUR: 'it returns false'. Refute it at one input. -/
def fnExactKnowsWrong : ChangeSpec := { name := "fnExactKnows", fn := fun _ => fun
  | [d1, d2] => { results := [.lit (.bool false)], args := [d1, d2] }
  | _ => none }
def FnExactKnowsWrongFalsely : Prop := fnExactKnowsRow.holds Try.pinned (OpenSpec.ofChange fnExactKnowsWrong)

/-- 'laws.FnExactCrashed': WHATEVER THE INPUT: true; the input reads as it did. -/
def fnExactCrashedSpec : ChangeSpec := { name := "fnExactCrashed", fn := fun _ => fun
  | [d1, d2] => { results := [.lit (.bool true)], args := [d1, d2] }
  | _ => none }
def fnExactCrashedRow : OpenClaim := { program := "ytfaiggdikdndnaa", sum := "4c470a2766125b8aceeee6b599b2f76e676089f137bac14e55ff4d984a6aa1b0", func := "loop.example/g00463/laws.FnExactCrashed", spec := "fnExactCrashed", apart := false }
def FnExactCrashedSaid : Prop := fnExactCrashedRow.holds Try.pinned (OpenSpec.ofChange fnExactCrashedSpec)

/-- ITS FALSE NEIGHBOUR: 'it returns false'. Refute it at one input. -/
def fnExactCrashedWrong : ChangeSpec := { name := "fnExactCrashed", fn := fun _ => fun
  | [d1, d2] => { results := [.lit (.bool false)], args := [d1, d2] }
  | _ => none }
def FnExactCrashedWrongFalsely : Prop := fnExactCrashedRow.holds Try.pinned (OpenSpec.ofChange fnExactCrashedWrong)

/-- 'laws.FnExactSealed': WHATEVER THE INPUT: true; the input reads as it did. -/
def fnExactSealedSpec : ChangeSpec := { name := "fnExactSealed", fn := fun _ => fun
  | [d] => { results := [.lit (.bool true)], args := [d] }
  | _ => none }
def fnExactSealedRow : OpenClaim := { program := "ytfaiggdikdndnaa", sum := "4c470a2766125b8aceeee6b599b2f76e676089f137bac14e55ff4d984a6aa1b0", func := "loop.example/g00463/laws.FnExactSealed", spec := "fnExactSealed", apart := false }
def FnExactSealedSaid : Prop := fnExactSealedRow.holds Try.pinned (OpenSpec.ofChange fnExactSealedSpec)

/-- ITS FALSE NEIGHBOUR: 'it returns false'. Refute it at one input. -/
def fnExactSealedWrong : ChangeSpec := { name := "fnExactSealed", fn := fun _ => fun
  | [d] => { results := [.lit (.bool false)], args := [d] }
  | _ => none }
def FnExactSealedWrongFalsely : Prop := fnExactSealedRow.holds Try.pinned (OpenSpec.ofChange fnExactSealedWrong)

/-- 'laws.FnExactKnowIn': WHATEVER THE INPUT: true; the input reads as it did. -/
def fnExactKnowInSpec : ChangeSpec := { name := "fnExactKnowIn", fn := fun _ => fun
  | [d1, d2] => { results := [.lit (.bool true)], args := [d1, d2] }
  | _ => none }
def fnExactKnowInRow : OpenClaim := { program := "ytfaiggdikdndnaa", sum := "4c470a2766125b8aceeee6b599b2f76e676089f137bac14e55ff4d984a6aa1b0", func := "loop.example/g00463/laws.FnExactKnowIn", spec := "fnExactKnowIn", apart := false }
def FnExactKnowInSaid : Prop := fnExactKnowInRow.holds Try.pinned (OpenSpec.ofChange fnExactKnowInSpec)

/-- ITS FALSE NEIGHBOUR: 'it returns false'. Refute it at one input. -/
def fnExactKnowInWrong : ChangeSpec := { name := "fnExactKnowIn", fn := fun _ => fun
  | [d1, d2] => { results := [.lit (.bool false)], args := [d1, d2] }
  | _ => none }
def FnExactKnowInWrongFalsely : Prop := fnExactKnowInRow.holds Try.pinned (OpenSpec.ofChange fnExactKnowInWrong)

/-- 'laws.FnExactReadShort': WHATEVER THE INPUT: true; the input reads as it did. -/
def fnExactReadShortSpec : ChangeSpec := { name := "fnExactReadShort", fn := fun _ => fun
  | [d1, d2] => { results := [.lit (.bool true)], args := [d1, d2] }
  | _ => none }
def fnExactReadShortRow : OpenClaim := { program := "ytfaiggdikdndnaa", sum := "4c470a2766125b8aceeee6b599b2f76e676089f137bac14e55ff4d984a6aa1b0", func := "loop.example/g00463/laws.FnExactReadShort", spec := "fnExactReadShort", apart := false }
def FnExactReadShortSaid : Prop := fnExactReadShortRow.holds Try.pinned (OpenSpec.ofChange fnExactReadShortSpec)

/-- ITS FALSE NEIGHBOUR: 'it returns false'. Refute it at one input. -/
def fnExactReadShortWrong : ChangeSpec := { name := "fnExactReadShort", fn := fun _ => fun
  | [d1, d2] => { results := [.lit (.bool false)], args := [d1, d2] }
  | _ => none }
def FnExactReadShortWrongFalsely : Prop := fnExactReadShortRow.holds Try.pinned (OpenSpec.ofChange fnExactReadShortWrong)

/-- 'laws.FnExactUnsealed': WHATEVER THE INPUT: true; the input reads as it did. -/
def fnExactUnsealedSpec : ChangeSpec := { name := "fnExactUnsealed", fn := fun _ => fun
  | [d] => { results := [.lit (.bool true)], args := [d] }
  | _ => none }
def fnExactUnsealedRow : OpenClaim := { program := "ytfaiggdikdndnaa", sum := "4c470a2766125b8aceeee6b599b2f76e676089f137bac14e55ff4d984a6aa1b0", func := "loop.example/g00463/laws.FnExactUnsealed", spec := "fnExactUnsealed", apart := false }
def FnExactUnsealedSaid : Prop := fnExactUnsealedRow.holds Try.pinned (OpenSpec.ofChange fnExactUnsealedSpec)

/-- ITS FALSE NEIGHBOUR: 'it returns false'. Refute it at one input. -/
def fnExactUnsealedWrong : ChangeSpec := { name := "fnExactUnsealed", fn := fun _ => fun
  | [d] => { results := [.lit (.bool false)], args := [d] }
  | _ => none }
def FnExactUnsealedWrongFalsely : Prop := fnExactUnsealedRow.holds Try.pinned (OpenSpec.ofChange fnExactUnsealedWrong)

/-- 'laws.FnExactKnowMax': WHATEVER THE INPUT: true; the input reads as it did. -/
def fnExactKnowMaxSpec : ChangeSpec := { name := "fnExactKnowMax", fn := fun _ => fun
  | [d1, d2] => { results := [.lit (.bool true)], args := [d1, d2] }
  | _ => none }
def fnExactKnowMaxRow : OpenClaim := { program := "ytfaiggdikdndnaa", sum := "4c470a2766125b8aceeee6b599b2f76e676089f137bac14e55ff4d984a6aa1b0", func := "loop.example/g00463/laws.FnExactKnowMax", spec := "fnExactKnowMax", apart := false }
def FnExactKnowMaxSaid : Prop := fnExactKnowMaxRow.holds Try.pinned (OpenSpec.ofChange fnExactKnowMaxSpec)

/-- ITS FALSE NEIGHBOUR: 'it returns false'. Refute it at one input. -/
def fnExactKnowMaxWrong : ChangeSpec := { name := "fnExactKnowMax", fn := fun _ => fun
  | [d1, d2] => { results := [.lit (.bool false)], args := [d1, d2] }
  | _ => none }
def FnExactKnowMaxWrongFalsely : Prop := fnExactKnowMaxRow.holds Try.pinned (OpenSpec.ofChange fnExactKnowMaxWrong)

/-- 'laws.FnExactKnowMin': WHATEVER THE INPUT: true; the input reads as it did. -/
def fnExactKnowMinSpec : ChangeSpec := { name := "fnExactKnowMin", fn := fun _ => fun
  | [d1, d2] => { results := [.lit (.bool true)], args := [d1, d2] }
  | _ => none }
def fnExactKnowMinRow : OpenClaim := { program := "ytfaiggdikdndnaa", sum := "4c470a2766125b8aceeee6b599b2f76e676089f137bac14e55ff4d984a6aa1b0", func := "loop.example/g00463/laws.FnExactKnowMin", spec := "fnExactKnowMin", apart := false }
def FnExactKnowMinSaid : Prop := fnExactKnowMinRow.holds Try.pinned (OpenSpec.ofChange fnExactKnowMinSpec)

/-- ITS FALSE NEIGHBOUR: 'it returns false'. Refute it at one input. -/
def fnExactKnowMinWrong : ChangeSpec := { name := "fnExactKnowMin", fn := fun _ => fun
  | [d1, d2] => { results := [.lit (.bool false)], args := [d1, d2] }
  | _ => none }
def FnExactKnowMinWrongFalsely : Prop := fnExactKnowMinRow.holds Try.pinned (OpenSpec.ofChange fnExactKnowMinWrong)

/-- 'laws.FnExactLater': WHATEVER THE INPUT: true; the input reads as it did. -/
def fnExactLaterSpec : ChangeSpec := { name := "fnExactLater", fn := fun _ => fun
  | [d1, d2] => { results := [.lit (.bool true)], args := [d1, d2] }
  | _ => none }
def fnExactLaterRow : OpenClaim := { program := "ytfaiggdikdndnaa", sum := "4c470a2766125b8aceeee6b599b2f76e676089f137bac14e55ff4d984a6aa1b0", func := "loop.example/g00463/laws.FnExactLater", spec := "fnExactLater", apart := false }
def FnExactLaterSaid : Prop := fnExactLaterRow.holds Try.pinned (OpenSpec.ofChange fnExactLaterSpec)

/-- ITS FALSE NEIGHBOUR: 'it returns false'. Refute it at one input. -/
def fnExactLaterWrong : ChangeSpec := { name := "fnExactLater", fn := fun _ => fun
  | [d1, d2] => { results := [.lit (.bool false)], args := [d1, d2] }
  | _ => none }
def FnExactLaterWrongFalsely : Prop := fnExactLaterRow.holds Try.pinned (OpenSpec.ofChange fnExactLaterWrong)

/-- 'laws.FnExactDotsIn': WHATEVER THE INPUT: true; the input reads as it did. -/
def fnExactDotsInSpec : ChangeSpec := { name := "fnExactDotsIn", fn := fun _ => fun
  | [d1, d2] => { results := [.lit (.bool true)], args := [d1, d2] }
  | _ => none }
def fnExactDotsInRow : OpenClaim := { program := "ytfaiggdikdndnaa", sum := "4c470a2766125b8aceeee6b599b2f76e676089f137bac14e55ff4d984a6aa1b0", func := "loop.example/g00463/laws.FnExactDotsIn", spec := "fnExactDotsIn", apart := false }
def FnExactDotsInSaid : Prop := fnExactDotsInRow.holds Try.pinned (OpenSpec.ofChange fnExactDotsInSpec)

/-- ITS FALSE NEIGHBOUR: 'it returns false'. Refute it at one input. -/
def fnExactDotsInWrong : ChangeSpec := { name := "fnExactDotsIn", fn := fun _ => fun
  | [d1, d2] => { results := [.lit (.bool false)], args := [d1, d2] }
  | _ => none }
def FnExactDotsInWrongFalsely : Prop := fnExactDotsInRow.holds Try.pinned (OpenSpec.ofChange fnExactDotsInWrong)

/- THE SECOND FORM. 'bulk': how many values and letters a reading holds, each counted each time it is reached (what is shared counts as often as it is met; a slice's spare places count too). A statement '..UptoSaid' is the law's where the arguments, and the package variables that the reading takes, are together of bulk at most 1048576: NARROWER than '..Said'. Prove '..Said' where nothing that the law and all that it calls make is longer than what came in: it says more and counts as full. Else prove '..UptoSaid'. A law counts once. -/
mutual
def uptoBulk {H : Type} : DataW H → Nat
  | .lit (.string bytes) => bytes.length + 1
  | .lit _ => 1
  | .nil => 1
  | .ptr d => uptoBulk d + 1
  | .slice elems spare => uptoBulkAll elems + uptoBulkAll spare + 1
  | .agg parts => uptoBulkAll parts + 1
  | .iface _ d => uptoBulk d + 1
  | .map entries => uptoBulkEntries entries + 1
  | .held _ => 1
def uptoBulkAll {H : Type} : List (DataW H) → Nat
  | [] => 0
  | d :: r => uptoBulk d + uptoBulkAll r
def uptoBulkEntries {H : Type} : List (Lit × DataW H) → Nat
  | [] => 0
  | x :: r => uptoBulkEntry x + uptoBulkEntries r
def uptoBulkEntry {H : Type} : Lit × DataW H → Nat
  | (.string bytes, d) => bytes.length + uptoBulk d + 1
  | (_, d) => uptoBulk d + 1
 end
def uptoSmall : (H : Type) → List (DataW H) → Bool := fun _ ds => decide (uptoBulkAll ds ≤ 1048576)
def OpenSpec.upto (s : _root_.Go.ChangeSpec) : _root_.Go.OpenSpec := { _root_.Go.OpenSpec.ofChange s with cond := some uptoSmall }

/-- 'laws.FnExactAppended', WHERE WHAT IT READS IS OF BULK AT MOST 1048576: true; the input reads as it did. -/
def fnExactAppendedUptoRow : OpenClaim := { program := "ytfaiggdikdndnaa", sum := "4c470a2766125b8aceeee6b599b2f76e676089f137bac14e55ff4d984a6aa1b0", func := "loop.example/g00463/laws.FnExactAppended", spec := "fnExactAppended", apart := false, narrowed := true }
def FnExactAppendedUptoSaid : Prop := fnExactAppendedUptoRow.holds Try.pinned (OpenSpec.upto fnExactAppendedSpec)

/-- 'laws.FnExactReadVar', WHERE WHAT IT READS IS OF BULK AT MOST 1048576: true; the input reads as it did. -/
def fnExactReadVarUptoRow : OpenClaim := { program := "ytfaiggdikdndnaa", sum := "4c470a2766125b8aceeee6b599b2f76e676089f137bac14e55ff4d984a6aa1b0", func := "loop.example/g00463/laws.FnExactReadVar", spec := "fnExactReadVar", apart := false, narrowed := true }
def FnExactReadVarUptoSaid : Prop := fnExactReadVarUptoRow.holds Try.pinned (OpenSpec.upto fnExactReadVarSpec)

/-- 'laws.FnExactKnows', WHERE WHAT IT READS IS OF BULK AT MOST 1048576: true; the input reads as it did. -/
def fnExactKnowsUptoRow : OpenClaim := { program := "ytfaiggdikdndnaa", sum := "4c470a2766125b8aceeee6b599b2f76e676089f137bac14e55ff4d984a6aa1b0", func := "loop.example/g00463/laws.FnExactKnows", spec := "fnExactKnows", apart := false, narrowed := true }
def FnExactKnowsUptoSaid : Prop := fnExactKnowsUptoRow.holds Try.pinned (OpenSpec.upto fnExactKnowsSpec)

/-- 'laws.FnExactCrashed', WHERE WHAT IT READS IS OF BULK AT MOST 1048576: true; the input reads as it did. -/
def fnExactCrashedUptoRow : OpenClaim := { program := "ytfaiggdikdndnaa", sum := "4c470a2766125b8aceeee6b599b2f76e676089f137bac14e55ff4d984a6aa1b0", func := "loop.example/g00463/laws.FnExactCrashed", spec := "fnExactCrashed", apart := false, narrowed := true }
def FnExactCrashedUptoSaid : Prop := fnExactCrashedUptoRow.holds Try.pinned (OpenSpec.upto fnExactCrashedSpec)

/-- 'laws.FnExactSealed', WHERE WHAT IT READS IS OF BULK AT MOST 1048576: true; the input reads as it did. -/
def fnExactSealedUptoRow : OpenClaim := { program := "ytfaiggdikdndnaa", sum := "4c470a2766125b8aceeee6b599b2f76e676089f137bac14e55ff4d984a6aa1b0", func := "loop.example/g00463/laws.FnExactSealed", spec := "fnExactSealed", apart := false, narrowed := true }
def FnExactSealedUptoSaid : Prop := fnExactSealedUptoRow.holds Try.pinned (OpenSpec.upto fnExactSealedSpec)

/-- 'laws.FnExactKnowIn', WHERE WHAT IT READS IS OF BULK AT MOST 1048576: true; the input reads as it did. -/
def fnExactKnowInUptoRow : OpenClaim := { program := "ytfaiggdikdndnaa", sum := "4c470a2766125b8aceeee6b599b2f76e676089f137bac14e55ff4d984a6aa1b0", func := "loop.example/g00463/laws.FnExactKnowIn", spec := "fnExactKnowIn", apart := false, narrowed := true }
def FnExactKnowInUptoSaid : Prop := fnExactKnowInUptoRow.holds Try.pinned (OpenSpec.upto fnExactKnowInSpec)

/-- 'laws.FnExactReadShort', WHERE WHAT IT READS IS OF BULK AT MOST 1048576: true; the input reads as it did. -/
def fnExactReadShortUptoRow : OpenClaim := { program := "ytfaiggdikdndnaa", sum := "4c470a2766125b8aceeee6b599b2f76e676089f137bac14e55ff4d984a6aa1b0", func := "loop.example/g00463/laws.FnExactReadShort", spec := "fnExactReadShort", apart := false, narrowed := true }
def FnExactReadShortUptoSaid : Prop := fnExactReadShortUptoRow.holds Try.pinned (OpenSpec.upto fnExactReadShortSpec)

/-- 'laws.FnExactUnsealed', WHERE WHAT IT READS IS OF BULK AT MOST 1048576: true; the input reads as it did. -/
def fnExactUnsealedUptoRow : OpenClaim := { program := "ytfaiggdikdndnaa", sum := "4c470a2766125b8aceeee6b599b2f76e676089f137bac14e55ff4d984a6aa1b0", func := "loop.example/g00463/laws.FnExactUnsealed", spec := "fnExactUnsealed", apart := false, narrowed := true }
def FnExactUnsealedUptoSaid : Prop := fnExactUnsealedUptoRow.holds Try.pinned (OpenSpec.upto fnExactUnsealedSpec)

/-- 'laws.FnExactKnowMax', WHERE WHAT IT READS IS OF BULK AT MOST 1048576: true; the input reads as it did. -/
def fnExactKnowMaxUptoRow : OpenClaim := { program := "ytfaiggdikdndnaa", sum := "4c470a2766125b8aceeee6b599b2f76e676089f137bac14e55ff4d984a6aa1b0", func := "loop.example/g00463/laws.FnExactKnowMax", spec := "fnExactKnowMax", apart := false, narrowed := true }
def FnExactKnowMaxUptoSaid : Prop := fnExactKnowMaxUptoRow.holds Try.pinned (OpenSpec.upto fnExactKnowMaxSpec)

/-- 'laws.FnExactKnowMin', WHERE WHAT IT READS IS OF BULK AT MOST 1048576: true; the input reads as it did. -/
def fnExactKnowMinUptoRow : OpenClaim := { program := "ytfaiggdikdndnaa", sum := "4c470a2766125b8aceeee6b599b2f76e676089f137bac14e55ff4d984a6aa1b0", func := "loop.example/g00463/laws.FnExactKnowMin", spec := "fnExactKnowMin", apart := false, narrowed := true }
def FnExactKnowMinUptoSaid : Prop := fnExactKnowMinUptoRow.holds Try.pinned (OpenSpec.upto fnExactKnowMinSpec)

/-- 'laws.FnExactLater', WHERE WHAT IT READS IS OF BULK AT MOST 1048576: true; the input reads as it did. -/
def fnExactLaterUptoRow : OpenClaim := { program := "ytfaiggdikdndnaa", sum := "4c470a2766125b8aceeee6b599b2f76e676089f137bac14e55ff4d984a6aa1b0", func := "loop.example/g00463/laws.FnExactLater", spec := "fnExactLater", apart := false, narrowed := true }
def FnExactLaterUptoSaid : Prop := fnExactLaterUptoRow.holds Try.pinned (OpenSpec.upto fnExactLaterSpec)

/-- 'laws.FnExactDotsIn', WHERE WHAT IT READS IS OF BULK AT MOST 1048576: true; the input reads as it did. -/
def fnExactDotsInUptoRow : OpenClaim := { program := "ytfaiggdikdndnaa", sum := "4c470a2766125b8aceeee6b599b2f76e676089f137bac14e55ff4d984a6aa1b0", func := "loop.example/g00463/laws.FnExactDotsIn", spec := "fnExactDotsIn", apart := false, narrowed := true }
def FnExactDotsInUptoSaid : Prop := fnExactDotsInUptoRow.holds Try.pinned (OpenSpec.upto fnExactDotsInSpec)

end Rows
end Go.Proofs.Ytfaiggdikdndnaa
