/-
  No cell of these rows narrows 'for every input' (looked for: loops, veiled, ifaces, maps, wideKeys, modest, calm, conditions, laid).
  DERIVED. THE GIVEN ROWS OF THIS SEAT. 6 by the template 'for every input the law returns true; each argument reads behind the call as it read before'; 0 by the template 'total and deterministic' (their statements: YtbanogkoaplcdaaTotals.lean).
  GIVEN WITH THE SEED: the statements are not yours to turn. If you find one false, say at which input.
  Laid BY PROGRAM, IN A SANDBOX (cutbox-rows.mjs): the forced cells as the released guide's own fill.sh prints them over the translation e4a9e3ffad86863f… (all of the seat's roots in one cut). By AI agents, Wed Nov 11 2026. No macro, syntax, notation, axiom, sorry.
-/
import Derived.Test.YtbanogkoaplcdaaChecked
import GoSem.Claim
import GoSem.ClaimJoined
import GoSem.ClaimMapViews
import Derived.JoinedTies
import Derived.KernelRfl
namespace Go.Proofs.Ytbanogkoaplcdaa
/- THE CELL 'sum', in the pinned program and in every row, IS THE sha256 OF THE DUMP (.gsa) THAT YtbanogkoaplcdaaProg.lean LOADS. Nothing in Lean hashes anything: it is a label: what it is worth is what the hold of that sum in a sandbox is worth. -/
noncomputable def Try.pinned : Pinned := { name := "ytbanogkoaplcdaa", sum := "e4a9e3ffad86863f71ea114c04f391b980a1ebe263cb7feda66766ae590512b5", checked := Try.checked }
namespace Rows
def none {H : Type} : Left H := { results := [], args := [] }

/-- 'laws.FnExactCellAt': WHATEVER THE INPUT: true; the input reads as it did. -/
def fnExactCellAtSpec : ChangeSpec := { name := "fnExactCellAt", fn := fun _ => fun
  | [d1, d2] => { results := [.lit (.bool true)], args := [d1, d2] }
  | _ => none }
def fnExactCellAtRow : OpenClaim := { program := "ytbanogkoaplcdaa", sum := "e4a9e3ffad86863f71ea114c04f391b980a1ebe263cb7feda66766ae590512b5", func := "loop.example/g00463/laws.FnExactCellAt", spec := "fnExactCellAt", unfollowed := true, recurses := true, plainKeys := false, apart := false }
def FnExactCellAtSaid : Prop := fnExactCellAtRow.holds Try.pinned (OpenSpec.ofChange fnExactCellAtSpec)

/-- ITS FALSE NEIGHBOUR: 'it returns false'. Refute it at one input. -/
def fnExactCellAtWrong : ChangeSpec := { name := "fnExactCellAt", fn := fun _ => fun
  | [d1, d2] => { results := [.lit (.bool false)], args := [d1, d2] }
  | _ => none }
def FnExactCellAtWrongFalsely : Prop := fnExactCellAtRow.holds Try.pinned (OpenSpec.ofChange fnExactCellAtWrong)

/-- 'laws.FnExactSameState': WHATEVER THE INPUT: true; the input reads as it did. -/
def fnExactSameStateSpec : ChangeSpec := { name := "fnExactSameState", fn := fun _ => fun
  | [d1, d2] => { results := [.lit (.bool true)], args := [d1, d2] }
  | _ => none }
def fnExactSameStateRow : OpenClaim := { program := "ytbanogkoaplcdaa", sum := "e4a9e3ffad86863f71ea114c04f391b980a1ebe263cb7feda66766ae590512b5", func := "loop.example/g00463/laws.FnExactSameState", spec := "fnExactSameState", plainKeys := false, apart := false }
def FnExactSameStateSaid : Prop := fnExactSameStateRow.holds Try.pinned (OpenSpec.ofChange fnExactSameStateSpec)

/-- ITS FALSE NEIGHBOUR: 'it returns false'. Refute it at one input. -/
def fnExactSameStateWrong : ChangeSpec := { name := "fnExactSameState", fn := fun _ => fun
  | [d1, d2] => { results := [.lit (.bool false)], args := [d1, d2] }
  | _ => none }
def FnExactSameStateWrongFalsely : Prop := fnExactSameStateRow.holds Try.pinned (OpenSpec.ofChange fnExactSameStateWrong)

/-- 'laws.FnExactStateOk': WHATEVER THE INPUT: true; the input reads as it did. -/
def fnExactStateOkSpec : ChangeSpec := { name := "fnExactStateOk", fn := fun _ => fun
  | [d] => { results := [.lit (.bool true)], args := [d] }
  | _ => none }
def fnExactStateOkRow : OpenClaim := { program := "ytbanogkoaplcdaa", sum := "e4a9e3ffad86863f71ea114c04f391b980a1ebe263cb7feda66766ae590512b5", func := "loop.example/g00463/laws.FnExactStateOk", spec := "fnExactStateOk", plainKeys := false, apart := false }
def FnExactStateOkSaid : Prop := fnExactStateOkRow.holds Try.pinned (OpenSpec.ofChange fnExactStateOkSpec)

/-- ITS FALSE NEIGHBOUR: 'it returns false'. Refute it at one input. -/
def fnExactStateOkWrong : ChangeSpec := { name := "fnExactStateOk", fn := fun _ => fun
  | [d] => { results := [.lit (.bool false)], args := [d] }
  | _ => none }
def FnExactStateOkWrongFalsely : Prop := fnExactStateOkRow.holds Try.pinned (OpenSpec.ofChange fnExactStateOkWrong)

/-- 'laws.FnExactDoAct': WHATEVER THE INPUT: true; the input reads as it did. -/
def fnExactDoActSpec : ChangeSpec := { name := "fnExactDoAct", fn := fun _ => fun
  | [d1, d2] => { results := [.lit (.bool true)], args := [d1, d2] }
  | _ => none }
def fnExactDoActRow : OpenClaim := { program := "ytbanogkoaplcdaa", sum := "e4a9e3ffad86863f71ea114c04f391b980a1ebe263cb7feda66766ae590512b5", func := "loop.example/g00463/laws.FnExactDoAct", spec := "fnExactDoAct", unfollowed := true, recurses := true, plainKeys := false, apart := false }
def FnExactDoActSaid : Prop := fnExactDoActRow.holds Try.pinned (OpenSpec.ofChange fnExactDoActSpec)

/-- ITS FALSE NEIGHBOUR: 'it returns false'. Refute it at one input. -/
def fnExactDoActWrong : ChangeSpec := { name := "fnExactDoAct", fn := fun _ => fun
  | [d1, d2] => { results := [.lit (.bool false)], args := [d1, d2] }
  | _ => none }
def FnExactDoActWrongFalsely : Prop := fnExactDoActRow.holds Try.pinned (OpenSpec.ofChange fnExactDoActWrong)

/-- 'laws.FnExactSettled': WHATEVER THE INPUT: true; the input reads as it did. -/
def fnExactSettledSpec : ChangeSpec := { name := "fnExactSettled", fn := fun _ => fun
  | [d] => { results := [.lit (.bool true)], args := [d] }
  | _ => none }
def fnExactSettledRow : OpenClaim := { program := "ytbanogkoaplcdaa", sum := "e4a9e3ffad86863f71ea114c04f391b980a1ebe263cb7feda66766ae590512b5", func := "loop.example/g00463/laws.FnExactSettled", spec := "fnExactSettled", unfollowed := true, recurses := true, plainKeys := false, apart := false }
def FnExactSettledSaid : Prop := fnExactSettledRow.holds Try.pinned (OpenSpec.ofChange fnExactSettledSpec)

/-- ITS FALSE NEIGHBOUR: 'it returns false'. Refute it at one input. -/
def fnExactSettledWrong : ChangeSpec := { name := "fnExactSettled", fn := fun _ => fun
  | [d] => { results := [.lit (.bool false)], args := [d] }
  | _ => none }
def FnExactSettledWrongFalsely : Prop := fnExactSettledRow.holds Try.pinned (OpenSpec.ofChange fnExactSettledWrong)

/-- 'laws.FnExactMapOf': WHATEVER THE INPUT: true; the input reads as it did. -/
def fnExactMapOfSpec : ChangeSpec := { name := "fnExactMapOf", fn := fun _ => fun
  | [d1, d2, d3] => { results := [.lit (.bool true)], args := [d1, d2, d3] }
  | _ => none }
def fnExactMapOfRow : OpenClaim := { program := "ytbanogkoaplcdaa", sum := "e4a9e3ffad86863f71ea114c04f391b980a1ebe263cb7feda66766ae590512b5", func := "loop.example/g00463/laws.FnExactMapOf", spec := "fnExactMapOf", recurses := true, plainKeys := false, apart := false }
def FnExactMapOfSaid : Prop := fnExactMapOfRow.holds Try.pinned (OpenSpec.ofChange fnExactMapOfSpec)

/-- ITS FALSE NEIGHBOUR: 'it returns false'. Refute it at one input. -/
def fnExactMapOfWrong : ChangeSpec := { name := "fnExactMapOf", fn := fun _ => fun
  | [d1, d2, d3] => { results := [.lit (.bool false)], args := [d1, d2, d3] }
  | _ => none }
def FnExactMapOfWrongFalsely : Prop := fnExactMapOfRow.holds Try.pinned (OpenSpec.ofChange fnExactMapOfWrong)

/- THE SECOND FORM. 'bulk': how many values and letters a reading holds, each counted each time it is reached (what is shared counts as often as it is met; a slice's spare places count too). A statement '..UptoSaid' is the law's where the arguments, and the package variables that the reading takes, are together of bulk at most 1048576: NARROWER than '..Said'. Prove '..Said' where nothing that the law and all that it calls make is longer than what came in: it says more and counts as full. Else prove '..UptoSaid'. A law counts once. -/
mutual
def uptoBulk {H : Type} : DataW H → Nat
  | .lit (.string bytes) => bytes.length + 1
  | .lit _ => 1
  | .nil => 1
  | .ptr d => uptoBulk d + 1
  | .slice elems spare => uptoBulkAll elems + uptoBulkAll spare + 1
  | .agg parts => uptoBulkAll parts + 1
  | .iface _ d => uptoBulk d + 1
  | .map entries => uptoBulkEntries entries + 1
  | .held _ => 1
def uptoBulkAll {H : Type} : List (DataW H) → Nat
  | [] => 0
  | d :: r => uptoBulk d + uptoBulkAll r
def uptoBulkEntries {H : Type} : List (Lit × DataW H) → Nat
  | [] => 0
  | x :: r => uptoBulkEntry x + uptoBulkEntries r
def uptoBulkEntry {H : Type} : Lit × DataW H → Nat
  | (.string bytes, d) => bytes.length + uptoBulk d + 1
  | (_, d) => uptoBulk d + 1
 end
def uptoSmall : (H : Type) → List (DataW H) → Bool := fun _ ds => decide (uptoBulkAll ds ≤ 1048576)
def OpenSpec.upto (s : _root_.Go.ChangeSpec) : _root_.Go.OpenSpec := { _root_.Go.OpenSpec.ofChange s with cond := some uptoSmall }

/-- 'laws.FnExactCellAt', WHERE WHAT IT READS IS OF BULK AT MOST 1048576: true; the input reads as it did. -/
def fnExactCellAtUptoRow : OpenClaim := { program := "ytbanogkoaplcdaa", sum := "e4a9e3ffad86863f71ea114c04f391b980a1ebe263cb7feda66766ae590512b5", func := "loop.example/g00463/laws.FnExactCellAt", spec := "fnExactCellAt", unfollowed := true, recurses := true, plainKeys := false, apart := false, narrowed := true }
def FnExactCellAtUptoSaid : Prop := fnExactCellAtUptoRow.holds Try.pinned (OpenSpec.upto fnExactCellAtSpec)

/-- 'laws.FnExactSameState', WHERE WHAT IT READS IS OF BULK AT MOST 1048576: true; the input reads as it did. -/
def fnExactSameStateUptoRow : OpenClaim := { program := "ytbanogkoaplcdaa", sum := "e4a9e3ffad86863f71ea114c04f391b980a1ebe263cb7feda66766ae590512b5", func := "loop.example/g00463/laws.FnExactSameState", spec := "fnExactSameState", plainKeys := false, apart := false, narrowed := true }
def FnExactSameStateUptoSaid : Prop := fnExactSameStateUptoRow.holds Try.pinned (OpenSpec.upto fnExactSameStateSpec)

/-- 'laws.FnExactStateOk', WHERE WHAT IT READS IS OF BULK AT MOST 1048576: true; the input reads as it did. -/
def fnExactStateOkUptoRow : OpenClaim := { program := "ytbanogkoaplcdaa", sum := "e4a9e3ffad86863f71ea114c04f391b980a1ebe263cb7feda66766ae590512b5", func := "loop.example/g00463/laws.FnExactStateOk", spec := "fnExactStateOk", plainKeys := false, apart := false, narrowed := true }
def FnExactStateOkUptoSaid : Prop := fnExactStateOkUptoRow.holds Try.pinned (OpenSpec.upto fnExactStateOkSpec)

/-- 'laws.FnExactDoAct', WHERE WHAT IT READS IS OF BULK AT MOST 1048576: true; the input reads as it did. -/
def fnExactDoActUptoRow : OpenClaim := { program := "ytbanogkoaplcdaa", sum := "e4a9e3ffad86863f71ea114c04f391b980a1ebe263cb7feda66766ae590512b5", func := "loop.example/g00463/laws.FnExactDoAct", spec := "fnExactDoAct", unfollowed := true, recurses := true, plainKeys := false, apart := false, narrowed := true }
def FnExactDoActUptoSaid : Prop := fnExactDoActUptoRow.holds Try.pinned (OpenSpec.upto fnExactDoActSpec)

/-- 'laws.FnExactSettled', WHERE WHAT IT READS IS OF BULK AT MOST 1048576: true; the input reads as it did. -/
def fnExactSettledUptoRow : OpenClaim := { program := "ytbanogkoaplcdaa", sum := "e4a9e3ffad86863f71ea114c04f391b980a1ebe263cb7feda66766ae590512b5", func := "loop.example/g00463/laws.FnExactSettled", spec := "fnExactSettled", unfollowed := true, recurses := true, plainKeys := false, apart := false, narrowed := true }
def FnExactSettledUptoSaid : Prop := fnExactSettledUptoRow.holds Try.pinned (OpenSpec.upto fnExactSettledSpec)

/-- 'laws.FnExactMapOf', WHERE WHAT IT READS IS OF BULK AT MOST 1048576: true; the input reads as it did. -/
def fnExactMapOfUptoRow : OpenClaim := { program := "ytbanogkoaplcdaa", sum := "e4a9e3ffad86863f71ea114c04f391b980a1ebe263cb7feda66766ae590512b5", func := "loop.example/g00463/laws.FnExactMapOf", spec := "fnExactMapOf", recurses := true, plainKeys := false, apart := false, narrowed := true }
def FnExactMapOfUptoSaid : Prop := fnExactMapOfUptoRow.holds Try.pinned (OpenSpec.upto fnExactMapOfSpec)

end Rows
end Go.Proofs.Ytbanogkoaplcdaa
