/- The given statement of FnExactAppended, out of its pure statement and the printed walk: the law answers true at every input. No condition of its own. -/
import Derived.Test.YtfaiggdikdndnaaRows
import Derived.Test.YtfaiggdikdndnaaStFnExactAppended
import Derived.Test.YtfaiggdikdndnaaPureFnExactAppended
import Derived.WalkKit
import Derived.ProofKit
import Derived.OpenShut
import Derived.ShutString
import Derived.ChangeOld
import Derived.Below
import Derived.SizedLaws
namespace Go.Proofs.Ytfaiggdikdndnaa.fnExactAppended
open Go.ChangeShapes Go.WideShapes Go.ChangeAt Go.RowKit Go.Proofs.YtfaiggdikdndnaaW.PrintWords Go.Proofs.Ytfaiggdikdndnaa.Open Go.Proofs.Ytfaiggdikdndnaa.PFnExactAppended
open Go.ChangeMaps (open_string shut_string)
set_option linter.unusedVariables false
theorem own : ownKnob Try.prog.godebug = none := by kernel_rfl
theorem laidOut : laidOutB Try.prog = true := by kernel_rfl
set_option maxRecDepth 100000 in
theorem lifted (os : Os) (started : os.Started) (H : Type) (enc : TypeId × Value → H) :
    ReturnsInHanded {} Try.checked os 3 .any (Rows.fnExactAppendedSpec.pre6 enc Try.prog Try.f3 Rows.fnExactAppendedRow.domain false) (Rows.fnExactAppendedSpec.post enc Try.prog Try.f3 false true false false) := by
  refine returnsInHanded_of_change_sized (C := Try.checked) own started (by kernel_rfl) Try.func3
    (ChangeSpec.witness6 (enc := enc) (C := Try.checked) false ⟨#[], #[.agg #[.string ByteArray.empty, .int .i64 0], .string ByteArray.empty], []⟩ 8 (by kernel_rfl) (by kernel_rfl) (by kernel_rfl) (by kernel_rfl)) ?_
  intro W base args ds gs before hval0 hW hcnd hsz0 _
  have hval : ∀ (j : Nat) t v, Try.f3.params[j]? = some t → args[j]? = some v → Value.okWide Try.prog W .any base t v := hval0
  have hW' := hW
  obtain ⟨p, q, hA0, hV, rfl, hfz, hnd⟩ := hW
  have hA : DataW.TrodAll enc Try.prog W 0 (fun _ => true) true Try.f3.params.toList args.toList ds p := hA0
  rw [Try.params3] at hA hval
  obtain ⟨v0, vs0, d0, ds0, p0, q0, hargs, rfl, rfl, h0, r0⟩ := trodAll_cons hA
  obtain ⟨v1, vs1, d1, ds1, p1, q1, rfl, rfl, rfl, h1, r1⟩ := trodAll_cons r0
  obtain ⟨rfl, rfl, rfl⟩ := trodAll_nil r1
  obtain rfl : args = #[v0, v1] := by cases args; simp_all
  obtain ⟨rfl, rfl⟩ := trodVars_none hV
  have k0 := h0
  have lt0 : ∀ x ∈ p0, x.block < W.heap.size := by obtain ⟨m, hm⟩ := k0; exact DataW.trod_lt m _ _ _ hm
  obtain ⟨cs0, x0, rfl, K0, G0⟩ := op_arg Try.underlying23 (hval 0 23 v0 rfl rfl) h0 (op_struct Try.underlying23 (by kernel_rfl) (opf_cons 0 rfl rfl (by kernel_rfl) (op_string Try.underlying9) (opf_last 1 rfl rfl (by kernel_rfl) (op_int Try.underlying3))))
  obtain ⟨a0_0, a0_1⟩ := x0
  obtain ⟨_, _, E0_1, rfl, rfl⟩ := K0
  obtain ⟨w0_0, w0_1⟩ := G0
  obtain rfl : cs0 = #[.string a0_0, .int .i64 a0_1] := by cases cs0; simpa using E0_1
  have k1 := h1
  have lt1 : ∀ x ∈ p1, x.block < W.heap.size := by obtain ⟨m, hm⟩ := k1; exact DataW.trod_lt m _ _ _ hm
  obtain ⟨a1, rfl, _, _, w1⟩ := open_string Try.underlying9 (hval 1 9 v1 rfl rfl) h1
  have w1 : a1.size ≤ 9223372036854775807 := by simpa [maxLen] using w1
  have hk := Pure.FnExactAppended a0_0 a0_1 a1 w0_0 w0_1 w1
  refine (laws_FnExactAppended.calls a0_0 a0_1 a1 true W  hk).mono fun e W' ⟨he, bel⟩ => ?_
  subst he
  exact ⟨_, rfl, _, _, _, [], _, [], hW', trodAll_mk1 (shut_bool Try.underlying4 _), (trodAll_cons_mk (Below.trod laidOut (by kernel_rfl) (of_decide_eq_true (by kernel_rfl)) k0 bel lt0) (trodAll_cons_mk (Below.trod laidOut (by kernel_rfl) (of_decide_eq_true (by kernel_rfl)) k1 bel lt1) trodAll_mk0)), rfl, bel.frame _, fun h => by cases h⟩
theorem over : Rows.fnExactAppendedRow.holds Try.pinned (OpenSpec.ofChange Rows.fnExactAppendedSpec) :=
  OpenClaim.holds_of_wide 3 Try.f3 rfl rfl rfl rfl rfl rfl rfl ⟨rfl, rfl, rfl, rfl, rfl⟩ rfl rfl rfl rfl rfl (by kernel_rfl) Try.func3 (by kernel_rfl)
    (of_decide_eq_true (by kernel_rfl)) (by unfold Func.isWrapper; first | (rw [if_pos (by decide +kernel)]; kernel_rfl) | (rw [if_neg (by decide +kernel)]; exact ⟨rfl, rfl⟩))
    (fun os started H enc _ => lifted os started H enc)
theorem proved : Rows.FnExactAppendedSaid := over
#print axioms proved
end Go.Proofs.Ytfaiggdikdndnaa.fnExactAppended
namespace Go.Proofs.Ytfaiggdikdndnaa
/-- The row, under a short name, for the claim. -/
theorem fnExactAppended_holds : Rows.FnExactAppendedSaid := fnExactAppended.proved
end Go.Proofs.Ytfaiggdikdndnaa
