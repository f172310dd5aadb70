/- The given statement of FnExactActText, out of its pure statement and the printed walk: the law answers true at every input. No condition of its own. -/
import Derived.Test.YtmohbiagcbfkpaaRows
import Derived.Test.YtmohbiagcbfkpaaVFnExactActTextSt
import Derived.Test.YtmohbiagcbfkpaaVFnExactActTextPure
import Derived.WalkKit
import Derived.ProofKit
import Derived.OpenShut
import Derived.ShutString
import Derived.ChangeOld
import Derived.Below
import Derived.SizedLaws
namespace Go.Proofs.Ytmohbiagcbfkpaa.fnExactActText
open Go.ChangeShapes Go.WideShapes Go.ChangeAt Go.RowKit Go.Proofs.YtmohbiagcbfkpaaW.PrintWords Go.Proofs.Ytmohbiagcbfkpaa.Open Go.Proofs.Ytmohbiagcbfkpaa.QAct
open Go.ChangeMaps (open_string shut_string)
set_option linter.unusedVariables false
theorem own : ownKnob Try.prog.godebug = none := by kernel_rfl
theorem laidOut : laidOutB Try.prog = true := by kernel_rfl
set_option maxRecDepth 100000 in
theorem lifted (os : Os) (started : os.Started) (H : Type) (enc : TypeId × Value → H) :
    ReturnsInHanded {} Try.checked os 5 .any (Rows.fnExactActTextSpec.pre6 enc Try.prog Try.f5 Rows.fnExactActTextRow.domain false) (Rows.fnExactActTextSpec.post enc Try.prog Try.f5 false true false false) := by
  refine returnsInHanded_of_change_sized (C := Try.checked) own started (by kernel_rfl) Try.func5
    (ChangeSpec.witness6 (enc := enc) (C := Try.checked) false ⟨#[], #[.agg #[.int .i64 0, .int .i64 0, .int .i64 0, .slice none 0 0, .int .i64 0, .string ByteArray.empty, .string ByteArray.empty, .int .i64 0, .int .i64 0, .int .i64 0]], []⟩ 8 (by kernel_rfl) (by kernel_rfl) (by kernel_rfl) (by kernel_rfl)) ?_
  intro W base args ds gs before hval0 hW hcnd hsz0 _
  have hval : ∀ (j : Nat) t v, Try.f5.params[j]? = some t → args[j]? = some v → Value.okWide Try.prog W .any base t v := hval0
  have hW' := hW
  obtain ⟨p, q, hA0, hV, rfl, hfz, hnd⟩ := hW
  have hA : DataW.TrodAll enc Try.prog W 0 (fun _ => true) true Try.f5.params.toList args.toList ds p := hA0
  rw [Try.params5] at hA hval
  obtain ⟨v0, vs0, d0, ds0, p0, q0, hargs, rfl, rfl, h0, r0⟩ := trodAll_cons hA
  obtain ⟨rfl, rfl, rfl⟩ := trodAll_nil r0
  obtain rfl : args = #[v0] := by cases args; simp_all
  obtain ⟨rfl, rfl⟩ := trodVars_none hV
  have k0 := h0
  have lt0 : ∀ x ∈ p0, x.block < W.heap.size := by obtain ⟨m, hm⟩ := k0; exact DataW.trod_lt m _ _ _ hm
  obtain ⟨cs0, x0, rfl, K0, G0⟩ := op_arg Try.underlying26 (hval 0 26 v0 rfl rfl) h0 (op_struct Try.underlying26 (by kernel_rfl) (opf_cons 0 rfl rfl (by kernel_rfl) (op_struct Try.underlying23 (by kernel_rfl) (opf_cons 0 rfl rfl (by kernel_rfl) (op_int Try.underlying3) (opf_last 1 rfl rfl (by kernel_rfl) (op_int Try.underlying3)))) (opf_cons 1 rfl rfl (by kernel_rfl) (op_int Try.underlying3) (opf_cons 2 rfl rfl (by kernel_rfl) (op_slice Try.underlying24 (by kernel_rfl) (op_int Try.underlying3)) (opf_cons 3 rfl rfl (by kernel_rfl) (op_int Try.underlying3) (opf_cons 4 rfl rfl (by kernel_rfl) (op_string Try.underlying9) (opf_cons 5 rfl rfl (by kernel_rfl) (op_string Try.underlying9) (opf_cons 6 rfl rfl (by kernel_rfl) (op_int Try.underlying3) (opf_last 7 rfl rfl (by kernel_rfl) (op_struct Try.underlying23 (by kernel_rfl) (opf_cons 0 rfl rfl (by kernel_rfl) (op_int Try.underlying3) (opf_last 1 rfl rfl (by kernel_rfl) (op_int Try.underlying3)))))))))))))
  obtain ⟨⟨a0_0, a0_1⟩, ⟨a0_2, ⟨l0_3, ⟨a0_4, ⟨a0_5, ⟨a0_6, ⟨a0_7, ⟨a0_8, a0_9⟩⟩⟩⟩⟩⟩⟩⟩ := x0
  obtain ⟨_, _, E0_1, ⟨_, _, rfl, rfl, rfl⟩, ⟨_, _, rfl, rfl, ⟨_, _, rfl, ⟨A0_3, c0_3, rfl, hc0_3, hr0_3⟩, ⟨_, _, rfl, rfl, ⟨_, _, rfl, rfl, ⟨_, _, rfl, rfl, ⟨_, _, rfl, rfl, ⟨_, _, rfl, rfl, rfl⟩⟩⟩⟩⟩⟩⟩⟩ := K0
  obtain ⟨⟨w0_0, w0_1⟩, ⟨w0_2, ⟨w0_3, ⟨w0_4, ⟨w0_5, ⟨w0_6, ⟨w0_7, ⟨w0_8, w0_9⟩⟩⟩⟩⟩⟩⟩⟩ := G0
  obtain rfl : cs0 = #[.int .i64 a0_0, .int .i64 a0_1, .int .i64 a0_2, .slice A0_3 l0_3.length c0_3, .int .i64 a0_4, .string a0_5, .string a0_6, .int .i64 a0_7, .int .i64 a0_8, .int .i64 a0_9] := by cases cs0; simpa using E0_1
  obtain ⟨k, hk⟩ := Pure.FnExactActText a0_0 a0_1 a0_2 l0_3 a0_4 a0_5 a0_6 a0_7 a0_8 a0_9 w0_0 w0_1 w0_2 w0_3 w0_4 w0_5 w0_6 w0_7 w0_8 w0_9
  refine (laws_FnExactActText.calls_true k a0_0 a0_1 a0_2 _ _ l0_3 a0_4 a0_5 a0_6 a0_7 a0_8 a0_9 W hr0_3 hc0_3 hk).mono fun e W' ⟨he, bel⟩ => ?_
  subst he
  exact ⟨_, rfl, _, _, _, [], _, [], hW', trodAll_mk1 (shut_bool Try.underlying4 _), (trodAll_cons_mk (Below.trod laidOut (by kernel_rfl) (of_decide_eq_true (by kernel_rfl)) k0 bel lt0) trodAll_mk0), rfl, bel.frame _, fun h => by cases h⟩
theorem over : Rows.fnExactActTextRow.holds Try.pinned (OpenSpec.ofChange Rows.fnExactActTextSpec) :=
  OpenClaim.holds_of_wide 5 Try.f5 rfl rfl rfl rfl rfl rfl rfl ⟨rfl, rfl, rfl, rfl, rfl⟩ rfl rfl rfl rfl rfl (by kernel_rfl) Try.func5 (by kernel_rfl)
    (of_decide_eq_true (by kernel_rfl)) (by unfold Func.isWrapper; first | (rw [if_pos (by decide +kernel)]; kernel_rfl) | (rw [if_neg (by decide +kernel)]; exact ⟨rfl, rfl⟩))
    (fun os started H enc _ => lifted os started H enc)
theorem proved : Rows.FnExactActTextSaid := over
#print axioms proved
end Go.Proofs.Ytmohbiagcbfkpaa.fnExactActText
namespace Go.Proofs.Ytmohbiagcbfkpaa
theorem fnExactActText_holds : Rows.FnExactActTextSaid := fnExactActText.proved
end Go.Proofs.Ytmohbiagcbfkpaa
