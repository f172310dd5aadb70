/- The given statement of FnExactSettled, out of its pure statement and the printed walk: the law answers true at every input. No condition of its own. -/
import Derived.Test.YtbanogkoaplcdaaRows
import Derived.Test.YtbanogkoaplcdaaVFnExactSettledM51
import Derived.ProofKit
import Derived.OpenShut
import Derived.ShutString
import Derived.ChangeOld
import Derived.SizedLaws
namespace Go.Proofs.Ytbanogkoaplcdaa.fnExactSettled
open Go.ChangeShapes Go.WideShapes Go.ChangeAt Go.RowKit Go.Proofs.YtbanogkoaplcdaaW.PrintWords Go.Proofs.Ytbanogkoaplcdaa.Open Go.Proofs.Ytbanogkoaplcdaa.QSe
open Go.ChangeMaps (open_string shut_string)
set_option linter.unusedVariables false
theorem own : ownKnob Try.prog.godebug = none := by kernel_rfl
theorem laidOut : laidOutB Try.prog = true := by kernel_rfl
theorem op29 : Open.Op Try.prog 29 k29 G29 :=
  op_iso (fun y => ⟨y.1, y.2⟩) (fun _ => rfl) (op_struct Try.underlying29 (by kernel_rfl) (opf_cons 0 rfl rfl (by kernel_rfl) (op_int Try.underlying3) (opf_last 1 rfl rfl (by kernel_rfl) (op_int Try.underlying3))))
theorem op46 : Open.Op Try.prog 46 k46 G46 :=
  op_iso (fun y => ⟨y.1, y.2.1, y.2.2.1, y.2.2.2.1, y.2.2.2.2.1, y.2.2.2.2.2.1, y.2.2.2.2.2.2.1, y.2.2.2.2.2.2.2⟩) (fun _ => rfl) (op_struct Try.underlying46 (by kernel_rfl) (opf_cons 0 rfl rfl (by kernel_rfl) op29 (opf_cons 1 rfl rfl (by kernel_rfl) (op_int Try.underlying3) (opf_cons 2 rfl rfl (by kernel_rfl) (op_slice Try.underlying22 (by kernel_rfl) (op_int Try.underlying3)) (opf_cons 3 rfl rfl (by kernel_rfl) (op_int Try.underlying3) (opf_cons 4 rfl rfl (by kernel_rfl) (op_string Try.underlying9) (opf_cons 5 rfl rfl (by kernel_rfl) (op_string Try.underlying9) (opf_cons 6 rfl rfl (by kernel_rfl) (op_int Try.underlying3) (opf_last 7 rfl rfl (by kernel_rfl) op29)))))))))
set_option maxRecDepth 100000 in
theorem lifted (os : Os) (started : os.Started) (H : Type) (enc : TypeId × Value → H) :
    ReturnsInHanded {} Try.checked os 7 .any (Rows.fnExactSettledSpec.pre6 enc Try.prog Try.f7 Rows.fnExactSettledRow.domain false) (Rows.fnExactSettledSpec.post enc Try.prog Try.f7 false true false false) := by
  refine returnsInHanded_of_change_sized (C := Try.checked) own started (by kernel_rfl) Try.func7
    (ChangeSpec.witness6 (enc := enc) (C := Try.checked) false ⟨#[], #[.slice none 0 0], []⟩ 8 (by kernel_rfl) (by kernel_rfl) (by kernel_rfl) (by kernel_rfl)) ?_
  intro W base args ds gs before hval0 hW hcnd hsz0 _
  have hval : ∀ (j : Nat) t v, Try.f7.params[j]? = some t → args[j]? = some v → Value.okWide Try.prog W .any base t v := hval0
  have hW' := hW
  obtain ⟨p, q, hA0, hV, rfl, hfz, hnd⟩ := hW
  have hA : DataW.TrodAll enc Try.prog W 0 (fun _ => true) true Try.f7.params.toList args.toList ds p := hA0
  rw [Try.params7] at hA hval
  obtain ⟨v0, vs0, d0, ds0, p0, q0, hargs, rfl, rfl, h0, r0⟩ := trodAll_cons hA
  obtain ⟨rfl, rfl, rfl⟩ := trodAll_nil r0
  obtain rfl : args = #[v0] := by cases args; simp_all
  obtain ⟨rfl, rfl⟩ := trodVars_none hV
  have k0 := h0
  have lt0 : ∀ x ∈ p0, x.block < W.heap.size := by obtain ⟨m, hm⟩ := k0; exact DataW.trod_lt m _ _ _ hm
  obtain ⟨z0, len0, cap0, rfl⟩ := okWide_slice Try.underlying57 (hval 0 57 v0 rfl rfl)
  obtain ⟨l0, ⟨A0, c0, e0, hc0, hr0⟩, w0⟩ : ∃ xx, (Kd.slice 46 k46).K W xx [.slice z0 len0 cap0] ∧ (xx.length ≤ 9223372036854775807 ∧ ∀ x ∈ xx, G46 x) := by obtain ⟨fu, hf⟩ := h0; exact (op_slice Try.underlying57 (by kernel_rfl) op46) H enc W fu _ _ (by simpa [Value.cells] using hf)
  simp only [List.cons.injEq, Value.slice.injEq, and_true] at e0
  obtain ⟨rfl, rfl, rfl⟩ := e0
  obtain ⟨k, hk⟩ := Pure.FnExactSettled l0 w0
  refine (laws_FnExactSettled.calls_true k _ _ l0 W hr0 hc0 hk).mono fun e W' ⟨he, bel⟩ => ?_
  subst he
  exact ⟨_, rfl, _, _, _, [], _, [], hW', trodAll_mk1 (shut_bool Try.underlying4 _), (trodAll_cons_mk (Below.trod laidOut (by kernel_rfl) (of_decide_eq_true (by kernel_rfl)) k0 bel lt0) trodAll_mk0), rfl, bel.frame _, fun h => by cases h⟩
theorem over : Rows.fnExactSettledRow.holds Try.pinned (OpenSpec.ofChange Rows.fnExactSettledSpec) :=
  OpenClaim.holds_of_wide 7 Try.f7 rfl rfl rfl rfl rfl rfl rfl ⟨rfl, rfl, rfl, rfl, rfl⟩ rfl rfl rfl rfl rfl (by kernel_rfl) Try.func7 (by kernel_rfl)
    (of_decide_eq_true (by kernel_rfl)) (by unfold Func.isWrapper; first | (rw [if_pos (by decide +kernel)]; kernel_rfl) | (rw [if_neg (by decide +kernel)]; exact ⟨rfl, rfl⟩))
    (fun os started H enc _ => lifted os started H enc)
theorem proved : Rows.FnExactSettledSaid := over
#print axioms proved
end Go.Proofs.Ytbanogkoaplcdaa.fnExactSettled
namespace Go.Proofs.Ytbanogkoaplcdaa
theorem fnExactSettled_holds : Rows.FnExactSettledSaid := fnExactSettled.proved
end Go.Proofs.Ytbanogkoaplcdaa
