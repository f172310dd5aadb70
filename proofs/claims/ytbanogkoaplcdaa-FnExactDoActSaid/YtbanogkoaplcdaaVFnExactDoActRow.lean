/- The given statement of FnExactDoAct, out of its pure statement and the printed walk: the law answers true at every input. No condition of its own. -/
import Derived.Test.YtbanogkoaplcdaaRows
import Derived.Test.YtbanogkoaplcdaaVFnExactDoActM51
import Derived.ProofKit
import Derived.OpenShut
import Derived.ShutString
import Derived.ChangeOld
import Derived.SizedLaws
namespace Go.Proofs.Ytbanogkoaplcdaa.fnExactDoAct
open Go.ChangeShapes Go.WideShapes Go.ChangeAt Go.RowKit Go.Proofs.YtbanogkoaplcdaaW.PrintWords Go.Proofs.Ytbanogkoaplcdaa.Open Go.Proofs.Ytbanogkoaplcdaa.QDo
open Go.ChangeMaps (open_string shut_string)
set_option linter.unusedVariables false
theorem own : ownKnob Try.prog.godebug = none := by kernel_rfl
theorem laidOut : laidOutB Try.prog = true := by kernel_rfl
theorem op112 : Open.Op Try.prog 112 k112 G112 :=
 op_iso (fun y => ⟨y.1, y.2.1, y.2.2⟩) (fun _ => rfl) (op_struct Try.underlying112 (by kernel_rfl) (opf_cons 0 rfl rfl (by kernel_rfl) (op_string Try.underlying9) (opf_cons 1 rfl rfl (by kernel_rfl) (op_int Try.underlying3) (opf_last 2 rfl rfl (by kernel_rfl) (op_int Try.underlying3)))))
theorem op29 : Open.Op Try.prog 29 k29 G29 :=
 op_iso (fun y => ⟨y.1, y.2⟩) (fun _ => rfl) (op_struct Try.underlying29 (by kernel_rfl) (opf_cons 0 rfl rfl (by kernel_rfl) (op_int Try.underlying3) (opf_last 1 rfl rfl (by kernel_rfl) (op_int Try.underlying3))))
theorem op115 : Open.Op Try.prog 115 k115 G115 :=
 op_iso (fun y => ⟨y.1, y.2.1, y.2.2.1, y.2.2.2.1, y.2.2.2.2⟩) (fun _ => rfl) (op_struct Try.underlying115 (by kernel_rfl) (opf_cons 0 rfl rfl (by kernel_rfl) (op_bool Try.underlying4) (opf_cons 1 rfl rfl (by kernel_rfl) (op_string Try.underlying9) (opf_cons 2 rfl rfl (by kernel_rfl) (op_string Try.underlying9) (opf_cons 3 rfl rfl (by kernel_rfl) (op_int Try.underlying3) (opf_last 4 rfl rfl (by kernel_rfl) op29))))))
theorem op118 : Open.Op Try.prog 118 k118 G118 :=
 op_iso (fun y => ⟨y.1, y.2.1, y.2.2.1, y.2.2.2.1, y.2.2.2.2.1, y.2.2.2.2.2⟩) (fun _ => rfl) (op_struct Try.underlying118 (by kernel_rfl) (opf_cons 0 rfl rfl (by kernel_rfl) (op_string Try.underlying9) (opf_cons 1 rfl rfl (by kernel_rfl) op29 (opf_cons 2 rfl rfl (by kernel_rfl) (op_int Try.underlying3) (opf_cons 3 rfl rfl (by kernel_rfl) op29 (opf_cons 4 rfl rfl (by kernel_rfl) (op_int Try.underlying3) (opf_last 5 rfl rfl (by kernel_rfl) (op_bool Try.underlying4))))))))
set_option maxRecDepth 100000 in
theorem lifted (os : Os) (started : os.Started) (H : Type) (enc : TypeId × Value → H) :
  ReturnsInHanded {} Try.checked os 6 .any (Rows.fnExactDoActSpec.pre6 enc Try.prog Try.f6 Rows.fnExactDoActRow.domain false) (Rows.fnExactDoActSpec.post enc Try.prog Try.f6 false true false false) := by
 refine returnsInHanded_of_change_sized (C := Try.checked) own started (by kernel_rfl) Try.func6
  (ChangeSpec.witness6 (enc := enc) (C := Try.checked) false ⟨#[], #[.agg #[.slice none 0 0, .slice none 0 0, .slice none 0 0, .slice none 0 0], .agg #[.int .i64 0, .int .i64 0, .int .i64 0, .slice none 0 0, .int .i64 0, .string ByteArray.empty, .string ByteArray.empty, .int .i64 0, .int .i64 0, .int .i64 0]], []⟩ 8 (by kernel_rfl) (by kernel_rfl) (by kernel_rfl) (by kernel_rfl)) ?_
 intro W base args ds gs before hval0 hW hcnd hsz0 _
 have hval : ∀ (j : Nat) t v, Try.f6.params[j]? = some t → args[j]? = some v → Value.okWide Try.prog W .any base t v := hval0
 have hW' := hW
 obtain ⟨p, q, hA0, hV, rfl, hfz, hnd⟩ := hW
 have hA : DataW.TrodAll enc Try.prog W 0 (fun _ => true) true Try.f6.params.toList args.toList ds p := hA0
 rw [Try.params6] at hA hval
 obtain ⟨v0, vs0, d0, ds0, p0, q0, hargs, rfl, rfl, h0, r0⟩ := trodAll_cons hA
 obtain ⟨v1, vs1, d1, ds1, p1, q1, rfl, rfl, rfl, h1, r1⟩ := trodAll_cons r0
 obtain ⟨rfl, rfl, rfl⟩ := trodAll_nil r1
 obtain rfl : args = #[v0, v1] := by cases args; simp_all
 obtain ⟨rfl, rfl⟩ := trodVars_none hV
 have k0 := h0
 have lt0 : ∀ x ∈ p0, x.block < W.heap.size := by obtain ⟨m, hm⟩ := k0; exact DataW.trod_lt m _ _ _ hm
 obtain ⟨cs0, x0, rfl, K0, G0⟩ := op_arg Try.underlying27 (hval 0 27 v0 rfl rfl) h0 (op_struct Try.underlying27 (by kernel_rfl) (opf_cons 0 rfl rfl (by kernel_rfl) (op_slice Try.underlying22 (by kernel_rfl) (op_int Try.underlying3)) (opf_cons 1 rfl rfl (by kernel_rfl) (op_slice Try.underlying23 (by kernel_rfl) op112) (opf_cons 2 rfl rfl (by kernel_rfl) (op_slice Try.underlying24 (by kernel_rfl) op115) (opf_last 3 rfl rfl (by kernel_rfl) (op_slice Try.underlying25 (by kernel_rfl) op118))))))
 obtain ⟨l0_0, ⟨l0_1, ⟨l0_2, l0_3⟩⟩⟩ := x0
 obtain ⟨_, _, E0_1, ⟨A0_0, c0_0, rfl, hc0_0, hr0_0⟩, ⟨_, _, rfl, ⟨A0_1, c0_1, rfl, hc0_1, hr0_1⟩, ⟨_, _, rfl, ⟨A0_2, c0_2, rfl, hc0_2, hr0_2⟩, ⟨A0_3, c0_3, rfl, hc0_3, hr0_3⟩⟩⟩⟩ := K0
 obtain ⟨w0_0, ⟨w0_1, ⟨w0_2, w0_3⟩⟩⟩ := G0
 obtain rfl : cs0 = #[.slice A0_0 l0_0.length c0_0, .slice A0_1 l0_1.length c0_1, .slice A0_2 l0_2.length c0_2, .slice A0_3 l0_3.length c0_3] := by cases cs0; simpa using E0_1
 have k1 := h1
 have lt1 : ∀ x ∈ p1, x.block < W.heap.size := by obtain ⟨m, hm⟩ := k1; exact DataW.trod_lt m _ _ _ hm
 obtain ⟨cs1, x1, rfl, K1, G1⟩ := op_arg Try.underlying46 (hval 1 46 v1 rfl rfl) h1 (op_struct Try.underlying46 (by kernel_rfl) (opf_cons 0 rfl rfl (by kernel_rfl) (op_struct Try.underlying29 (by kernel_rfl) (opf_cons 0 rfl rfl (by kernel_rfl) (op_int Try.underlying3) (opf_last 1 rfl rfl (by kernel_rfl) (op_int Try.underlying3)))) (opf_cons 1 rfl rfl (by kernel_rfl) (op_int Try.underlying3) (opf_cons 2 rfl rfl (by kernel_rfl) (op_slice Try.underlying22 (by kernel_rfl) (op_int Try.underlying3)) (opf_cons 3 rfl rfl (by kernel_rfl) (op_int Try.underlying3) (opf_cons 4 rfl rfl (by kernel_rfl) (op_string Try.underlying9) (opf_cons 5 rfl rfl (by kernel_rfl) (op_string Try.underlying9) (opf_cons 6 rfl rfl (by kernel_rfl) (op_int Try.underlying3) (opf_last 7 rfl rfl (by kernel_rfl) (op_struct Try.underlying29 (by kernel_rfl) (opf_cons 0 rfl rfl (by kernel_rfl) (op_int Try.underlying3) (opf_last 1 rfl rfl (by kernel_rfl) (op_int Try.underlying3)))))))))))))
 obtain ⟨⟨a1_0, a1_1⟩, ⟨a1_2, ⟨l1_3, ⟨a1_4, ⟨a1_5, ⟨a1_6, ⟨a1_7, ⟨a1_8, a1_9⟩⟩⟩⟩⟩⟩⟩⟩ := x1
 obtain ⟨_, _, E1_1, ⟨_, _, rfl, rfl, rfl⟩, ⟨_, _, rfl, rfl, ⟨_, _, rfl, ⟨A1_3, c1_3, rfl, hc1_3, hr1_3⟩, ⟨_, _, rfl, rfl, ⟨_, _, rfl, rfl, ⟨_, _, rfl, rfl, ⟨_, _, rfl, rfl, ⟨_, _, rfl, rfl, rfl⟩⟩⟩⟩⟩⟩⟩⟩ := K1
 obtain ⟨⟨w1_0, w1_1⟩, ⟨w1_2, ⟨w1_3, ⟨w1_4, ⟨w1_5, ⟨w1_6, ⟨w1_7, ⟨w1_8, w1_9⟩⟩⟩⟩⟩⟩⟩⟩ := G1
 obtain rfl : cs1 = #[.int .i64 a1_0, .int .i64 a1_1, .int .i64 a1_2, .slice A1_3 l1_3.length c1_3, .int .i64 a1_4, .string a1_5, .string a1_6, .int .i64 a1_7, .int .i64 a1_8, .int .i64 a1_9] := by cases cs1; simpa using E1_1
 obtain ⟨k, hk⟩ := Pure.FnExactDoAct l0_0 l0_1 l0_2 l0_3 a1_0 a1_1 a1_2 l1_3 a1_4 a1_5 a1_6 a1_7 a1_8 a1_9 w0_0 w0_1 w0_2 w0_3 w1_0 w1_1 w1_2 w1_3 w1_4 w1_5 w1_6 w1_7 w1_8 w1_9
 refine (laws_FnExactDoAct.calls_true k _ _ l0_0 _ _ l0_1 _ _ l0_2 _ _ l0_3 a1_0 a1_1 a1_2 _ _ l1_3 a1_4 a1_5 a1_6 a1_7 a1_8 a1_9 W hr0_0 hc0_0 hr0_1 hc0_1 hr0_2 hc0_2 hr0_3 hc0_3 hr1_3 hc1_3 hk).mono fun e W' ⟨he, bel⟩ => ?_
 subst he
 exact ⟨_, rfl, _, _, _, [], _, [], hW', trodAll_mk1 (shut_bool Try.underlying4 _), (trodAll_cons_mk (Below.trod laidOut (by kernel_rfl) (of_decide_eq_true (by kernel_rfl)) k0 bel lt0) (trodAll_cons_mk (Below.trod laidOut (by kernel_rfl) (of_decide_eq_true (by kernel_rfl)) k1 bel lt1) trodAll_mk0)), rfl, bel.frame _, fun h => by cases h⟩
theorem over : Rows.fnExactDoActRow.holds Try.pinned (OpenSpec.ofChange Rows.fnExactDoActSpec) :=
 OpenClaim.holds_of_wide 6 Try.f6 rfl rfl rfl rfl rfl rfl rfl ⟨rfl, rfl, rfl, rfl, rfl⟩ rfl rfl rfl rfl rfl (by kernel_rfl) Try.func6 (by kernel_rfl)
  (of_decide_eq_true (by kernel_rfl)) (by unfold Func.isWrapper; first | (rw [if_pos (by decide +kernel)]; kernel_rfl) | (rw [if_neg (by decide +kernel)]; exact ⟨rfl, rfl⟩))
  (fun os started H enc _ => lifted os started H enc)
theorem proved : Rows.FnExactDoActSaid := over
#print axioms proved
end Go.Proofs.Ytbanogkoaplcdaa.fnExactDoAct
namespace Go.Proofs.Ytbanogkoaplcdaa
theorem fnExactDoAct_holds : Rows.FnExactDoActSaid := fnExactDoAct.proved
end Go.Proofs.Ytbanogkoaplcdaa
