/- The given statement of FnExactDoAll, out of its pure statement and the printed walk: the law answers true at every input. No condition of its own. -/
import Derived.Test.YtbanogkoaplcdaaGreatRows
import Derived.Test.YtbanogkoaplcdaaGreatVFnExactDoAllM53
import Derived.ProofKit
import Derived.OpenShut
import Derived.ShutString
import Derived.ChangeOld
import Derived.SizedLaws
namespace Go.Proofs.YtbanogkoaplcdaaGreat.fnExactDoAll
open Go.ChangeShapes Go.WideShapes Go.ChangeAt Go.RowKit Go.Proofs.YtbanogkoaplcdaaGreatW.PrintWords Go.Proofs.YtbanogkoaplcdaaGreat.Open Go.Proofs.YtbanogkoaplcdaaGreat.QDa
open Go.ChangeMaps (open_string shut_string)
set_option linter.unusedVariables false
theorem own : ownKnob Tryz.prog.godebug = none := by kernel_rfl
theorem laidOut : laidOutB Tryz.prog = true := by kernel_rfl
theorem op77 : Open.Op Tryz.prog 77 k77 G77 :=
  op_iso (fun y => ⟨y.1, y.2.1, y.2.2⟩) (fun _ => rfl) (op_struct Tryz.underlying77 (by kernel_rfl) (opf_cons 0 rfl rfl (by kernel_rfl) (op_string Tryz.underlying9) (opf_cons 1 rfl rfl (by kernel_rfl) (op_int Tryz.underlying3) (opf_last 2 rfl rfl (by kernel_rfl) (op_int Tryz.underlying3)))))
theorem op53 : Open.Op Tryz.prog 53 k53 G53 :=
  op_iso (fun y => ⟨y.1, y.2⟩) (fun _ => rfl) (op_struct Tryz.underlying53 (by kernel_rfl) (opf_cons 0 rfl rfl (by kernel_rfl) (op_int Tryz.underlying3) (opf_last 1 rfl rfl (by kernel_rfl) (op_int Tryz.underlying3))))
theorem op80 : Open.Op Tryz.prog 80 k80 G80 :=
  op_iso (fun y => ⟨y.1, y.2.1, y.2.2.1, y.2.2.2.1, y.2.2.2.2⟩) (fun _ => rfl) (op_struct Tryz.underlying80 (by kernel_rfl) (opf_cons 0 rfl rfl (by kernel_rfl) (op_bool Tryz.underlying4) (opf_cons 1 rfl rfl (by kernel_rfl) (op_string Tryz.underlying9) (opf_cons 2 rfl rfl (by kernel_rfl) (op_string Tryz.underlying9) (opf_cons 3 rfl rfl (by kernel_rfl) (op_int Tryz.underlying3) (opf_last 4 rfl rfl (by kernel_rfl) op53))))))
theorem op83 : Open.Op Tryz.prog 83 k83 G83 :=
  op_iso (fun y => ⟨y.1, y.2.1, y.2.2.1, y.2.2.2.1, y.2.2.2.2.1, y.2.2.2.2.2⟩) (fun _ => rfl) (op_struct Tryz.underlying83 (by kernel_rfl) (opf_cons 0 rfl rfl (by kernel_rfl) (op_string Tryz.underlying9) (opf_cons 1 rfl rfl (by kernel_rfl) op53 (opf_cons 2 rfl rfl (by kernel_rfl) (op_int Tryz.underlying3) (opf_cons 3 rfl rfl (by kernel_rfl) op53 (opf_cons 4 rfl rfl (by kernel_rfl) (op_int Tryz.underlying3) (opf_last 5 rfl rfl (by kernel_rfl) (op_bool Tryz.underlying4))))))))
theorem op55 : Open.Op Tryz.prog 55 k55 G55 :=
  op_iso (fun y => ⟨y.1, y.2.1, y.2.2.1, y.2.2.2.1, y.2.2.2.2.1, y.2.2.2.2.2.1, y.2.2.2.2.2.2.1, y.2.2.2.2.2.2.2⟩) (fun _ => rfl) (op_struct Tryz.underlying55 (by kernel_rfl) (opf_cons 0 rfl rfl (by kernel_rfl) op53 (opf_cons 1 rfl rfl (by kernel_rfl) (op_int Tryz.underlying3) (opf_cons 2 rfl rfl (by kernel_rfl) (op_slice Tryz.underlying22 (by kernel_rfl) (op_int Tryz.underlying3)) (opf_cons 3 rfl rfl (by kernel_rfl) (op_int Tryz.underlying3) (opf_cons 4 rfl rfl (by kernel_rfl) (op_string Tryz.underlying9) (opf_cons 5 rfl rfl (by kernel_rfl) (op_string Tryz.underlying9) (opf_cons 6 rfl rfl (by kernel_rfl) (op_int Tryz.underlying3) (opf_last 7 rfl rfl (by kernel_rfl) op53)))))))))
set_option maxRecDepth 100000 in
theorem lifted (os : Os) (started : os.Started) (H : Type) (enc : TypeId × Value → H) :
    ReturnsInHanded {} Tryz.checked os 3 .any (Rows.fnExactDoAllSpec.pre6 enc Tryz.prog Tryz.f3 Rows.fnExactDoAllRow.domain false) (Rows.fnExactDoAllSpec.post enc Tryz.prog Tryz.f3 false true false false) := by
  refine returnsInHanded_of_change_sized (C := Tryz.checked) own started (by kernel_rfl) Tryz.func3
    (ChangeSpec.witness6 (enc := enc) (C := Tryz.checked) false ⟨#[], #[.agg #[.slice none 0 0, .slice none 0 0, .slice none 0 0, .slice none 0 0], .slice none 0 0], []⟩ 8 (by kernel_rfl) (by kernel_rfl) (by kernel_rfl) (by kernel_rfl)) ?_
  intro W base args ds gs before hval0 hW hcnd hsz0 _
  have hval : ∀ (j : Nat) t v, Tryz.f3.params[j]? = some t → args[j]? = some v → Value.okWide Tryz.prog W .any base t v := hval0
  have hW' := hW
  obtain ⟨p, q, hA0, hV, rfl, hfz, hnd⟩ := hW
  have hA : DataW.TrodAll enc Tryz.prog W 0 (fun _ => true) true Tryz.f3.params.toList args.toList ds p := hA0
  rw [Tryz.params3] at hA hval
  obtain ⟨v0, vs0, d0, ds0, p0, q0, hargs, rfl, rfl, h0, r0⟩ := trodAll_cons hA
  obtain ⟨v1, vs1, d1, ds1, p1, q1, rfl, rfl, rfl, h1, r1⟩ := trodAll_cons r0
  obtain ⟨rfl, rfl, rfl⟩ := trodAll_nil r1
  obtain rfl : args = #[v0, v1] := by cases args; simp_all
  obtain ⟨rfl, rfl⟩ := trodVars_none hV
  have k0 := h0
  have lt0 : ∀ x ∈ p0, x.block < W.heap.size := by obtain ⟨m, hm⟩ := k0; exact DataW.trod_lt m _ _ _ hm
  obtain ⟨cs0, x0, rfl, K0, G0⟩ := op_arg Tryz.underlying27 (hval 0 27 v0 rfl rfl) h0 (op_struct Tryz.underlying27 (by kernel_rfl) (opf_cons 0 rfl rfl (by kernel_rfl) (op_slice Tryz.underlying22 (by kernel_rfl) (op_int Tryz.underlying3)) (opf_cons 1 rfl rfl (by kernel_rfl) (op_slice Tryz.underlying23 (by kernel_rfl) op77) (opf_cons 2 rfl rfl (by kernel_rfl) (op_slice Tryz.underlying24 (by kernel_rfl) op80) (opf_last 3 rfl rfl (by kernel_rfl) (op_slice Tryz.underlying25 (by kernel_rfl) op83))))))
  obtain ⟨l0_0, ⟨l0_1, ⟨l0_2, l0_3⟩⟩⟩ := x0
  obtain ⟨_, _, E0_1, ⟨A0_0, c0_0, rfl, hc0_0, hr0_0⟩, ⟨_, _, rfl, ⟨A0_1, c0_1, rfl, hc0_1, hr0_1⟩, ⟨_, _, rfl, ⟨A0_2, c0_2, rfl, hc0_2, hr0_2⟩, ⟨A0_3, c0_3, rfl, hc0_3, hr0_3⟩⟩⟩⟩ := K0
  obtain ⟨w0_0, ⟨w0_1, ⟨w0_2, w0_3⟩⟩⟩ := G0
  obtain rfl : cs0 = #[.slice A0_0 l0_0.length c0_0, .slice A0_1 l0_1.length c0_1, .slice A0_2 l0_2.length c0_2, .slice A0_3 l0_3.length c0_3] := by cases cs0; simpa using E0_1
  have k1 := h1
  have lt1 : ∀ x ∈ p1, x.block < W.heap.size := by obtain ⟨m, hm⟩ := k1; exact DataW.trod_lt m _ _ _ hm
  obtain ⟨z1, len1, cap1, rfl⟩ := okWide_slice Tryz.underlying28 (hval 1 28 v1 rfl rfl)
  obtain ⟨l1, ⟨A1, c1, e1, hc1, hr1⟩, w1⟩ : ∃ xx, (Kd.slice 55 k55).K W xx [.slice z1 len1 cap1] ∧ (xx.length ≤ 9223372036854775807 ∧ ∀ x ∈ xx, G55 x) := by obtain ⟨fu, hf⟩ := h1; exact (op_slice Tryz.underlying28 (by kernel_rfl) op55) H enc W fu _ _ (by simpa [Value.cells] using hf)
  simp only [List.cons.injEq, Value.slice.injEq, and_true] at e1
  obtain ⟨rfl, rfl, rfl⟩ := e1
  obtain ⟨k, hk⟩ := Pure.FnExactDoAll l0_0 l0_1 l0_2 l0_3 l1 w0_0 w0_1 w0_2 w0_3 w1
  refine (laws_FnExactDoAll.calls_true k _ _ l0_0 _ _ l0_1 _ _ l0_2 _ _ l0_3 _ _ l1 W hr0_0 hc0_0 hr0_1 hc0_1 hr0_2 hc0_2 hr0_3 hc0_3 hr1 hc1 hk).mono fun e W' ⟨he, bel⟩ => ?_
  subst he
  exact ⟨_, rfl, _, _, _, [], _, [], hW', trodAll_mk1 (shut_bool Tryz.underlying4 _), (trodAll_cons_mk (Below.trod laidOut (by kernel_rfl) (of_decide_eq_true (by kernel_rfl)) k0 bel lt0) (trodAll_cons_mk (Below.trod laidOut (by kernel_rfl) (of_decide_eq_true (by kernel_rfl)) k1 bel lt1) trodAll_mk0)), rfl, bel.frame _, fun h => by cases h⟩
theorem over : Rows.fnExactDoAllRow.holds Tryz.pinned (OpenSpec.ofChange Rows.fnExactDoAllSpec) :=
  OpenClaim.holds_of_wide 3 Tryz.f3 rfl rfl rfl rfl rfl rfl rfl ⟨rfl, rfl, rfl, rfl, rfl⟩ rfl rfl rfl rfl rfl (by kernel_rfl) Tryz.func3 (by kernel_rfl)
    (of_decide_eq_true (by kernel_rfl)) (by unfold Func.isWrapper; first | (rw [if_pos (by decide +kernel)]; kernel_rfl) | (rw [if_neg (by decide +kernel)]; exact ⟨rfl, rfl⟩))
    (fun os started H enc _ => lifted os started H enc)
theorem proved : Rows.FnExactDoAllSaid := over
#print axioms proved
end Go.Proofs.YtbanogkoaplcdaaGreat.fnExactDoAll
namespace Go.Proofs.YtbanogkoaplcdaaGreat
theorem fnExactDoAll_holds : Rows.FnExactDoAllSaid := fnExactDoAll.proved
end Go.Proofs.YtbanogkoaplcdaaGreat
