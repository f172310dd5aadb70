/- Parts of the proof of FnExactSettled, one behind the other. No condition. -/
import Derived.Test.YtbanogkoaplcdaaVFnExactSettledM16
namespace Go.Proofs.Ytbanogkoaplcdaa.QSe
open Go.RowKit Go.Proofs.Ytbanogkoaplcdaa.Short Go.Proofs.YtbanogkoaplcdaaW.PrintWords Go.Proofs.YtbanogkoaplcdaaW.PrintLast Go.Proofs.YtbanogkoaplcdaaW.PrintMore
attribute [local go_sem] max2_int min2_int max_two min_two max_three min_three max_four min_four   -- for this text's walks alone
set_option linter.unusedVariables false
set_option linter.unusedSimpArgs false
theorem z13_7 {P : Prop} (h : P := by (with_reducible repeat (first | refine blk_drewN ?_ _ | refine blk_drew ?_ | refine blk_alloc ?_ _)); exact BK234.out) : P := h
theorem z13_6 {P : Prop} (h : P := by first | rfl | (simp [errW_none, errW_some] <;> rfl) | (simp [*, errW_none, errW_some] <;> rfl)) : P := h
theorem z13_5 {P : Prop} (h : P := by first | rfl | (simp only [List.map_toArray, List.map_cons, List.map_nil]; first | done | rfl)) : P := h
theorem z13_4 {P : Prop} (h : P := by kernel_rfl) : P := h
theorem z13_3 {P : Prop} (h : P := by repeat (first | (with_reducible first | exact HB.out | apply below_alloc | apply pw_below_drewN | apply below_drew1 | refine below_set ?_ GE234.out) | exact HB.out)) : P := h
theorem z13_2 {P : Prop} (h : P := by intro w'; go_simp; with_reducible rfl) : P := h
theorem z13_1 {P : Prop} (h : P := by repeat (first | (with_reducible first | exact HB.out | apply below_alloc | apply pw_below_drewN | apply below_drew1) | exact HB.out)) : P := h
theorem z13_0 {P : Prop} (h : P := by simp only [Act.put, List.setIfInBounds_toArray, List.set_cons_zero, List.set_cons_succ, i64_w, i32_w]; rfl) : P := h
abbrev mk13_0 : Array Bool := mb 17 0
abbrev mk13_1 : Array Bool := mb 17 1
abbrev mk13_2 : Array Bool := mb 17 3
abbrev mk13_3 : Array Bool := mb 17 7
abbrev mk13_4 : Array Bool := mb 17 15
abbrev mk13_5 : Array Bool := mb 17 31
abbrev mk13_6 : Array Bool := mb 17 63
abbrev mk13_7 : Array Bool := mb 17 127
abbrev mk13_8 : Array Bool := mb 17 255
abbrev mk13_9 : Array Bool := mb 17 767
abbrev mk13_10 : Array Bool := mb 17 1791
abbrev mk13_11 : Array Bool := mb 17 2047
abbrev mk13_12 : Array Bool := mb 17 4095
abbrev mk13_13 : Array Bool := mb 17 8191
abbrev mk13_14 : Array Bool := mb 17 16383
abbrev mk13_15 : Array Bool := mb 17 32767
abbrev mk13_16 : Array Bool := mb 17 65535
abbrev mk13_17 : Array Bool := mb 17 131071
abbrev mk13_18 : Array Bool := mb 17 511
abbrev mk13_19 : Array Bool := mb 17 1023
theorem z13_8 {P : Prop} (h : P := by repeat (first | exact (Kd.C_below HR0.out HB.out) | (with_reducible refine Kd.C_alloc ?_ _) | (with_reducible refine Kd.C_drewN ?_ _) | (with_reducible refine Kd.C_drew ?_))) : P := h
def spec_Knows.f (k : Nat) (l0 : List Int) (a1_0 : Int) (a1_1 : Int) : Option (Bool) := (spec_KnowOk.f k l0).bind fun t235 => (if t235 = true then ((spec_DotOk.f a1_0 a1_1).bind fun t236 => (if t236 = true then (if 0 ≤ a1_0 then (if a1_0 < (l0.length : Int) then (some (decide (a1_1 ≤ (rd l0 a1_0)))) else (none)) else (none)) else (some false))) else (some false))
def spec_Knows.T1 : Bool × List (List Nat × List Nat) := (true, [([], []), ([0], [0]), ([1, 1], [1]), ([2], [2]), ([3, 2, 2], [2, 3]), ([2, 4], [2, 4]), ([5, 4], [5]), ([6], [6]), ([7, 6], [6, 7]), ([6], [6]), ([6], [6]), ([10, 6], [6, 10]), ([9, 11, 6], [6, 9, 11]), ([12, 6], [6, 12]), ([8, 13, 6], [6, 8, 13]), ([6, 14], [6, 14]), ([15, 6, 0, 1, 2, 3, 4, 5, 6, 7, 8, 9, 10, 11, 12, 13, 14, 15], [15])])
def spec_Knows.B1 : List Nat := [0, 1, 3, 7, 15, 31, 63, 127, 255, 127, 127, 1151, 3711, 7807, 16383, 32767, 65535]
theorem spec_Knows.tab1 : rtab .any (opsOf Try.f60 1) = spec_Knows.T1 := by kernel_rfl
theorem spec_Knows.bits1 : waitsOk spec_Knows.T1.2 spec_Knows.B1 = true := by kernel_rfl
set_option maxHeartbeats 8000000 in
set_option maxRecDepth 100000 in
theorem spec_Knows.calls (k : Nat) (A0 : Option Addr) (c0 : Nat) (l0 : List Int) (a1_0 : Int) (a1_1 : Int) (r : Bool) (w : World) (hr0 : Kd.C (Kd.int .i64) w A0 l0.length l0) (hc0 : l0.length ≤ c0) (h : spec_Knows.f k l0 a1_0 a1_1 = some r) :
  Calls Try.prog 60 #[.slice A0 l0.length c0, .agg #[.int .i64 a1_0, .int .i64 a1_1]] w fun e w' => e = .returned (.bool r) ∧ Below w.heap.size w w' := by
 have hu38 := Try.underlying38
 have HR0 := Aside0.mk hr0
 have HC0 := Aside0.mk hc0
 clear hr0 hc0
 have HB := Aside0.mk (Below.refl w.heap.size w)
 have H := h
 unfold spec_Knows.f at H
 clear h
 replace H := Option.bind_eq_some_iff.mp H
 obtain ⟨t235, A30, H⟩ := H
 (try dsimp only at H)
 have A3 := Aside0.mk A30
 clear A30
 by_cases c4 : t235 = true
 rotate_left
 ·
  replace c4 := Bool.eq_false_iff.mpr c4
  subst c4
  rw [if_neg (show ¬ (false = true) by decide)] at H
  obtain rfl := Option.some.inj H
  go_enter Try.func60, Try.ntmps60
  try go_wp2_with (first | ((with_reducible refine gate_dst (N := 3) rfl ?_); refine box_event ?hg (N := 3) ?hd (cs := #[.int .i64 a1_0, .int .i64 a1_1]) (t := 38) ?hr ?_; (case hd => rfl); (case hg => rfl); (case hr => first | (go_simp; done) | (go_simp; rfl)); intro gb234 hg w15 hbox hb; have BK234 := Aside0.mk (hbox); have GW234 := gw_ w z13_1 hg; have GE234 := gw_ w z13_1 hg; replace HB := Aside0.mk (below_step z13_1 hb); clear hb hbox hg))
  replace BK234 := Aside0.mk (blk_drew BK234.out)
  replace HB := Aside0.mk (below_drew1 HB.out)
  refine start_ (n := 17) (S := fun w' => True) (ds := []) mk13_0 z13_4 rfl rfl trivial (fun hHeld => ?_); refine with_tabW spec_Knows.tab1 spec_Knows.bits1 (fun HT_ HW_ => ?_)
  generalize w15.drew = w16 at BK234 HB hHeld ⊢
  refine p_ (i := 0) (N := some 5) mk13_1 ?_ (hv := z13_2) (ha := z13_0)
  refine o_ (i := 1) (N := some 6) mk13_2 (fun K hK => ?_)
  refine goes_ Try.func56 z13_4 rfl #[.slice A0 l0.length c0] (by rfl) rfl rfl z13_5 ?_
  with_reducible refine (spec_KnowOk.calls k _ _ l0 false _ ?side1 ?side2 A3.out).mono ?_
  (case side1 => exact z13_8)
  (case side2 => exact HC0.out)
  rintro e w' ⟨rfl, ⟨nd, rfl⟩⟩
  refine ⟨_, rfl, ?_⟩
  refine hK.out _ _ trivial (fun hHeld => ?_)
  clear hK K
  refine n_ (N := some 6) ?_
  refine p_ (i := 2) (N := some 7) mk13_3 ?_ (hv := z13_2) (ha := z13_0)
  refine u_ (i := 3) (N := some 8) mk13_4 ?_ (ha := z13_0)
  refine u_ (i := 4) (N := some 9) mk13_5 ?_ (ha := z13_0)
  refine p_ (i := 5) (N := some 10) mk13_6 ?_ (hv := z13_2) (ha := z13_0)
  refine p_ (i := 6) (N := some 11) mk13_7 ?_ (hv := z13_2) (ha := z13_0)
  refine u_ (i := 7) (N := some 12) mk13_8 ?_ (ha := z13_0)
  refine u_ (i := 8) (N := some 13) mk13_18 ?_ (ha := z13_0)
  refine u_ (i := 9) (N := some 14) mk13_19 ?_ (ha := z13_0)
  refine u_ (i := 10) (N := some 15) mk13_11 ?_ (ha := z13_0)
  refine u_ (i := 11) (N := some 16) mk13_12 ?_ (ha := z13_0)
  refine u_ (i := 12) (N := some 17) mk13_13 ?_ (ha := z13_0)
  refine u_ (i := 13) (N := some 18) mk13_14 ?_ (ha := z13_0)
  refine u_ (i := 14) (N := some 19) mk13_15 ?_ (ha := z13_0)
  refine p_ (i := 15) (N := some 20) mk13_16 ?_ (hv := z13_2) (ha := z13_0)
  refine p_ (i := 16) (N := some 4) mk13_17 ?_ (hv := z13_2) (ha := z13_0)
  refine done_ (done_of HT_.out z13_4) ?_
  try go_wp2
  go_ret
  exact ⟨z13_6, z13_3⟩
 subst c4
 rw [if_pos rfl] at H
 replace H := Option.bind_eq_some_iff.mp H
 obtain ⟨t236, A50, H⟩ := H
 (try dsimp only at H)
 have A5 := Aside0.mk A50
 clear A50
 by_cases c6 : t236 = true
 rotate_left
 ·
  replace c6 := Bool.eq_false_iff.mpr c6
  subst c6
  rw [if_neg (show ¬ (false = true) by decide)] at H
  obtain rfl := Option.some.inj H
  go_enter Try.func60, Try.ntmps60
  try go_wp2_with (first | ((with_reducible refine gate_dst (N := 3) rfl ?_); refine box_event ?hg (N := 3) ?hd (cs := #[.int .i64 a1_0, .int .i64 a1_1]) (t := 38) ?hr ?_; (case hd => rfl); (case hg => rfl); (case hr => first | (go_simp; done) | (go_simp; rfl)); intro gb234 hg w12 hbox hb; have BK234 := Aside0.mk (hbox); have GW234 := gw_ w z13_1 hg; have GE234 := gw_ w z13_1 hg; replace HB := Aside0.mk (below_step z13_1 hb); clear hb hbox hg))
  replace BK234 := Aside0.mk (blk_drew BK234.out)
  replace HB := Aside0.mk (below_drew1 HB.out)
  refine start_ (n := 17) (S := fun w' => w'.cell? ⟨gb234, 0, none⟩ = some (.int .i64 a1_0) ∧ w'.cell? ⟨gb234, 1, none⟩ = some (.int .i64 a1_1)) (ds := []) mk13_0 z13_4 rfl rfl (ln2 BK234) (fun hHeld => ?_); refine with_tabW spec_Knows.tab1 spec_Knows.bits1 (fun HT_ HW_ => ?_)
  generalize w12.drew = w13 at BK234 HB hHeld ⊢
  refine p_ (i := 0) (N := some 5) mk13_1 ?_ (hv := z13_2) (ha := z13_0)
  refine o_ (i := 1) (N := some 6) mk13_2 (fun K hK => ?_)
  refine goes_ Try.func56 z13_4 rfl #[.slice A0 l0.length c0] (by rfl) rfl rfl z13_5 ?_
  with_reducible refine (spec_KnowOk.calls k _ _ l0 true _ ?side1 ?side2 A3.out).mono ?_
  (case side1 => exact z13_8)
  (case side2 => exact HC0.out)
  rintro e w' ⟨rfl, ⟨nd, rfl⟩⟩
  refine ⟨_, rfl, ?_⟩
  refine hK.out _ _ (ln2 BK234) (fun hHeld => ?_)
  clear hK K
  refine n_ (N := some 6) ?_
  refine p_ (i := 2) (N := some 7) mk13_3 ?_ (hv := z13_2) (ha := z13_0)
  refine t_ (i := 3) (N := some 8) mk13_4 hHeld ?_ (ha := z13_0)
  refine o_ (i := 4) (N := some 9) mk13_5 (fun K hK => ?_)
  refine goes_ Try.func104 z13_4 rfl #[.agg #[.int .i64 a1_0, .int .i64 a1_1]] (by rfl) rfl rfl z13_5 ?_
  with_reducible refine (spec_DotOk.calls a1_0 a1_1 false _ A5.out).mono ?_
  rintro e w14 ⟨rfl, hb⟩
  refine ⟨_, rfl, ?_⟩
  replace BK234 := bb_ BK234 z13_7 hb
  replace HB := Aside0.mk (below_step z13_3 hb)
  (try clear hb)
  (try clear hb2)
  (try clear hk)
  (try clear hi)
  refine hK.out _ _ (ln2 BK234) (fun hHeld => ?_)
  clear hK K
  refine n_ (N := some 9) ?_
  refine p_ (i := 5) (N := some 10) mk13_6 ?_ (hv := z13_2) (ha := z13_0)
  refine p_ (i := 6) (N := some 11) mk13_7 ?_ (hv := z13_2) (ha := z13_0)
  refine u_ (i := 7) (N := some 12) mk13_8 ?_ (ha := z13_0)
  refine u_ (i := 8) (N := some 13) mk13_18 ?_ (ha := z13_0)
  refine u_ (i := 9) (N := some 14) mk13_19 ?_ (ha := z13_0)
  refine u_ (i := 10) (N := some 15) mk13_11 ?_ (ha := z13_0)
  refine u_ (i := 11) (N := some 16) mk13_12 ?_ (ha := z13_0)
  refine u_ (i := 12) (N := some 17) mk13_13 ?_ (ha := z13_0)
  refine u_ (i := 13) (N := some 18) mk13_14 ?_ (ha := z13_0)
  refine u_ (i := 14) (N := some 19) mk13_15 ?_ (ha := z13_0)
  refine p_ (i := 15) (N := some 20) mk13_16 ?_ (hv := z13_2) (ha := z13_0)
  refine p_ (i := 16) (N := some 4) mk13_17 ?_ (hv := z13_2) (ha := z13_0)
  refine done_ (done_of HT_.out z13_4) ?_
  try go_wp2
  go_ret
  exact ⟨z13_6, z13_3⟩
 subst c6
 rw [if_pos rfl] at H
 by_cases c7 : 0 ≤ a1_0
 rotate_left
 ·
  rw [if_neg c7] at H
  exact absurd H (by simp)
 rw [if_pos c7] at H
 have c7b0 : decide (0 ≤ a1_0) = true := decide_eq_true c7
 clear c7
 by_cases c8 : a1_0 < (l0.length : Int)
 rotate_left
 ·
  rw [if_neg c8] at H
  exact absurd H (by simp)
 rw [if_pos c8] at H
 have c8b0 : decide (a1_0 < (l0.length : Int)) = true := decide_eq_true c8
 clear c8
 obtain rfl := Option.some.inj H
 go_enter Try.func60, Try.ntmps60
 try go_wp2_with (first | ((with_reducible refine gate_dst (N := 3) rfl ?_); refine box_event ?hg (N := 3) ?hd (cs := #[.int .i64 a1_0, .int .i64 a1_1]) (t := 38) ?hr ?_; (case hd => rfl); (case hg => rfl); (case hr => first | (go_simp; done) | (go_simp; rfl)); intro gb234 hg w9 hbox hb; have BK234 := Aside0.mk (hbox); have GW234 := gw_ w z13_1 hg; have GE234 := gw_ w z13_1 hg; replace HB := Aside0.mk (below_step z13_1 hb); clear hb hbox hg))
 replace BK234 := Aside0.mk (blk_drew BK234.out)
 replace HB := Aside0.mk (below_drew1 HB.out)
 have p237 : 0 ≤ (a1_0 : Int) := of_decide_eq_true (by first | (with_reducible assumption) | assumption)
 have q237 : a1_0 < (l0.length : Int) := of_decide_eq_true (by first | (with_reducible assumption) | assumption)
 obtain ⟨ad237, e237, hx237_0⟩ := Kd.at_int HR0.out a1_0 p237 q237
 have hw237_0 := hx237_0
 cases e237
 replace hx237_0 := cb_ HB hx237_0
 replace p237 := eq_true p237
 replace q237 := eq_true q237
 refine start_ (n := 17) (S := fun w' => w'.cell? ⟨gb234, 0, none⟩ = some (.int .i64 a1_0) ∧ w'.cell? ⟨gb234, 1, none⟩ = some (.int .i64 a1_1) ∧ w'.cell? (ad237.add (a1_0).toNat) = some (.int .i64 (rd l0 a1_0))) (ds := []) mk13_0 z13_4 rfl rfl (jn2 BK234 (cb_ HB hw237_0)) (fun hHeld => ?_); refine with_tabW spec_Knows.tab1 spec_Knows.bits1 (fun HT_ HW_ => ?_)
 generalize w9.drew = w10 at BK234 HB hx237_0 hHeld ⊢
 refine p_ (i := 0) (N := some 5) mk13_1 ?_ (hv := z13_2) (ha := z13_0)
 refine o_ (i := 1) (N := some 6) mk13_2 (fun K hK => ?_)
 refine goes_ Try.func56 z13_4 rfl #[.slice (some ad237) l0.length c0] (by rfl) rfl rfl z13_5 ?_
 with_reducible refine (spec_KnowOk.calls k _ _ l0 true _ ?side1 ?side2 A3.out).mono ?_
 (case side1 => exact z13_8)
 (case side2 => exact HC0.out)
 rintro e w' ⟨rfl, ⟨nd, rfl⟩⟩
 refine ⟨_, rfl, ?_⟩
 refine hK.out _ _ (jn2 BK234 (cb_ HB hw237_0)) (fun hHeld => ?_)
 clear hK K
 refine n_ (N := some 6) ?_
 refine p_ (i := 2) (N := some 7) mk13_3 ?_ (hv := z13_2) (ha := z13_0)
 refine t_ (i := 3) (N := some 8) mk13_4 hHeld ?_ (ha := z13_0)
 refine o_ (i := 4) (N := some 9) mk13_5 (fun K hK => ?_)
 refine goes_ Try.func104 z13_4 rfl #[.agg #[.int .i64 a1_0, .int .i64 a1_1]] (by rfl) rfl rfl z13_5 ?_
 with_reducible refine (spec_DotOk.calls a1_0 a1_1 true _ A5.out).mono ?_
 rintro e w11 ⟨rfl, hb⟩
 refine ⟨_, rfl, ?_⟩
 replace BK234 := bb_ BK234 z13_7 hb
 replace HB := Aside0.mk (below_step z13_3 hb)
 (try clear hb)
 (try clear hb2)
 (try clear hk)
 (try clear hi)
 refine hK.out _ _ (jn2 BK234 (cb_ HB hw237_0)) (fun hHeld => ?_)
 clear hK K
 refine n_ (N := some 9) ?_
 refine p_ (i := 5) (N := some 10) mk13_6 ?_ (hv := z13_2) (ha := z13_0)
 refine p_ (i := 6) (N := some 11) mk13_7 ?_ (hv := z13_2) (ha := z13_0)
 refine p_ (i := 7) (N := some 12) mk13_8 ?_ (hv := z13_2) (ha := z13_0)
 refine p_ (i := 9) (N := some 14) mk13_9 ?_ (hv := z13_2) (ha := z13_0)
 refine p_ (i := 10) (N := some 15) mk13_10 ?_ (hv := z13_2) (ha := z13_0)
 refine t_ (i := 8) (N := some 13) mk13_11 hHeld ?_ (ha := z13_0)
 refine t_ (i := 11) (N := some 16) mk13_12 hHeld ?_ (ha := z13_0)
 refine p_ (i := 12) (N := some 17) mk13_13 ?_ (hv := z13_2) (ha := z13_0)
 refine t_ (i := 13) (N := some 18) mk13_14 hHeld ?_ (ha := z13_0)
 refine p_ (i := 14) (N := some 19) mk13_15 ?_ (hv := z13_2) (ha := z13_0)
 refine p_ (i := 15) (N := some 20) mk13_16 ?_ (hv := z13_2) (ha := z13_0)
 refine p_ (i := 16) (N := some 4) mk13_17 ?_ (hv := z13_2) (ha := z13_0)
 refine done_ (done_of HT_.out z13_4) ?_
 try go_wp2
 go_ret
 exact ⟨z13_6, z13_3⟩
end Go.Proofs.Ytbanogkoaplcdaa.QSe
