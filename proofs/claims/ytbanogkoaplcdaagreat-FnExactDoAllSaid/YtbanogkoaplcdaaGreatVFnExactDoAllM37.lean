/- Parts of the proof of FnExactDoAll, one behind the other. No condition. -/
import Derived.Test.YtbanogkoaplcdaaGreatVFnExactDoAllM35
namespace Go.Proofs.YtbanogkoaplcdaaGreat.QDa
open Go.RowKit Go.Proofs.YtbanogkoaplcdaaGreat.Short Go.Proofs.YtbanogkoaplcdaaGreatW.PrintWords Go.Proofs.YtbanogkoaplcdaaGreatW.PrintLast Go.Proofs.YtbanogkoaplcdaaGreatW.PrintMore
attribute [local go_sem] max2_int min2_int max_two min_two max_three min_three max_four min_four   -- for this text's walks alone
set_option linter.unusedVariables false
set_option linter.unusedSimpArgs false
theorem z20_11 {P : Prop} (h : P := by (with_reducible repeat (first | refine blk_drewN ?_ _ | refine blk_drew ?_ | refine blk_alloc ?_ _)); exact BK488.out) : P := h
theorem z20_10 {P : Prop} (h : P := by repeat (first | (with_reducible first | exact HB.out | apply below_alloc | apply pw_below_drewN | apply below_drew1 | refine below_set ?_ GE485.out) | exact HB.out)) : P := h
theorem z20_9 {P : Prop} (h : P := by repeat (first | (with_reducible first | exact HB.out | apply below_alloc | apply pw_below_drewN | apply below_drew1 | refine below_set ?_ GE492.out) | exact HB.out)) : P := h
theorem z20_8 {P : Prop} (h : P := by (with_reducible repeat (first | refine blk_drewN ?_ _ | refine blk_drew ?_ | refine blk_alloc ?_ _)); exact BK492.out) : P := h
theorem z20_7 {P : Prop} (h : P := by repeat (first | (with_reducible first | exact HB.out | apply below_alloc | apply pw_below_drewN | apply below_drew1 | refine below_set ?_ GE492.out | refine below_set ?_ GE493.out) | exact HB.out)) : P := h
theorem z20_6 {P : Prop} (h : P := by first | rfl | (simp [errW_none, errW_some] <;> rfl) | (simp [*, errW_none, errW_some] <;> rfl)) : P := h
theorem z20_5 {P : Prop} (h : P := by repeat (first | (with_reducible first | exact HB.out | apply below_alloc | apply pw_below_drewN | apply below_drew1 | refine below_set ?_ GE488.out) | exact HB.out)) : P := h
theorem z20_4 {P : Prop} (h : P := by kernel_rfl) : P := h
theorem z20_3 {P : Prop} (h : P := by first | rfl | (simp only [List.map_toArray, List.map_cons, List.map_nil]; first | done | rfl)) : P := h
theorem z20_2 {P : Prop} (h : P := by intro w'; go_simp; with_reducible rfl) : P := h
theorem z20_1 {P : Prop} (h : P := by repeat (first | (with_reducible first | exact HB.out | apply below_alloc | apply pw_below_drewN | apply below_drew1) | exact HB.out)) : P := h
theorem z20_0 {P : Prop} (h : P := by simp only [Act.put, List.setIfInBounds_toArray, List.set_cons_zero, List.set_cons_succ, i64_w, i32_w]; rfl) : P := h
abbrev mk20_0 : Array Bool := mb 17 0
abbrev mk20_1 : Array Bool := mb 17 1
abbrev mk20_2 : Array Bool := mb 17 3
abbrev mk20_3 : Array Bool := mb 17 7
abbrev mk20_4 : Array Bool := mb 17 15
abbrev mk20_5 : Array Bool := mb 17 31
abbrev mk20_6 : Array Bool := mb 17 63
abbrev mk20_7 : Array Bool := mb 17 127
abbrev mk20_8 : Array Bool := mb 17 255
abbrev mk20_9 : Array Bool := mb 17 767
abbrev mk20_10 : Array Bool := mb 17 1791
abbrev mk20_11 : Array Bool := mb 17 2047
abbrev mk20_12 : Array Bool := mb 17 4095
abbrev mk20_13 : Array Bool := mb 17 8191
abbrev mk20_14 : Array Bool := mb 17 16383
abbrev mk20_15 : Array Bool := mb 17 32767
abbrev mk20_16 : Array Bool := mb 17 65535
abbrev mk20_17 : Array Bool := mb 17 131071
abbrev mk20_18 : Array Bool := mb 17 511
abbrev mk20_19 : Array Bool := mb 17 1023
abbrev mk20_20 : Array Bool := mb 13 0
abbrev mk20_21 : Array Bool := mb 13 1
abbrev mk20_22 : Array Bool := mb 13 5
abbrev mk20_23 : Array Bool := mb 13 37
abbrev mk20_24 : Array Bool := mb 13 165
abbrev mk20_25 : Array Bool := mb 13 167
abbrev mk20_26 : Array Bool := mb 13 175
abbrev mk20_27 : Array Bool := mb 13 239
abbrev mk20_28 : Array Bool := mb 13 495
abbrev mk20_29 : Array Bool := mb 13 511
abbrev mk20_30 : Array Bool := mb 13 1023
abbrev mk20_31 : Array Bool := mb 13 2047
abbrev mk20_32 : Array Bool := mb 13 4095
abbrev mk20_33 : Array Bool := mb 13 8191
theorem z20_12 {P : Prop} (h : P := by repeat (first | exact (Kd.C_below HR0.out HB.out) | (with_reducible refine Kd.C_alloc ?_ _) | (with_reducible refine Kd.C_drewN ?_ _) | (with_reducible refine Kd.C_drew ?_))) : P := h
def impl_DotOk.f (a0_0 : Int) (a0_1 : Int) : Option (Bool) := (impl_within.f a0_0 0 2).bind fun t486 => (if t486 = true then ((impl_within.f a0_1 1 1000).bind fun t487 => (some t487)) else (some false))
set_option maxHeartbeats 8000000 in
set_option maxRecDepth 100000 in
theorem impl_DotOk.calls (a0_0 : Int) (a0_1 : Int) (r : Bool) (w : World) (h : impl_DotOk.f a0_0 a0_1 = some r) :
  Calls Tryz.prog 88 #[.agg #[.int .i64 a0_0, .int .i64 a0_1]] w fun e w' => e = .returned (.bool r) ∧ Below w.heap.size w w' := by
 have hu59 := Tryz.underlying59
 have HB := Aside0.mk (Below.refl w.heap.size w)
 have H := h
 unfold impl_DotOk.f at H
 clear h
 replace H := Option.bind_eq_some_iff.mp H
 obtain ⟨t486, A20, H⟩ := H
 (try dsimp only at H)
 have A2 := Aside0.mk A20
 clear A20
 by_cases c3 : t486 = true
 rotate_left
 ·
  replace c3 := Bool.eq_false_iff.mpr c3
  subst c3
  rw [if_neg (show ¬ (false = true) by decide)] at H
  obtain rfl := Option.some.inj H
  go_enter Tryz.func88, Tryz.ntmps88
  go_wp2_with (first | ((with_reducible refine gate_dst (N := 1) rfl ?_); refine box_event ?hg (N := 1) ?hd (cs := #[.int .i64 a0_0, .int .i64 a0_1]) (t := 59) ?hr ?_; (case hd => rfl); (case hg => rfl); (case hr => first | (go_simp; done) | (go_simp; rfl)); intro gb485 hg w7 hbox hb; have BK485 := Aside0.mk (hbox); have GW485 := gw_ w z20_1 hg; have GE485 := gw_ w z20_1 hg; replace HB := Aside0.mk (below_step z20_1 hb); clear hb hbox hg; have hcz8 := bc2 BK485.out) | ((with_reducible refine gate_callee (f := 89) rfl ?_); refine goesL_ (some 5) rfl rfl Tryz.func89 z20_4 rfl #[.int .i64 a0_0, .int .i64 0, .int .i64 2] rfl z20_3 ?_; (with_reducible refine (impl_within.calls a0_0 0 2 false _ A2.out).mono ?_); rintro e w' ⟨rfl, ⟨nd, rfl⟩⟩; refine ⟨_, rfl, ?_⟩))
  go_ret
  exact ⟨z20_6, z20_10⟩
 subst c3
 rw [if_pos rfl] at H
 replace H := Option.bind_eq_some_iff.mp H
 obtain ⟨t487, A40, H⟩ := H
 (try dsimp only at H)
 have A4 := Aside0.mk A40
 clear A40
 obtain rfl := Option.some.inj H
 go_enter Tryz.func88, Tryz.ntmps88
 go_wp2_with (first | ((with_reducible refine gate_dst (N := 1) rfl ?_); refine box_event ?hg (N := 1) ?hd (cs := #[.int .i64 a0_0, .int .i64 a0_1]) (t := 59) ?hr ?_; (case hd => rfl); (case hg => rfl); (case hr => first | (go_simp; done) | (go_simp; rfl)); intro gb485 hg w5 hbox hb; have BK485 := Aside0.mk (hbox); have GW485 := gw_ w z20_1 hg; have GE485 := gw_ w z20_1 hg; replace HB := Aside0.mk (below_step z20_1 hb); clear hb hbox hg; have hcz6 := bc2 BK485.out) | ((with_reducible refine gate_callee (f := 89) rfl ?_); refine goesL_ (some 5) rfl rfl Tryz.func89 z20_4 rfl #[.int .i64 a0_0, .int .i64 0, .int .i64 2] rfl z20_3 ?_; (with_reducible refine (impl_within.calls a0_0 0 2 true _ A2.out).mono ?_); rintro e w' ⟨rfl, ⟨nd, rfl⟩⟩; refine ⟨_, rfl, ?_⟩) | (go_at_call 89; (with_reducible refine (impl_within.calls a0_1 1 1000 t487 _ A4.out).mono ?_); rintro e w' ⟨rfl, ⟨nd, rfl⟩⟩))
 go_ret
 exact ⟨z20_6, z20_10⟩
def impl_Knows.f (k : Nat) (l0 : List Int) (a1_0 : Int) (a1_1 : Int) : Option (Bool) := (impl_KnowOk.f k l0).bind fun t489 => (if t489 = true then ((impl_DotOk.f a1_0 a1_1).bind fun t490 => (if t490 = true then (if 0 ≤ a1_0 then (if a1_0 < (l0.length : Int) then (some (decide (a1_1 ≤ (rd l0 a1_0)))) else (none)) else (none)) else (some false))) else (some false))
def impl_Knows.T1 : Bool × List (List Nat × List Nat) := (true, [([], []), ([0], [0]), ([1, 1], [1]), ([2], [2]), ([3, 2, 2], [2, 3]), ([2, 4], [2, 4]), ([5, 4], [5]), ([6], [6]), ([7, 6], [6, 7]), ([6], [6]), ([6], [6]), ([10, 6], [6, 10]), ([9, 11, 6], [6, 9, 11]), ([12, 6], [6, 12]), ([8, 13, 6], [6, 8, 13]), ([6, 14], [6, 14]), ([15, 6, 0, 1, 2, 3, 4, 5, 6, 7, 8, 9, 10, 11, 12, 13, 14, 15], [15])])
def impl_Knows.B1 : List Nat := [0, 1, 3, 7, 15, 31, 63, 127, 255, 127, 127, 1151, 3711, 7807, 16383, 32767, 65535]
theorem impl_Knows.tab1 : rtab .any (opsOf Tryz.f59 1) = impl_Knows.T1 := by kernel_rfl
theorem impl_Knows.bits1 : waitsOk impl_Knows.T1.2 impl_Knows.B1 = true := by kernel_rfl
set_option maxHeartbeats 8000000 in
set_option maxRecDepth 100000 in
theorem impl_Knows.calls (k : Nat) (A0 : Option Addr) (c0 : Nat) (l0 : List Int) (a1_0 : Int) (a1_1 : Int) (r : Bool) (w : World) (hr0 : Kd.C (Kd.int .i64) w A0 l0.length l0) (hc0 : l0.length ≤ c0) (h : impl_Knows.f k l0 a1_0 a1_1 = some r) :
  Calls Tryz.prog 59 #[.slice A0 l0.length c0, .agg #[.int .i64 a1_0, .int .i64 a1_1]] w fun e w' => e = .returned (.bool r) ∧ Below w.heap.size w w' := by
 have hu59 := Tryz.underlying59
 have HR0 := Aside0.mk hr0
 have HC0 := Aside0.mk hc0
 clear hr0 hc0
 have HB := Aside0.mk (Below.refl w.heap.size w)
 have H := h
 unfold impl_Knows.f at H
 clear h
 replace H := Option.bind_eq_some_iff.mp H
 obtain ⟨t489, A30, H⟩ := H
 (try dsimp only at H)
 have A3 := Aside0.mk A30
 clear A30
 by_cases c4 : t489 = true
 rotate_left
 ·
  replace c4 := Bool.eq_false_iff.mpr c4
  subst c4
  rw [if_neg (show ¬ (false = true) by decide)] at H
  obtain rfl := Option.some.inj H
  go_enter Tryz.func59, Tryz.ntmps59
  try go_wp2_with (first | ((with_reducible refine gate_dst (N := 3) rfl ?_); refine box_event ?hg (N := 3) ?hd (cs := #[.int .i64 a1_0, .int .i64 a1_1]) (t := 59) ?hr ?_; (case hd => rfl); (case hg => rfl); (case hr => first | (go_simp; done) | (go_simp; rfl)); intro gb488 hg w15 hbox hb; have BK488 := Aside0.mk (hbox); have GW488 := gw_ w z20_1 hg; have GE488 := gw_ w z20_1 hg; replace HB := Aside0.mk (below_step z20_1 hb); clear hb hbox hg))
  replace BK488 := Aside0.mk (blk_drew BK488.out)
  replace HB := Aside0.mk (below_drew1 HB.out)
  refine start_ (n := 17) (S := fun w' => True) (ds := []) mk20_0 z20_4 rfl rfl trivial (fun hHeld => ?_); refine with_tabW impl_Knows.tab1 impl_Knows.bits1 (fun HT_ HW_ => ?_)
  generalize w15.drew = w16 at BK488 HB hHeld ⊢
  refine p_ (i := 0) (N := some 5) mk20_1 ?_ (hv := z20_2) (ha := z20_0)
  refine o_ (i := 1) (N := some 6) mk20_2 (fun K hK => ?_)
  refine goes_ Tryz.func83 z20_4 rfl #[.slice A0 l0.length c0] (by rfl) rfl rfl z20_3 ?_
  with_reducible refine (impl_KnowOk.calls k _ _ l0 false _ ?side1 ?side2 A3.out).mono ?_
  (case side1 => exact z20_12)
  (case side2 => exact HC0.out)
  rintro e w' ⟨rfl, ⟨nd, rfl⟩⟩
  refine ⟨_, rfl, ?_⟩
  refine hK.out _ _ trivial (fun hHeld => ?_)
  clear hK K
  refine n_ (N := some 6) ?_
  refine p_ (i := 2) (N := some 7) mk20_3 ?_ (hv := z20_2) (ha := z20_0)
  refine u_ (i := 3) (N := some 8) mk20_4 ?_ (ha := z20_0)
  refine u_ (i := 4) (N := some 9) mk20_5 ?_ (ha := z20_0)
  refine p_ (i := 5) (N := some 10) mk20_6 ?_ (hv := z20_2) (ha := z20_0)
  refine p_ (i := 6) (N := some 11) mk20_7 ?_ (hv := z20_2) (ha := z20_0)
  refine u_ (i := 7) (N := some 12) mk20_8 ?_ (ha := z20_0)
  refine u_ (i := 8) (N := some 13) mk20_18 ?_ (ha := z20_0)
  refine u_ (i := 9) (N := some 14) mk20_19 ?_ (ha := z20_0)
  refine u_ (i := 10) (N := some 15) mk20_11 ?_ (ha := z20_0)
  refine u_ (i := 11) (N := some 16) mk20_12 ?_ (ha := z20_0)
  refine u_ (i := 12) (N := some 17) mk20_13 ?_ (ha := z20_0)
  refine u_ (i := 13) (N := some 18) mk20_14 ?_ (ha := z20_0)
  refine u_ (i := 14) (N := some 19) mk20_15 ?_ (ha := z20_0)
  refine p_ (i := 15) (N := some 20) mk20_16 ?_ (hv := z20_2) (ha := z20_0)
  refine p_ (i := 16) (N := some 4) mk20_17 ?_ (hv := z20_2) (ha := z20_0)
  refine done_ (done_of HT_.out z20_4) ?_
  try go_wp2
  go_ret
  exact ⟨z20_6, z20_5⟩
 subst c4
 rw [if_pos rfl] at H
 replace H := Option.bind_eq_some_iff.mp H
 obtain ⟨t490, A50, H⟩ := H
 (try dsimp only at H)
 have A5 := Aside0.mk A50
 clear A50
 by_cases c6 : t490 = true
 rotate_left
 ·
  replace c6 := Bool.eq_false_iff.mpr c6
  subst c6
  rw [if_neg (show ¬ (false = true) by decide)] at H
  obtain rfl := Option.some.inj H
  go_enter Tryz.func59, Tryz.ntmps59
  try go_wp2_with (first | ((with_reducible refine gate_dst (N := 3) rfl ?_); refine box_event ?hg (N := 3) ?hd (cs := #[.int .i64 a1_0, .int .i64 a1_1]) (t := 59) ?hr ?_; (case hd => rfl); (case hg => rfl); (case hr => first | (go_simp; done) | (go_simp; rfl)); intro gb488 hg w12 hbox hb; have BK488 := Aside0.mk (hbox); have GW488 := gw_ w z20_1 hg; have GE488 := gw_ w z20_1 hg; replace HB := Aside0.mk (below_step z20_1 hb); clear hb hbox hg))
  replace BK488 := Aside0.mk (blk_drew BK488.out)
  replace HB := Aside0.mk (below_drew1 HB.out)
  refine start_ (n := 17) (S := fun w' => w'.cell? ⟨gb488, 0, none⟩ = some (.int .i64 a1_0) ∧ w'.cell? ⟨gb488, 1, none⟩ = some (.int .i64 a1_1)) (ds := []) mk20_0 z20_4 rfl rfl (ln2 BK488) (fun hHeld => ?_); refine with_tabW impl_Knows.tab1 impl_Knows.bits1 (fun HT_ HW_ => ?_)
  generalize w12.drew = w13 at BK488 HB hHeld ⊢
  refine p_ (i := 0) (N := some 5) mk20_1 ?_ (hv := z20_2) (ha := z20_0)
  refine o_ (i := 1) (N := some 6) mk20_2 (fun K hK => ?_)
  refine goes_ Tryz.func83 z20_4 rfl #[.slice A0 l0.length c0] (by rfl) rfl rfl z20_3 ?_
  with_reducible refine (impl_KnowOk.calls k _ _ l0 true _ ?side1 ?side2 A3.out).mono ?_
  (case side1 => exact z20_12)
  (case side2 => exact HC0.out)
  rintro e w' ⟨rfl, ⟨nd, rfl⟩⟩
  refine ⟨_, rfl, ?_⟩
  refine hK.out _ _ (ln2 BK488) (fun hHeld => ?_)
  clear hK K
  refine n_ (N := some 6) ?_
  refine p_ (i := 2) (N := some 7) mk20_3 ?_ (hv := z20_2) (ha := z20_0)
  refine t_ (i := 3) (N := some 8) mk20_4 hHeld ?_ (ha := z20_0)
  refine o_ (i := 4) (N := some 9) mk20_5 (fun K hK => ?_)
  refine goes_ Tryz.func88 z20_4 rfl #[.agg #[.int .i64 a1_0, .int .i64 a1_1]] (by rfl) rfl rfl z20_3 ?_
  with_reducible refine (impl_DotOk.calls a1_0 a1_1 false _ A5.out).mono ?_
  rintro e w14 ⟨rfl, hb⟩
  refine ⟨_, rfl, ?_⟩
  replace BK488 := bb_ BK488 z20_11 hb
  replace HB := Aside0.mk (below_step z20_5 hb)
  (try clear hb)
  (try clear hb2)
  (try clear hk)
  (try clear hi)
  refine hK.out _ _ (ln2 BK488) (fun hHeld => ?_)
  clear hK K
  refine n_ (N := some 9) ?_
  refine p_ (i := 5) (N := some 10) mk20_6 ?_ (hv := z20_2) (ha := z20_0)
  refine p_ (i := 6) (N := some 11) mk20_7 ?_ (hv := z20_2) (ha := z20_0)
  refine u_ (i := 7) (N := some 12) mk20_8 ?_ (ha := z20_0)
  refine u_ (i := 8) (N := some 13) mk20_18 ?_ (ha := z20_0)
  refine u_ (i := 9) (N := some 14) mk20_19 ?_ (ha := z20_0)
  refine u_ (i := 10) (N := some 15) mk20_11 ?_ (ha := z20_0)
  refine u_ (i := 11) (N := some 16) mk20_12 ?_ (ha := z20_0)
  refine u_ (i := 12) (N := some 17) mk20_13 ?_ (ha := z20_0)
  refine u_ (i := 13) (N := some 18) mk20_14 ?_ (ha := z20_0)
  refine u_ (i := 14) (N := some 19) mk20_15 ?_ (ha := z20_0)
  refine p_ (i := 15) (N := some 20) mk20_16 ?_ (hv := z20_2) (ha := z20_0)
  refine p_ (i := 16) (N := some 4) mk20_17 ?_ (hv := z20_2) (ha := z20_0)
  refine done_ (done_of HT_.out z20_4) ?_
  try go_wp2
  go_ret
  exact ⟨z20_6, z20_5⟩
 subst c6
 rw [if_pos rfl] at H
 by_cases c7 : 0 ≤ a1_0
 rotate_left
 ·
  rw [if_neg c7] at H
  exact absurd H (by simp)
 rw [if_pos c7] at H
 have c7b0 : decide (0 ≤ a1_0) = true := decide_eq_true c7
 clear c7
 by_cases c8 : a1_0 < (l0.length : Int)
 rotate_left
 ·
  rw [if_neg c8] at H
  exact absurd H (by simp)
 rw [if_pos c8] at H
 have c8b0 : decide (a1_0 < (l0.length : Int)) = true := decide_eq_true c8
 clear c8
 obtain rfl := Option.some.inj H
 go_enter Tryz.func59, Tryz.ntmps59
 try go_wp2_with (first | ((with_reducible refine gate_dst (N := 3) rfl ?_); refine box_event ?hg (N := 3) ?hd (cs := #[.int .i64 a1_0, .int .i64 a1_1]) (t := 59) ?hr ?_; (case hd => rfl); (case hg => rfl); (case hr => first | (go_simp; done) | (go_simp; rfl)); intro gb488 hg w9 hbox hb; have BK488 := Aside0.mk (hbox); have GW488 := gw_ w z20_1 hg; have GE488 := gw_ w z20_1 hg; replace HB := Aside0.mk (below_step z20_1 hb); clear hb hbox hg))
 replace BK488 := Aside0.mk (blk_drew BK488.out)
 replace HB := Aside0.mk (below_drew1 HB.out)
 have p491 : 0 ≤ (a1_0 : Int) := of_decide_eq_true (by first | (with_reducible assumption) | assumption)
 have q491 : a1_0 < (l0.length : Int) := of_decide_eq_true (by first | (with_reducible assumption) | assumption)
 obtain ⟨ad491, e491, hx491_0⟩ := Kd.at_int HR0.out a1_0 p491 q491
 have hw491_0 := hx491_0
 cases e491
 replace hx491_0 := cb_ HB hx491_0
 replace p491 := eq_true p491
 replace q491 := eq_true q491
 refine start_ (n := 17) (S := fun w' => w'.cell? ⟨gb488, 0, none⟩ = some (.int .i64 a1_0) ∧ w'.cell? ⟨gb488, 1, none⟩ = some (.int .i64 a1_1) ∧ w'.cell? (ad491.add (a1_0).toNat) = some (.int .i64 (rd l0 a1_0))) (ds := []) mk20_0 z20_4 rfl rfl (jn2 BK488 (cb_ HB hw491_0)) (fun hHeld => ?_); refine with_tabW impl_Knows.tab1 impl_Knows.bits1 (fun HT_ HW_ => ?_)
 generalize w9.drew = w10 at BK488 HB hx491_0 hHeld ⊢
 refine p_ (i := 0) (N := some 5) mk20_1 ?_ (hv := z20_2) (ha := z20_0)
 refine o_ (i := 1) (N := some 6) mk20_2 (fun K hK => ?_)
 refine goes_ Tryz.func83 z20_4 rfl #[.slice (some ad491) l0.length c0] (by rfl) rfl rfl z20_3 ?_
 with_reducible refine (impl_KnowOk.calls k _ _ l0 true _ ?side1 ?side2 A3.out).mono ?_
 (case side1 => exact z20_12)
 (case side2 => exact HC0.out)
 rintro e w' ⟨rfl, ⟨nd, rfl⟩⟩
 refine ⟨_, rfl, ?_⟩
 refine hK.out _ _ (jn2 BK488 (cb_ HB hw491_0)) (fun hHeld => ?_)
 clear hK K
 refine n_ (N := some 6) ?_
 refine p_ (i := 2) (N := some 7) mk20_3 ?_ (hv := z20_2) (ha := z20_0)
 refine t_ (i := 3) (N := some 8) mk20_4 hHeld ?_ (ha := z20_0)
 refine o_ (i := 4) (N := some 9) mk20_5 (fun K hK => ?_)
 refine goes_ Tryz.func88 z20_4 rfl #[.agg #[.int .i64 a1_0, .int .i64 a1_1]] (by rfl) rfl rfl z20_3 ?_
 with_reducible refine (impl_DotOk.calls a1_0 a1_1 true _ A5.out).mono ?_
 rintro e w11 ⟨rfl, hb⟩
 refine ⟨_, rfl, ?_⟩
 replace BK488 := bb_ BK488 z20_11 hb
 replace HB := Aside0.mk (below_step z20_5 hb)
 (try clear hb)
 (try clear hb2)
 (try clear hk)
 (try clear hi)
 refine hK.out _ _ (jn2 BK488 (cb_ HB hw491_0)) (fun hHeld => ?_)
 clear hK K
 refine n_ (N := some 9) ?_
 refine p_ (i := 5) (N := some 10) mk20_6 ?_ (hv := z20_2) (ha := z20_0)
 refine p_ (i := 6) (N := some 11) mk20_7 ?_ (hv := z20_2) (ha := z20_0)
 refine p_ (i := 7) (N := some 12) mk20_8 ?_ (hv := z20_2) (ha := z20_0)
 refine p_ (i := 9) (N := some 14) mk20_9 ?_ (hv := z20_2) (ha := z20_0)
 refine p_ (i := 10) (N := some 15) mk20_10 ?_ (hv := z20_2) (ha := z20_0)
 refine t_ (i := 8) (N := some 13) mk20_11 hHeld ?_ (ha := z20_0)
 refine t_ (i := 11) (N := some 16) mk20_12 hHeld ?_ (ha := z20_0)
 refine p_ (i := 12) (N := some 17) mk20_13 ?_ (hv := z20_2) (ha := z20_0)
 refine t_ (i := 13) (N := some 18) mk20_14 hHeld ?_ (ha := z20_0)
 refine p_ (i := 14) (N := some 19) mk20_15 ?_ (hv := z20_2) (ha := z20_0)
 refine p_ (i := 15) (N := some 20) mk20_16 ?_ (hv := z20_2) (ha := z20_0)
 refine p_ (i := 16) (N := some 4) mk20_17 ?_ (hv := z20_2) (ha := z20_0)
 refine done_ (done_of HT_.out z20_4) ?_
 try go_wp2
 go_ret
 exact ⟨z20_6, z20_5⟩
def impl_compareDots.f (k : Nat) (a0_0 : Int) (a0_1 : Int) (a1_0 : Int) (a1_1 : Int) : Option (Int) := (cmp_Compare_int.f a0_0 a1_0).bind fun t494 => ((cmp_Compare_int.f a0_1 a1_1).bind fun t495 => ((cmp_Or_int.f k (([t494, t495] : List Int))).bind fun t499 => (some t499)))
def impl_compareDots.T1 : Bool × List (List Nat × List Nat) := (true, [([], []), ([0], [0]), ([], []), ([2], [2]), ([1, 3], [1, 3]), ([], []), ([5], [5]), ([], []), ([7], [7]), ([6, 8, 4], [6, 8]), ([4, 9], [4, 9]), ([10, 9], [10]), ([11, 11, 0, 1, 2, 3, 4, 5, 6, 7, 8, 9, 10, 11], [11])])
def impl_compareDots.B1 : List Nat := [0, 1, 0, 4, 15, 0, 32, 0, 128, 511, 1023, 2047, 4095]
theorem impl_compareDots.tab1 : rtab .any (opsOf Tryz.f94 1) = impl_compareDots.T1 := by kernel_rfl
theorem impl_compareDots.bits1 : waitsOk impl_compareDots.T1.2 impl_compareDots.B1 = true := by kernel_rfl
set_option maxHeartbeats 8000000 in
set_option maxRecDepth 100000 in
theorem impl_compareDots.calls (k : Nat) (a0_0 : Int) (a0_1 : Int) (a1_0 : Int) (a1_1 : Int) (r : Int) (w : World) (h : impl_compareDots.f k a0_0 a0_1 a1_0 a1_1 = some r) :
  Calls Tryz.prog 94 #[.agg #[.int .i64 a0_0, .int .i64 a0_1], .agg #[.int .i64 a1_0, .int .i64 a1_1]] w fun e w' => e = .returned (.int .i64 r) ∧ Below w.heap.size w w' := by
 have hu59 := Tryz.underlying59
 have HB := Aside0.mk (Below.refl w.heap.size w)
 have H := h
 unfold impl_compareDots.f at H
 clear h
 replace H := Option.bind_eq_some_iff.mp H
 obtain ⟨t494, A30, H⟩ := H
 (try dsimp only at H)
 have A3 := Aside0.mk A30
 clear A30
 replace H := Option.bind_eq_some_iff.mp H
 obtain ⟨t495, A40, H⟩ := H
 (try dsimp only at H)
 have A4 := Aside0.mk A40
 clear A40
 obtain ⟨y496, hy496⟩ : ∃ y_ : List Int, y_ = (([t494, t495] : List Int)) := ⟨_, rfl⟩
 replace H : ((cmp_Or_int.f k y496).bind fun t499 => (some t499)) = some r := by first | (rw [hy496]; with_reducible exact H) | (have H2_ := (Option.bind_some _ _).symm.trans H; rw [hy496]; with_reducible exact H2_) | (have H2_ := (Option.bind_some _ _).symm.trans H; with_reducible exact H2_) | with_reducible exact H | (rw [hy496]; exact H) | exact H
 have Ny496 := Aside0.mk hy496
 clear hy496
 replace H := Option.bind_eq_some_iff.mp H
 obtain ⟨t499, A50, H⟩ := H
 (try dsimp only at H)
 have A5 := Aside0.mk A50
 clear A50
 obtain rfl := Option.some.inj H
 go_enter Tryz.func94, Tryz.ntmps94
 try go_wp2_with (first | ((with_reducible refine gate_dst (N := 2) rfl ?_); refine box_event ?hg (N := 2) ?hd (cs := #[.int .i64 a0_0, .int .i64 a0_1]) (t := 59) ?hr ?_; (case hd => rfl); (case hg => rfl); (case hr => first | (go_simp; done) | (go_simp; rfl)); intro gb492 hg w6 hbox hb; have BK492 := Aside0.mk (hbox); have GW492 := gw_ w z20_1 hg; have GE492 := gw_ w z20_1 hg; replace HB := Aside0.mk (below_step z20_1 hb); clear hb hbox hg) | ((with_reducible refine gate_dst (N := 3) rfl ?_); refine box_event ?hg (N := 3) ?hd (cs := #[.int .i64 a1_0, .int .i64 a1_1]) (t := 59) ?hr ?_; (case hd => rfl); (case hg => rfl); (case hr => first | (go_simp; done) | (go_simp; rfl)); intro gb493 hg w7 hbox hb; have BK493 := Aside0.mk (hbox); have GW493 := gw_ w z20_9 hg; have GE493 := gw_ w z20_9 hg; replace HB := Aside0.mk (below_step z20_9 hb); have NB492_493 := nb_ BK492 z20_8 hg; have NB493_492 := nc_ BK492 z20_8 hg; replace BK492 := bb_ BK492 z20_8 hb; clear hb hbox hg))
 replace BK492 := Aside0.mk (blk_drew BK492.out)
 replace BK493 := Aside0.mk (blk_drew BK493.out)
 replace HB := Aside0.mk (below_drew1 HB.out)
 refine start_ (n := 13) (S := fun w' => w'.cell? ⟨gb492, 0, none⟩ = some (.int .i64 a0_0) ∧ w'.cell? ⟨gb492, 1, none⟩ = some (.int .i64 a0_1) ∧ w'.cell? ⟨gb493, 0, none⟩ = some (.int .i64 a1_0) ∧ w'.cell? ⟨gb493, 1, none⟩ = some (.int .i64 a1_1)) (ds := []) mk20_20 z20_4 rfl rfl (jn2 BK492 (ln2 BK493)) (fun hHeld => ?_); refine with_tabW impl_compareDots.tab1 impl_compareDots.bits1 (fun HT_ HW_ => ?_)
 generalize w7.drew = w8 at BK492 BK493 HB hHeld ⊢
 refine p_ (i := 0) (N := some 5) mk20_21 ?_ (hv := z20_2) (ha := z20_0)
 refine p_ (i := 2) (N := some 7) mk20_22 ?_ (hv := z20_2) (ha := z20_0)
 refine p_ (i := 5) (N := some 10) mk20_23 ?_ (hv := z20_2) (ha := z20_0)
 refine p_ (i := 7) (N := some 12) mk20_24 ?_ (hv := z20_2) (ha := z20_0)
 refine t_ (i := 1) (N := some 6) mk20_25 hHeld ?_ (ha := z20_0)
 refine t_ (i := 3) (N := some 8) mk20_26 hHeld ?_ (ha := z20_0)
 refine t_ (i := 6) (N := some 11) mk20_27 hHeld ?_ (ha := z20_0)
 refine t_ (i := 8) (N := some 13) mk20_28 hHeld ?_ (ha := z20_0)
 refine o_ (i := 4) (N := some 9) mk20_29 (fun K hK => ?_)
 refine goes_ Tryz.func104 z20_4 rfl #[.int .i64 a0_0, .int .i64 a1_0] (by rfl) rfl rfl z20_3 ?_
 with_reducible refine (cmp_Compare_int.calls a0_0 a1_0 t494 _ A3.out).mono ?_
 rintro e w' ⟨rfl, ⟨nd, rfl⟩⟩
 refine ⟨_, rfl, ?_⟩
 refine hK.out _ _ (jn2 BK492 (ln2 BK493)) (fun hHeld => ?_)
 clear hK K
 refine n_ (N := some 9) ?_
 refine o_ (i := 9) (N := some 14) mk20_30 (fun K hK => ?_)
 refine goes_ Tryz.func104 z20_4 rfl #[.int .i64 a0_1, .int .i64 a1_1] (by rfl) rfl rfl z20_3 ?_
 with_reducible refine (cmp_Compare_int.calls a0_1 a1_1 t495 _ A4.out).mono ?_
 rintro e w' ⟨rfl, ⟨nd, rfl⟩⟩
 refine ⟨_, rfl, ?_⟩
 refine hK.out _ _ (jn2 BK492 (ln2 BK493)) (fun hHeld => ?_)
 clear hK K
 refine n_ (N := some 14) ?_
 refine o_ (i := 10) (N := some 15) mk20_31 (fun K hK => ?_)
 refine Kd.R_lit_step (Kd.int .i64) _ 3 ?hg (N := 15) ?hd (xs := ([t494, t495] : List Int)) (inner := [.int .i64 t494, .int .i64 t495]) (ok := fun _ => True) (okp := fun _ => True) ?hr ?hp (fun _ hk => hk) trivial (Below.refl _ _) (Nat.le_refl _) (by simp) ?_; (case hd => rfl); (case hg => rfl); (case hr => first | (go_simp; done) | (go_simp; rfl)); (case hp => exact (Reps.one (show Kd.M (Kd.int .i64) _ _ _ t494 [.int .i64 t494] from rfl) (Reps.one (show Kd.M (Kd.int .i64) _ _ _ t495 [.int .i64 t495] from rfl) (Reps.none _ _))))
 intro v497 w9 ho10 hb hg_ hnew_
 clear hg_ hnew_
 (first | rw [← Ny496.out] at ho10 | (simp only [Int.reduceToNat] at ho10; rw [← Ny496.out] at ho10))
 have HO498 := Aside0.mk (Kd.R_lower ho10 (below_size z20_7))
 replace BK492 := bb_ BK492 z20_8 hb
 replace BK493 := bb_ BK493 (by (with_reducible repeat (first | refine blk_drewN ?_ _ | refine blk_drew ?_ | refine blk_alloc ?_ _)); exact BK493.out) hb
 replace HB := Aside0.mk (below_step z20_7 hb)
 clear hb ho10
 obtain ⟨Ao11, co11, eo11⟩ := Kd.R_slice HO498.out
 (first | subst eo11 | (injection eo11 with f1_ f2_ f3_; have f4_ := f1_.symm; have f5_ := f3_.symm; clear f1_ f2_ f3_; subst f4_; subst f5_))
 refine hK.out _ _ (jn2 BK492 (ln2 BK493)) (fun hHeld => ?_)
 clear hK K
 refine n_ (N := some 15) ?_
 refine o_ (i := 11) (N := some 16) mk20_32 (fun K hK => ?_)
 refine goes_ Tryz.func102 z20_4 rfl #[.slice Ao11 y496.length co11] (by rfl) rfl rfl z20_3 ?_
 with_reducible refine (cmp_Or_int.calls k _ _ y496 t499 _ ?side1 ?side2 A5.out).mono ?_
 (case side1 => repeat (first | exact (Kd.R_reads' HO498.out).2.2 | (with_reducible refine Kd.C_alloc ?_ _) | (with_reducible refine Kd.C_drewN ?_ _) | (with_reducible refine Kd.C_drew ?_)))
 (case side2 => exact (Kd.R_reads' HO498.out).2.1)
 rintro e w' ⟨rfl, ⟨nd, rfl⟩⟩
 refine ⟨_, rfl, ?_⟩
 refine hK.out _ _ (jn2 BK492 (ln2 BK493)) (fun hHeld => ?_)
 clear hK K
 refine n_ (N := some 16) ?_
 refine p_ (i := 12) (N := some 4) mk20_33 ?_ (hv := z20_2) (ha := z20_0)
 refine done_ (done_of HT_.out z20_4) ?_
 try go_wp2
 go_ret
 exact ⟨z20_6, z20_7⟩
end Go.Proofs.YtbanogkoaplcdaaGreat.QDa
