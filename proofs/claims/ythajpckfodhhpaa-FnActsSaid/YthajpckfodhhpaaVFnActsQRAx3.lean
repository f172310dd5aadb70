/- What the functions behind RA compute, and that the program's calls come to just that. Written by a program of this session on the base of the kit's print. No condition. -/
import Derived.Test.YthajpckfodhhpaaVFnActsShort
import Derived.Test.YthajpckfodhhpaaVFnActsQRAx0
import Derived.Test.YthajpckfodhhpaaVFnActsQRAx2
namespace Go.Proofs.Ythajpckfodhhpaa.QRA
open Go.RowKit Go.Proofs.Ythajpckfodhhpaa.Short Go.Proofs.YthajpckfodhhpaaW.PrintWords Go.Proofs.YthajpckfodhhpaaW.PrintLast Go.Proofs.YthajpckfodhhpaaW.PrintMore
attribute [local go_sem] max2_int min2_int max_two min_two max_three min_three max_four min_four   -- for this text's walks alone
set_option linter.unusedVariables false
set_option linter.unusedSimpArgs false
theorem z3_16 {P : Prop} (h : P := by (with_reducible repeat (first | refine blk_drewN ?_ _ | refine blk_drew ?_ | refine blk_alloc ?_ _)); exact BK131.out) : P := h
theorem z3_15 {P : Prop} (h : P := by (with_reducible repeat (first | refine blk_drewN ?_ _ | refine blk_drew ?_ | refine blk_alloc ?_ _)); exact BK136.out) : P := h
theorem z3_14 {P : Prop} (h : P := by repeat (first | exact Drawn0.refl _ | apply Drawn0.step)) : P := h
theorem z3_13 {P : Prop} (h : P := by (with_reducible repeat (first | apply Kd.R_alloc | apply Kd.R_drewN | apply Kd.R_drew)); exact HO_3.out) : P := h
theorem z3_12 {P : Prop} (h : P := by first | rfl | (simp; done) | (simp [*]; done)) : P := h
theorem z3_11 {P : Prop} (h : P := by first | (with_reducible assumption) | assumption) : P := h
theorem z3_10 {P : Prop} (h : P := by repeat (first | (with_reducible first | exact HK.out | apply KeepBut.set_ | apply keep_drewN | apply keep_drew | apply keep_alloc | refine keep_far ?_ GW136.out _) | exact HK.out)) : P := h
theorem z3_9 {P : Prop} (h : P := by kernel_rfl) : P := h
theorem z3_8 {P : Prop} (h : P := by repeat (first | (with_reducible first | exact HB.out | apply below_alloc | apply pw_below_drewN | apply below_drew1 | refine below_set ?_ GE131.out) | exact HB.out)) : P := h
theorem z3_7 {P : Prop} (h : P := by first | rfl | (simp [errW_none, errW_some] <;> rfl) | (simp [*, errW_none, errW_some] <;> rfl)) : P := h
theorem z3_6 {P : Prop} (h : P := by intro w'; go_simp; with_reducible rfl) : P := h
theorem z3_5 {P : Prop} (h : P := by repeat (first | (with_reducible first | exact HB.out | apply below_alloc | apply pw_below_drewN | apply below_drew1) | exact HB.out)) : P := h
theorem z3_4 {P : Prop} (h : P := by first | rfl | (simp only [List.map_toArray, List.map_cons, List.map_nil]; first | done | rfl)) : P := h
theorem z3_3 {P : Prop} (h : P := by repeat (first | (with_reducible first | exact HI0.out | apply IsS74.alloc | apply IsS74.drewN | apply IsS74.drew | apply IsS74.set_1 | apply IsS74.set_2) | exact HI0.out)) : P := h
theorem z3_2 {P : Prop} (h : P := by repeat (first | (with_reducible first | exact HB.out | apply below_alloc | apply pw_below_drewN | apply below_drew1 | refine below_set ?_ (IsS74.ge HI0.out)) | exact HB.out)) : P := h
theorem z3_1 {P : Prop} (h : P := by repeat (first | (with_reducible first | exact HK.out | apply KeepBut.set_ | apply keep_drewN | apply keep_drew | apply keep_alloc) | exact HK.out)) : P := h
theorem z3_0 {P : Prop} (h : P := by simp only [Act.put, List.setIfInBounds_toArray, List.set_cons_zero, List.set_cons_succ, i64_w, i32_w]; rfl) : P := h
abbrev mk3_0 : Array Bool := mb 17 0
abbrev mk3_1 : Array Bool := mb 17 1
abbrev mk3_2 : Array Bool := mb 17 3
abbrev mk3_3 : Array Bool := mb 17 7
abbrev mk3_4 : Array Bool := mb 17 15
abbrev mk3_5 : Array Bool := mb 17 31
abbrev mk3_6 : Array Bool := mb 17 63
abbrev mk3_7 : Array Bool := mb 17 127
abbrev mk3_8 : Array Bool := mb 17 255
abbrev mk3_9 : Array Bool := mb 17 767
abbrev mk3_10 : Array Bool := mb 17 1791
abbrev mk3_11 : Array Bool := mb 17 2047
abbrev mk3_12 : Array Bool := mb 17 4095
abbrev mk3_13 : Array Bool := mb 17 8191
abbrev mk3_14 : Array Bool := mb 17 16383
abbrev mk3_15 : Array Bool := mb 17 32767
abbrev mk3_16 : Array Bool := mb 17 65535
abbrev mk3_17 : Array Bool := mb 17 131071
abbrev mk3_18 : Array Bool := mb 17 511
abbrev mk3_19 : Array Bool := mb 17 1023
theorem z3_17 {P : Prop} (h : P := by repeat (first | exact (Kd.C_below HR0.out HB.out) | (with_reducible refine Kd.C_alloc ?_ _) | (with_reducible refine Kd.C_drewN ?_ _) | (with_reducible refine Kd.C_drew ?_))) : P := h
theorem z3_18 {P : Prop} (h : P := by repeat (first | (with_reducible first | exact HI0.out | apply IsS74.alloc | apply IsS74.drewN | apply IsS74.drew | apply IsS74.set_1 | apply IsS74.set_2 | refine IsS74.far ?_ NB0_136.out _) | exact HI0.out)) : P := h
theorem z3_19 {P : Prop} (h : P := by repeat (first | (with_reducible first | exact HB.out | apply below_alloc | apply pw_below_drewN | apply below_drew1 | refine below_set ?_ (IsS74.ge HI0.out) | refine below_set ?_ GE136.out) | exact HB.out)) : P := h
def spec_Knows.f (k : Nat) (l0 : List Int) (a1_0 : Int) (a1_1 : Int) : Option (Bool) := (spec_KnowOk.f k l0).bind fun t132 => (if t132 = true then ((spec_DotOk.f a1_0 a1_1).bind fun t133 => (if t133 = true then (if 0 ≤ a1_0 then (if a1_0 < (l0.length : Int) then (some (decide (a1_1 ≤ (rd l0 a1_0)))) else (none)) else (none)) else (some false))) else (some false))
def spec_Knows.T1 : Bool × List (List Nat × List Nat) := (true, [([], []), ([0], [0]), ([1, 1], [1]), ([2], [2]), ([3, 2, 2], [2, 3]), ([2, 4], [2, 4]), ([5, 4], [5]), ([6], [6]), ([7, 6], [6, 7]), ([6], [6]), ([6], [6]), ([10, 6], [6, 10]), ([9, 11, 6], [6, 9, 11]), ([12, 6], [6, 12]), ([8, 13, 6], [6, 8, 13]), ([6, 14], [6, 14]), ([15, 6, 0, 1, 2, 3, 4, 5, 6, 7, 8, 9, 10, 11, 12, 13, 14, 15], [15])])
def spec_Knows.B1 : List Nat := [0, 1, 3, 7, 15, 31, 63, 127, 255, 127, 127, 1151, 3711, 7807, 16383, 32767, 65535]
theorem spec_Knows.tab1 : rtab .any (opsOf Try.f45 1) = spec_Knows.T1 := by kernel_rfl
theorem spec_Knows.bits1 : waitsOk spec_Knows.T1.2 spec_Knows.B1 = true := by kernel_rfl
set_option maxHeartbeats 8000000 in
set_option maxRecDepth 100000 in
theorem spec_Knows.calls (k : Nat) (A0 : Option Addr) (c0 : Nat) (l0 : List Int) (a1_0 : Int) (a1_1 : Int) (r : Bool) (w : World) (hr0 : Kd.C (Kd.int .i64) w A0 l0.length l0) (hc0 : l0.length ≤ c0) (h : spec_Knows.f k l0 a1_0 a1_1 = some r) :
  Calls Try.prog 45 #[.slice A0 l0.length c0, .agg #[.int .i64 a1_0, .int .i64 a1_1]] w fun e w' => e = .returned (.bool r) ∧ Below w.heap.size w w' := by
 have hu28 := Try.underlying28
 have HR0 := Aside0.mk hr0
 have HC0 := Aside0.mk hc0
 clear hr0 hc0
 have HB := Aside0.mk (Below.refl w.heap.size w)
 have H := h
 unfold spec_Knows.f at H
 clear h
 replace H := Option.bind_eq_some_iff.mp H
 obtain ⟨t132, A30, H⟩ := H
 (try dsimp only at H)
 have A3 := Aside0.mk A30
 clear A30
 by_cases c4 : t132 = true
 rotate_left
 ·
  replace c4 := Bool.eq_false_iff.mpr c4
  subst c4
  rw [if_neg (show ¬ (false = true) by decide)] at H
  obtain rfl := Option.some.inj H
  go_enter Try.func45, Try.ntmps45
  try go_wp2_with (first | ((with_reducible refine gate_dst (N := 3) rfl ?_); refine box_event ?hg (N := 3) ?hd (cs := #[.int .i64 a1_0, .int .i64 a1_1]) (t := 28) ?hr ?_; (case hd => rfl); (case hg => rfl); (case hr => first | (go_simp; done) | (go_simp; rfl)); intro gb131 hg w15 hbox hb; have BK131 := Aside0.mk (hbox); have GW131 := gw_ w z3_5 hg; have GE131 := gw_ w z3_5 hg; replace HB := Aside0.mk (below_step z3_5 hb); clear hb hbox hg))
  replace BK131 := Aside0.mk (blk_drew BK131.out)
  replace HB := Aside0.mk (below_drew1 HB.out)
  refine start_ (n := 17) (S := fun w' => True) (ds := []) mk3_0 z3_9 rfl rfl trivial (fun hHeld => ?_); refine with_tabW spec_Knows.tab1 spec_Knows.bits1 (fun HT_ HW_ => ?_)
  generalize w15.drew = w16 at BK131 HB hHeld ⊢
  refine p_ (i := 0) (N := some 5) mk3_1 ?_ (hv := z3_6) (ha := z3_0)
  refine o_ (i := 1) (N := some 6) mk3_2 (fun K hK => ?_)
  refine goes_ Try.func42 z3_9 rfl #[.slice A0 l0.length c0] (by rfl) rfl rfl z3_4 ?_
  with_reducible refine (spec_KnowOk.calls k _ _ l0 false _ ?side1 ?side2 A3.out).mono ?_
  (case side1 => exact z3_17)
  (case side2 => exact HC0.out)
  rintro e w' ⟨rfl, ⟨nd, rfl⟩⟩
  refine ⟨_, rfl, ?_⟩
  refine hK.out _ _ trivial (fun hHeld => ?_)
  clear hK K
  refine n_ ?_
  refine p_ (i := 2) (N := some 7) mk3_3 ?_ (hv := z3_6) (ha := z3_0)
  refine u_ (i := 3) (N := some 8) mk3_4 ?_ (ha := z3_0)
  refine u_ (i := 4) (N := some 9) mk3_5 ?_ (ha := z3_0)
  refine p_ (i := 5) (N := some 10) mk3_6 ?_ (hv := z3_6) (ha := z3_0)
  refine p_ (i := 6) (N := some 11) mk3_7 ?_ (hv := z3_6) (ha := z3_0)
  refine u_ (i := 7) (N := some 12) mk3_8 ?_ (ha := z3_0)
  refine u_ (i := 8) (N := some 13) mk3_18 ?_ (ha := z3_0)
  refine u_ (i := 9) (N := some 14) mk3_19 ?_ (ha := z3_0)
  refine u_ (i := 10) (N := some 15) mk3_11 ?_ (ha := z3_0)
  refine u_ (i := 11) (N := some 16) mk3_12 ?_ (ha := z3_0)
  refine u_ (i := 12) (N := some 17) mk3_13 ?_ (ha := z3_0)
  refine u_ (i := 13) (N := some 18) mk3_14 ?_ (ha := z3_0)
  refine u_ (i := 14) (N := some 19) mk3_15 ?_ (ha := z3_0)
  refine p_ (i := 15) (N := some 20) mk3_16 ?_ (hv := z3_6) (ha := z3_0)
  refine p_ (i := 16) (N := some 4) mk3_17 ?_ (hv := z3_6) (ha := z3_0)
  refine done_ (done_of HT_.out z3_9) ?_
  try go_wp2
  go_ret
  exact ⟨z3_7, z3_8⟩
 subst c4
 rw [if_pos rfl] at H
 replace H := Option.bind_eq_some_iff.mp H
 obtain ⟨t133, A50, H⟩ := H
 (try dsimp only at H)
 have A5 := Aside0.mk A50
 clear A50
 by_cases c6 : t133 = true
 rotate_left
 ·
  replace c6 := Bool.eq_false_iff.mpr c6
  subst c6
  rw [if_neg (show ¬ (false = true) by decide)] at H
  obtain rfl := Option.some.inj H
  go_enter Try.func45, Try.ntmps45
  try go_wp2_with (first | ((with_reducible refine gate_dst (N := 3) rfl ?_); refine box_event ?hg (N := 3) ?hd (cs := #[.int .i64 a1_0, .int .i64 a1_1]) (t := 28) ?hr ?_; (case hd => rfl); (case hg => rfl); (case hr => first | (go_simp; done) | (go_simp; rfl)); intro gb131 hg w12 hbox hb; have BK131 := Aside0.mk (hbox); have GW131 := gw_ w z3_5 hg; have GE131 := gw_ w z3_5 hg; replace HB := Aside0.mk (below_step z3_5 hb); clear hb hbox hg))
  replace BK131 := Aside0.mk (blk_drew BK131.out)
  replace HB := Aside0.mk (below_drew1 HB.out)
  refine start_ (n := 17) (S := fun w' => w'.cell? ⟨gb131, 0, none⟩ = some (.int .i64 a1_0) ∧ w'.cell? ⟨gb131, 1, none⟩ = some (.int .i64 a1_1)) (ds := []) mk3_0 z3_9 rfl rfl (ln2 BK131) (fun hHeld => ?_); refine with_tabW spec_Knows.tab1 spec_Knows.bits1 (fun HT_ HW_ => ?_)
  generalize w12.drew = w13 at BK131 HB hHeld ⊢
  refine p_ (i := 0) (N := some 5) mk3_1 ?_ (hv := z3_6) (ha := z3_0)
  refine o_ (i := 1) (N := some 6) mk3_2 (fun K hK => ?_)
  refine goes_ Try.func42 z3_9 rfl #[.slice A0 l0.length c0] (by rfl) rfl rfl z3_4 ?_
  with_reducible refine (spec_KnowOk.calls k _ _ l0 true _ ?side1 ?side2 A3.out).mono ?_
  (case side1 => exact z3_17)
  (case side2 => exact HC0.out)
  rintro e w' ⟨rfl, ⟨nd, rfl⟩⟩
  refine ⟨_, rfl, ?_⟩
  refine hK.out _ _ (ln2 BK131) (fun hHeld => ?_)
  clear hK K
  refine n_ ?_
  refine p_ (i := 2) (N := some 7) mk3_3 ?_ (hv := z3_6) (ha := z3_0)
  refine t_ (i := 3) (N := some 8) mk3_4 hHeld ?_ (ha := z3_0)
  refine o_ (i := 4) (N := some 9) mk3_5 (fun K hK => ?_)
  refine goes_ Try.func41 z3_9 rfl #[.agg #[.int .i64 a1_0, .int .i64 a1_1]] (by rfl) rfl rfl z3_4 ?_
  with_reducible refine (spec_DotOk.calls a1_0 a1_1 false _ A5.out).mono ?_
  rintro e w14 ⟨rfl, hb⟩
  refine ⟨_, rfl, ?_⟩
  replace BK131 := bb_ BK131 z3_16 hb
  replace HB := Aside0.mk (below_step z3_8 hb)
  (try clear hb)
  (try clear hb2)
  (try clear hk)
  (try clear hi)
  refine hK.out _ _ (ln2 BK131) (fun hHeld => ?_)
  clear hK K
  refine n_ ?_
  refine p_ (i := 5) (N := some 10) mk3_6 ?_ (hv := z3_6) (ha := z3_0)
  refine p_ (i := 6) (N := some 11) mk3_7 ?_ (hv := z3_6) (ha := z3_0)
  refine u_ (i := 7) (N := some 12) mk3_8 ?_ (ha := z3_0)
  refine u_ (i := 8) (N := some 13) mk3_18 ?_ (ha := z3_0)
  refine u_ (i := 9) (N := some 14) mk3_19 ?_ (ha := z3_0)
  refine u_ (i := 10) (N := some 15) mk3_11 ?_ (ha := z3_0)
  refine u_ (i := 11) (N := some 16) mk3_12 ?_ (ha := z3_0)
  refine u_ (i := 12) (N := some 17) mk3_13 ?_ (ha := z3_0)
  refine u_ (i := 13) (N := some 18) mk3_14 ?_ (ha := z3_0)
  refine u_ (i := 14) (N := some 19) mk3_15 ?_ (ha := z3_0)
  refine p_ (i := 15) (N := some 20) mk3_16 ?_ (hv := z3_6) (ha := z3_0)
  refine p_ (i := 16) (N := some 4) mk3_17 ?_ (hv := z3_6) (ha := z3_0)
  refine done_ (done_of HT_.out z3_9) ?_
  try go_wp2
  go_ret
  exact ⟨z3_7, z3_8⟩
 subst c6
 rw [if_pos rfl] at H
 by_cases c7 : 0 ≤ a1_0
 rotate_left
 ·
  rw [if_neg c7] at H
  exact absurd H (by simp)
 rw [if_pos c7] at H
 have c7b0 : decide (0 ≤ a1_0) = true := decide_eq_true c7
 clear c7
 by_cases c8 : a1_0 < (l0.length : Int)
 rotate_left
 ·
  rw [if_neg c8] at H
  exact absurd H (by simp)
 rw [if_pos c8] at H
 have c8b0 : decide (a1_0 < (l0.length : Int)) = true := decide_eq_true c8
 clear c8
 obtain rfl := Option.some.inj H
 go_enter Try.func45, Try.ntmps45
 try go_wp2_with (first | ((with_reducible refine gate_dst (N := 3) rfl ?_); refine box_event ?hg (N := 3) ?hd (cs := #[.int .i64 a1_0, .int .i64 a1_1]) (t := 28) ?hr ?_; (case hd => rfl); (case hg => rfl); (case hr => first | (go_simp; done) | (go_simp; rfl)); intro gb131 hg w9 hbox hb; have BK131 := Aside0.mk (hbox); have GW131 := gw_ w z3_5 hg; have GE131 := gw_ w z3_5 hg; replace HB := Aside0.mk (below_step z3_5 hb); clear hb hbox hg))
 replace BK131 := Aside0.mk (blk_drew BK131.out)
 replace HB := Aside0.mk (below_drew1 HB.out)
 have p134 : 0 ≤ (a1_0 : Int) := of_decide_eq_true z3_11
 have q134 : a1_0 < (l0.length : Int) := of_decide_eq_true z3_11
 obtain ⟨ad134, e134, hx134_0⟩ := Kd.at_int HR0.out a1_0 p134 q134
 have hw134_0 := hx134_0
 cases e134
 replace hx134_0 := cb_ HB hx134_0
 replace p134 := eq_true p134
 replace q134 := eq_true q134
 refine start_ (n := 17) (S := fun w' => w'.cell? ⟨gb131, 0, none⟩ = some (.int .i64 a1_0) ∧ w'.cell? ⟨gb131, 1, none⟩ = some (.int .i64 a1_1) ∧ w'.cell? (ad134.add (a1_0).toNat) = some (.int .i64 (rd l0 a1_0))) (ds := []) mk3_0 z3_9 rfl rfl (jn2 BK131 (cb_ HB hw134_0)) (fun hHeld => ?_); refine with_tabW spec_Knows.tab1 spec_Knows.bits1 (fun HT_ HW_ => ?_)
 generalize w9.drew = w10 at BK131 HB hx134_0 hHeld ⊢
 refine p_ (i := 0) (N := some 5) mk3_1 ?_ (hv := z3_6) (ha := z3_0)
 refine o_ (i := 1) (N := some 6) mk3_2 (fun K hK => ?_)
 refine goes_ Try.func42 z3_9 rfl #[.slice (some ad134) l0.length c0] (by rfl) rfl rfl z3_4 ?_
 with_reducible refine (spec_KnowOk.calls k _ _ l0 true _ ?side1 ?side2 A3.out).mono ?_
 (case side1 => exact z3_17)
 (case side2 => exact HC0.out)
 rintro e w' ⟨rfl, ⟨nd, rfl⟩⟩
 refine ⟨_, rfl, ?_⟩
 refine hK.out _ _ (jn2 BK131 (cb_ HB hw134_0)) (fun hHeld => ?_)
 clear hK K
 refine n_ ?_
 refine p_ (i := 2) (N := some 7) mk3_3 ?_ (hv := z3_6) (ha := z3_0)
 refine t_ (i := 3) (N := some 8) mk3_4 hHeld ?_ (ha := z3_0)
 refine o_ (i := 4) (N := some 9) mk3_5 (fun K hK => ?_)
 refine goes_ Try.func41 z3_9 rfl #[.agg #[.int .i64 a1_0, .int .i64 a1_1]] (by rfl) rfl rfl z3_4 ?_
 with_reducible refine (spec_DotOk.calls a1_0 a1_1 true _ A5.out).mono ?_
 rintro e w11 ⟨rfl, hb⟩
 refine ⟨_, rfl, ?_⟩
 replace BK131 := bb_ BK131 z3_16 hb
 replace HB := Aside0.mk (below_step z3_8 hb)
 (try clear hb)
 (try clear hb2)
 (try clear hk)
 (try clear hi)
 refine hK.out _ _ (jn2 BK131 (cb_ HB hw134_0)) (fun hHeld => ?_)
 clear hK K
 refine n_ ?_
 refine p_ (i := 5) (N := some 10) mk3_6 ?_ (hv := z3_6) (ha := z3_0)
 refine p_ (i := 6) (N := some 11) mk3_7 ?_ (hv := z3_6) (ha := z3_0)
 refine p_ (i := 7) (N := some 12) mk3_8 ?_ (hv := z3_6) (ha := z3_0)
 refine p_ (i := 9) (N := some 14) mk3_9 ?_ (hv := z3_6) (ha := z3_0)
 refine p_ (i := 10) (N := some 15) mk3_10 ?_ (hv := z3_6) (ha := z3_0)
 refine t_ (i := 8) (N := some 13) mk3_11 hHeld ?_ (ha := z3_0)
 refine t_ (i := 11) (N := some 16) mk3_12 hHeld ?_ (ha := z3_0)
 refine p_ (i := 12) (N := some 17) mk3_13 ?_ (hv := z3_6) (ha := z3_0)
 refine t_ (i := 13) (N := some 18) mk3_14 hHeld ?_ (ha := z3_0)
 refine p_ (i := 14) (N := some 19) mk3_15 ?_ (hv := z3_6) (ha := z3_0)
 refine p_ (i := 15) (N := some 20) mk3_16 ?_ (hv := z3_6) (ha := z3_0)
 refine p_ (i := 16) (N := some 4) mk3_17 ?_ (hv := z3_6) (ha := z3_0)
 refine done_ (done_of HT_.out z3_9) ?_
 try go_wp2
 go_ret
 exact ⟨z3_7, z3_8⟩
def spec_l05Keyed.f (a0 : Int) : Option (Bool) := (spec_l01In.f a0 2 5).bind fun t135 => (some t135)
set_option maxHeartbeats 8000000 in
set_option maxRecDepth 100000 in
theorem spec_l05Keyed.calls (a0 : Int) (r : Bool) (w : World) (h : spec_l05Keyed.f a0 = some r) :
  Calls Try.prog 69 #[.int .i64 a0] w fun e w' => e = .returned (.bool r) ∧ Drawn0 w w' := by
 have H := h
 unfold spec_l05Keyed.f at H
 clear h
 replace H := Option.bind_eq_some_iff.mp H
 obtain ⟨t135, A20, H⟩ := H
 (try dsimp only at H)
 have A2 := Aside0.mk A20
 clear A20
 obtain rfl := Option.some.inj H
 go_enter Try.func69, Try.ntmps69
 go_wp2_with (first | ((with_reducible refine gate_callee (f := 43) rfl ?_); refine goesL_ (some 4) rfl rfl Try.func43 z3_9 rfl #[.int .i64 a0, .int .i64 2, .int .i64 5] rfl z3_4 ?_; (with_reducible refine (spec_l01In.calls a0 2 5 t135 _ A2.out).mono ?_); rintro e w' ⟨rfl, ⟨nd, rfl⟩⟩; refine ⟨_, rfl, ?_⟩))
 go_ret
 exact ⟨z3_12, z3_14⟩
def spec_l05Valued.f (a0 : Int) : Option (Bool) := if a0 = 1 then (some true) else (if a0 = 4 then (some true) else (some (a0 == 6)))
set_option maxHeartbeats 8000000 in
set_option maxRecDepth 100000 in
theorem spec_l05Valued.calls (a0 : Int) (r : Bool) (w : World) (h : spec_l05Valued.f a0 = some r) :
  Calls Try.prog 70 #[.int .i64 a0] w fun e w' => e = .returned (.bool r) ∧ Drawn0 w w' := by
 have H : (if a0 = 1 then (some true) else (if a0 = 4 then (some true) else (some (a0 == 6)))) = some r := h
 clear h
 by_cases c2 : a0 = 1
 ·
  rw [if_pos c2] at H
  have c2b0 : (a0 == 1) = true := beq_iff_eq.mpr c2
  have c2b1 : (a0 != 1) = false := bne_eq_false_iff_eq.mpr c2
  clear c2
  obtain rfl := Option.some.inj H
  go_enter Try.func70, Try.ntmps70
  go_wp2
  go_ret
  exact ⟨z3_12, z3_14⟩
 rw [if_neg c2] at H
 have c2b0 : (a0 == 1) = false := beq_eq_false_iff_ne.mpr c2
 have c2b1 : (a0 != 1) = true := bne_iff_ne.mpr c2
 by_cases c3 : a0 = 4
 rotate_left
 ·
  rw [if_neg c3] at H
  have c3b0 : (a0 == 4) = false := beq_eq_false_iff_ne.mpr c3
  have c3b1 : (a0 != 4) = true := bne_iff_ne.mpr c3
  obtain rfl := Option.some.inj H
  go_enter Try.func70, Try.ntmps70
  go_wp2
  go_ret
  exact ⟨z3_12, z3_14⟩
 rw [if_pos c3] at H
 have c3b0 : (a0 == 4) = true := beq_iff_eq.mpr c3
 have c3b1 : (a0 != 4) = false := bne_eq_false_iff_eq.mpr c3
 clear c3
 obtain rfl := Option.some.inj H
 go_enter Try.func70, Try.ntmps70
 go_wp2
 go_ret
 exact ⟨z3_12, z3_14⟩
def spec_l04Dot.f (s0_0 : List Int) (s0_1 : Int) (s0_2 : Int) : Option (Int × Int × Int × Int) := (spec_l01Below.f s0_0 s0_1 s0_2 3).bind fun bt137 => ((spec_l01Below.f s0_0 bt137.2.1 bt137.2.2 5).bind fun bt140 => (some (bt137.1, wrap64 (1 + bt140.1), bt140.2.1, bt140.2.2)))
set_option maxHeartbeats 8000000 in
set_option maxRecDepth 100000 in
theorem spec_l04Dot.calls (g : Nat) (s0_0 : List Int) (s0_1 : Int) (s0_2 : Int) (r1 : Int) (r2 : Int) (r3 : Int) (r4 : Int) (w0 w : World) (hI : IsS74 w0 w g s0_0 s0_1 s0_2) (hB : Below w0.heap.size w0 w) (h : spec_l04Dot.f s0_0 s0_1 s0_2 = some (r1, r2, r3, r4)) :
  Calls Try.prog 74 #[.pointer (some ⟨g, 0, none⟩)] w fun e w' => e = .returned (.agg #[.int .i64 r1, .int .i64 r2]) ∧ IsS74 w0 w' g s0_0 r3 r4 ∧ Below w0.heap.size w0 w' ∧ KeepBut w w' g none := by
 have hu28 := Try.underlying28
 have HI0 := Aside0.mk hI
 have HK := Aside0.mk (KeepBut.refl w g none)
 have HL := Aside0.mk hB.size
 clear hI
 have HW0 := Aside0.mk hB.size
 have HB := Aside0.mk hB
 clear hB
 have H := h
 unfold spec_l04Dot.f at H
 clear h
 replace H := Option.bind_eq_some_iff.mp H
 obtain ⟨⟨t137, t138, t139⟩, A20, H⟩ := H
 (try dsimp only at H)
 have A2 := Aside0.mk A20
 clear A20
 replace H := Option.bind_eq_some_iff.mp H
 obtain ⟨⟨t140, t141, t142⟩, A30, H⟩ := H
 (try dsimp only at H)
 have A3 := Aside0.mk A30
 clear A30
 simp only [Option.some.injEq, Prod.mk.injEq] at H
 obtain ⟨rfl, rfl, rfl, rfl⟩ := H
 go_enter Try.func74, Try.ntmps74
 go_wp2_with (first | ((with_reducible refine gate_dst (N := 2) rfl ?_); refine box_event ?hg (N := 2) ?hd (cs := #[.int .i64 0, .int .i64 0]) (t := 28) ?hr ?_; (case hd => rfl); (case hg => rfl); (case hr => first | (go_simp; done) | (go_simp; rfl)); intro gb136 hg w4 hbox hb; replace HB := Aside0.mk (below_step z3_2 hb); have BK136 := Aside0.mk (hbox); have GW136 := Aside0.mk ((by rw [hg]; exact (keep_size (w := w) (g := g) (row := none) z3_1) : w.heap.size ≤ gb136)); have GE136 := Aside0.mk ((Nat.le_trans HW0.out (by rw [hg]; exact (keep_size (w := w) (g := g) (row := none) z3_1) : w.heap.size ≤ gb136) : w0.heap.size ≤ gb136)); replace HK := Aside0.mk (KeepBut.trans z3_1 (KeepBut.of_below hb g none) (.inl rfl)); have NB0_136 := Aside0.mk ((by rw [hg]; exact Nat.ne_of_lt (IsS74.lt (show IsS74 w0 _ g s0_0 s0_1 s0_2 from by repeat (first | (with_reducible first | exact HI0.out | apply IsS74.alloc | apply IsS74.drewN | apply IsS74.drew | apply IsS74.set_1 | apply IsS74.set_2) | exact HI0.out))) : g ≠ gb136)); have NB136_0 := Aside0.mk ((by rw [hg]; exact Nat.ne_of_gt (IsS74.lt (show IsS74 w0 _ g s0_0 s0_1 s0_2 from by repeat (first | (with_reducible first | exact HI0.out | apply IsS74.alloc | apply IsS74.drewN | apply IsS74.drew | apply IsS74.set_1 | apply IsS74.set_2) | exact HI0.out))) : gb136 ≠ g)); replace HI0 := Aside0.mk (IsS74.below z3_3 hb); clear hb hbox hg) | ((with_reducible refine gate_callee (f := 34) rfl ?_); refine goesL_ (some 4) rfl rfl Try.func34 z3_9 rfl #[.pointer (some ⟨g, 0, none⟩), .int .i64 3] rfl z3_4 ?_; (with_reducible refine (spec_l01Below.calls g s0_0 s0_1 s0_2 3 t137 t138 t139 w0 _ ?side1 ?side2 A2.out).mono ?_); (case side1 => exact z3_18); (case side2 => exact z3_19); rintro e w5 ⟨rfl, hi, hb, hk⟩; refine ⟨_, rfl, ?_⟩; replace BK136 := kb_ BK136 hk z3_15 NB136_0; replace HK := Aside0.mk (KeepBut.trans z3_10 hk (.inl rfl)); replace HB := Aside0.mk (hb); replace HI0 := Aside0.mk (hi)) | ((with_reducible refine gate_callee (f := 34) rfl ?_); refine goesL_ (some 6) rfl rfl Try.func34 z3_9 rfl #[.pointer (some ⟨g, 0, none⟩), .int .i64 5] rfl z3_4 ?_; (with_reducible refine (spec_l01Below.calls g s0_0 t138 t139 5 t140 t141 t142 w0 _ ?side1 ?side2 A3.out).mono ?_); (case side1 => exact z3_18); (case side2 => exact z3_19); rintro e w6 ⟨rfl, hi, hb, hk⟩; refine ⟨_, rfl, ?_⟩; replace BK136 := kb_ BK136 hk z3_15 NB136_0; replace HK := Aside0.mk (KeepBut.trans z3_10 hk (.inl rfl)); replace HB := Aside0.mk (hb); replace HI0 := Aside0.mk (hi); have hnb7 := NB136_0.out; have hnc7 := NB0_136.out; have hcz8 := bc2 BK136.out))
 refine bodyPost_ret (results_cell_row rfl _ _ gb136 28 #[.int .i64 t137, .int .i64 (wrap64 (1 + t140))] (0, 0) _ rfl (by (with_reducible repeat (first | apply bpa2 | refine blk_drewN ?_ _ | refine blk_drew ?_ | refine blk_alloc ?_ _)); exact BK136.out) Try.underlying28 rfl z3_9) rfl ?_
 exact ⟨z3_7, by repeat (first | (with_reducible first | exact HI0.out | apply IsS74.alloc | apply IsS74.drewN | apply IsS74.drew | apply IsS74.set_1 | apply IsS74.set_2 | refine IsS74.far ?_ NB0_136.out _) | exact HI0.out), by repeat (first | (with_reducible first | exact HB.out | apply below_alloc | apply pw_below_drewN | apply below_drew1 | refine below_set ?_ (IsS74.ge HI0.out) | refine below_set ?_ GE136.out) | exact HB.out), z3_10⟩
def spec_l04Know.l0 : Nat → List Int → Int → List Int → Int → Int → Option (List Int × Int × Int)
  | 0, _, _, _, _, _ => none
  | k + 1, x3, x4, x1000, x1001, x1002 => if x4 < 3 then ((spec_l01Below.f x1000 x1001 x1002 5).bind fun bt146 => (if x3.length < 17592186044416 then (spec_l04Know.l0 k (x3 ++ [bt146.1]) (wrap64 (x4 + 1)) x1000 bt146.2.1 bt146.2.2) else (none))) else (some (x3, x1001, x1002))
def spec_l04Know.f (k : Nat) (s0_0 : List Int) (s0_1 : Int) (s0_2 : Int) : Option (List Int × Int × Int) := spec_l04Know.l0 k (([] : List Int)) 0 s0_0 s0_1 s0_2
set_option maxHeartbeats 8000000 in
set_option maxRecDepth 100000 in
theorem spec_l04Know.calls (k : Nat) (g : Nat) (s0_0 : List Int) (s0_1 : Int) (s0_2 : Int) (r1 : List Int) (r2 : Int) (r3 : Int) (w0 w : World) (hI : IsS74 w0 w g s0_0 s0_1 s0_2) (hB : Below w0.heap.size w0 w) (h : spec_l04Know.f k s0_0 s0_1 s0_2 = some (r1, r2, r3)) :
  Calls Try.prog 75 #[.pointer (some ⟨g, 0, none⟩)] w fun e w' => ∃ v0_ : Value, e = .returned (v0_) ∧ Kd.R (Kd.int .i64) 3 w' w.heap.size (fun _ => True) v0_ r1 ∧ IsS74 w0 w' g s0_0 r2 r3 ∧ Below w0.heap.size w0 w' ∧ KeepBut w w' g none := by
 have HI0 := Aside0.mk hI
 have HK := Aside0.mk (KeepBut.refl w g none)
 have HL := Aside0.mk hB.size
 clear hI
 have HW0 := Aside0.mk hB.size
 have HB := Aside0.mk hB
 clear hB
 have H := h
 unfold spec_l04Know.f at H
 clear h
 obtain ⟨y143, hy143⟩ : ∃ y_ : List Int, y_ = (([] : List Int)) := ⟨_, rfl⟩
 replace H : (spec_l04Know.l0 k y143 0 s0_0 s0_1 s0_2) = some (r1, r2, r3) := by first | (rw [hy143]; with_reducible exact H) | (have H2_ := (Option.bind_some _ _).symm.trans H; rw [hy143]; with_reducible exact H2_) | (have H2_ := (Option.bind_some _ _).symm.trans H; with_reducible exact H2_) | with_reducible exact H | (rw [hy143]; exact H) | exact H
 have Ny143 := Aside0.mk hy143
 clear hy143
 have H' := Aside0.mk H
 clear H
 go_enter Try.func75, Try.ntmps75
 go_wp2_with (first | ((with_reducible refine gate_dst (N := 5) rfl ?_); refine Kd.R_lit (Kd.int .i64) _ 3 ?hg (N := 5) ?hd (xs := ([] : List Int)) (inner := []) (ok := fun _ => True) (okp := fun _ => True) ?hr ?hp (fun _ hk => hk) trivial (Below.refl _ _) (Nat.le_refl _) (by simp) ?_; (case hd => rfl); (case hg => rfl); (case hr => first | (go_simp; done) | (go_simp; rfl)); (case hp => exact (Reps.none _ _)); intro v144 w2 ho3 hb hg_ hnew_; clear hg_ hnew_; (first | rw [← Ny143.out] at ho3 | (simp only [Int.reduceToNat] at ho3; rw [← Ny143.out] at ho3)); have HO145 := Aside0.mk (Kd.R_lower ho3 (keep_size (w := w) (g := g) (row := none) z3_1)); replace HK := Aside0.mk (KeepBut.trans z3_1 (KeepBut.of_below hb g none) (.inl rfl)); replace HB := Aside0.mk (below_step z3_2 hb); replace HI0 := Aside0.mk (IsS74.below z3_3 hb); clear hb ho3))
 go_loopg [3, 4] k (fun kq v3 v4 w' => ∃ (x3_1 : List Int) (x4_1 : Int) (x1001_1 : Int) (x1002_1 : Int), v4 = .int .i64 x4_1 ∧ Aside0 (spec_l04Know.l0 kq x3_1 x4_1 s0_0 x1001_1 x1002_1 = some (r1, r2, r3)) ∧ Aside0 (kq ≤ k) ∧ Aside0 (Kd.R (Kd.int .i64) 3 w' w.heap.size (fun _ => True) v3 x3_1) ∧ Aside0 (IsS74 w0 w' g s0_0 x1001_1 x1002_1) ∧ Aside0 (KeepBut w w' g none) ∧ Aside0 (Below w0.heap.size w0 w'))
 case atStart => exact ⟨(y143), (0), (s0_1), (s0_2), z3_12, H', ⟨Nat.le_refl _⟩, ⟨by (with_reducible repeat (first | apply Kd.R_alloc | apply Kd.R_drewN | apply Kd.R_drew)); exact HO145.out⟩, ⟨z3_3⟩, ⟨z3_1⟩, ⟨z3_2⟩⟩
 case round =>
  clear H'
  try clear p2
  obtain ⟨x3_1, x4_1, x1001_1, x1002_1, rfl, HA, HK1, HO_3, HI0, HK, HB⟩ := hrel
  cases gk with
  | zero => exact absurd HA.out (by simp [spec_l04Know.l0])
  | succ k1 =>
   have H := HA.out
   clear HA
   simp only [spec_l04Know.l0] at H
   by_cases c4 : x4_1 < 3
   rotate_left
   ·
    rw [if_neg c4] at H
    have c4b0 : decide (x4_1 < 3) = false := decide_eq_false c4
    clear c4
    simp only [Option.some.injEq, Prod.mk.injEq] at H
    obtain ⟨rfl, rfl, rfl⟩ := H
    go_wp2
    go_ret
    exact ⟨_, z3_7, z3_13, z3_3, z3_2, z3_1⟩
   rw [if_pos c4] at H
   have c4b0 : decide (x4_1 < 3) = true := decide_eq_true c4
   clear c4
   replace H := Option.bind_eq_some_iff.mp H
   obtain ⟨⟨t146, t147, t148⟩, A50, H⟩ := H
   (try dsimp only at H)
   have A5 := Aside0.mk A50
   clear A50
   by_cases c6 : x3_1.length < 17592186044416
   rotate_left
   ·
    rw [if_neg c6] at H
    exact absurd H (by simp)
   rw [if_pos c6] at H
   have LMc6 := Aside0.mk c6
   clear c6
   obtain ⟨y149, hy149⟩ : ∃ y_ : List Int, y_ = (x3_1 ++ [t146]) := ⟨_, rfl⟩
   replace H : (spec_l04Know.l0 k1 y149 (wrap64 (x4_1 + 1)) s0_0 t147 t148) = some (r1, r2, r3) := by first | (rw [hy149]; with_reducible exact H) | (have H2_ := (Option.bind_some _ _).symm.trans H; rw [hy149]; with_reducible exact H2_) | (have H2_ := (Option.bind_some _ _).symm.trans H; with_reducible exact H2_) | with_reducible exact H | (rw [hy149]; exact H) | exact H
   have Ny149 := Aside0.mk hy149
   clear hy149
   have H' := Aside0.mk H
   clear H
   go_wp2_with (first | ((with_reducible refine gate_callee (f := 34) rfl ?_); refine goesL_ (some 12) rfl rfl Try.func34 z3_9 rfl #[.pointer (some ⟨g, 0, none⟩), .int .i64 5] rfl z3_4 ?_; (with_reducible refine (spec_l01Below.calls g s0_0 x1001_1 x1002_1 5 t146 t147 t148 w0 _ ?side1 ?side2 A5.out).mono ?_); (case side1 => exact z3_3); (case side2 => exact z3_2); rintro e w7 ⟨rfl, hi, hb, hk⟩; refine ⟨_, rfl, ?_⟩; replace HO_3 := Aside0.mk (Kd.R_mono (Kd.R_keep (IsS74.apart (show IsS74 w0 _ g s0_0 x1001_1 x1002_1 from by repeat (first | (with_reducible first | exact HI0.out | apply IsS74.alloc | apply IsS74.drewN | apply IsS74.drew | apply IsS74.set_1 | apply IsS74.set_2) | exact HI0.out)) z3_13 (by decide)) hk (fun _ h => h.2)) (fun _ h => h.1)); replace HK := Aside0.mk (KeepBut.trans z3_1 hk (.inl rfl)); replace HB := Aside0.mk (hb); replace HI0 := Aside0.mk (hi)) | ((with_reducible refine gate_builtin (b := .append) (xs := #[.tmp 10, .tmp 13]) rfl ?_); at_builtin; refine Kd.R_append (Kd.int .i64) w.heap.size rfl (.tmp 10) (.tmp 13) 29 3 (.int .i64 0) 8 rfl Try.underlying29 info3 rfl (by decide) (by omega) u3 x3_1 t146 [.int .i64 t146] (fun _ => True) (fun _ => False) rfl rfl ?aP (fun _ hk => hk.elim) ?aF ?aO (Below.refl _ _) ?aS ?aL ?_; (case aP => exact rfl); (case aF => exact (fun _ _ => trivial)); (case aO => exact z3_13); (case aS => exact (keep_size (w := w) (g := g) (row := none) z3_1)); (case aL => have := LMc6.out; omega); intro v150 w8 ho hb hg hat; rw [← Ny149.out] at ho; replace HB := Aside0.mk (below_weaken z3_2 HL.out hb); replace HI0 := Aside0.mk (IsS74.grown z3_3 hg (IsS74.own_ne HI0.out HO_3.out (by decide))); replace HK := Aside0.mk (KeepBut.trans z3_1 (KeepBut.of_grown hg g) (Kd.R_base2 HO_3.out)); have HO151 := Aside0.mk (ho); clear HO_3; clear ho hb hg hat))
   go_roundg k1
   case measure => have := HK1.out; omega
   case rel => exact ⟨(y149), (wrap64 (x4_1 + 1)), (t147), (t148), z3_12, H', ⟨by have := HK1.out; omega⟩, ⟨by (with_reducible repeat (first | apply Kd.R_alloc | apply Kd.R_drewN | apply Kd.R_drew)); exact HO151.out⟩, ⟨z3_3⟩, ⟨z3_1⟩, ⟨z3_2⟩⟩
def spec_l01Pick.f (s0_0 : List Int) (s0_1 : Int) (s0_2 : Int) (l1 : List ByteArray) : Option (ByteArray × Int × Int) := (spec_l01Below.f s0_0 s0_1 s0_2 (l1.length : Int)).bind fun bt152 => (if 0 ≤ bt152.1 then (if bt152.1 < (l1.length : Int) then (some (rdOf ByteArray.empty l1 bt152.1, bt152.2.1, bt152.2.2)) else (none)) else (none))
set_option maxHeartbeats 8000000 in
set_option maxRecDepth 100000 in
theorem spec_l01Pick.calls (g : Nat) (s0_0 : List Int) (s0_1 : Int) (s0_2 : Int) (A1 : Option Addr) (c1 : Nat) (l1 : List ByteArray) (r1 : ByteArray) (r2 : Int) (r3 : Int) (w0 w : World) (hI : IsS74 w0 w g s0_0 s0_1 s0_2) (hB : Below w0.heap.size w0 w) (hr1 : Kd.C Kd.string w A1 l1.length l1) (hc1 : l1.length ≤ c1) (hf1 : ∀ ad, A1 = some ad → 0 < l1.length → ad.block ≠ g) (h : spec_l01Pick.f s0_0 s0_1 s0_2 l1 = some (r1, r2, r3)) :
  Calls Try.prog 40 #[.pointer (some ⟨g, 0, none⟩), .slice A1 l1.length c1] w fun e w' => e = .returned (.string r1) ∧ IsS74 w0 w' g s0_0 r2 r3 ∧ Below w0.heap.size w0 w' ∧ KeepBut w w' g none := by
 have HR1 := Aside0.mk hr1
 have HC1 := Aside0.mk hc1
 clear hr1 hc1
 have HI0 := Aside0.mk hI
 have HK := Aside0.mk (KeepBut.refl w g none)
 have HL := Aside0.mk hB.size
 clear hI
 have HW0 := Aside0.mk hB.size
 have HB := Aside0.mk hB
 clear hB
 have H := h
 unfold spec_l01Pick.f at H
 clear h
 replace H := Option.bind_eq_some_iff.mp H
 obtain ⟨⟨t152, t153, t154⟩, A30, H⟩ := H
 (try dsimp only at H)
 have A3 := Aside0.mk A30
 clear A30
 by_cases c4 : 0 ≤ t152
 rotate_left
 ·
  rw [if_neg c4] at H
  exact absurd H (by simp)
 rw [if_pos c4] at H
 have c4b0 : decide (0 ≤ t152) = true := decide_eq_true c4
 clear c4
 by_cases c5 : t152 < (l1.length : Int)
 rotate_left
 ·
  rw [if_neg c5] at H
  exact absurd H (by simp)
 rw [if_pos c5] at H
 have c5b0 : decide (t152 < (l1.length : Int)) = true := decide_eq_true c5
 clear c5
 simp only [Option.some.injEq, Prod.mk.injEq] at H
 obtain ⟨rfl, rfl, rfl⟩ := H
 go_enter Try.func40, Try.ntmps40
 go_wp2_with (first | ((with_reducible refine gate_callee (f := 34) rfl ?_); refine goesL_ (some 9) rfl rfl Try.func34 z3_9 rfl #[.pointer (some ⟨g, 0, none⟩), .int .i64 (l1.length : Int)] rfl z3_4 ?_; (with_reducible refine (spec_l01Below.calls g s0_0 s0_1 s0_2 (l1.length : Int) t152 t153 t154 w0 _ ?side1 ?side2 A3.out).mono ?_); (case side1 => exact z3_3); (case side2 => exact z3_2); rintro e w6 ⟨rfl, hi, hb, hk⟩; refine ⟨_, rfl, ?_⟩; replace HK := Aside0.mk (KeepBut.trans z3_1 hk (.inl rfl)); replace HB := Aside0.mk (hb); replace HI0 := Aside0.mk (hi); have p155 : 0 ≤ (t152 : Int) := of_decide_eq_true z3_11; have q155 : t152 < (l1.length : Int) := of_decide_eq_true z3_11; obtain ⟨ad155, e155, hx155_0⟩ := Kd.at_string HR1.out t152 p155 q155; cases e155; replace hx155_0 := keep_cell HK.out hx155_0 (by first | (rw [add_block]; exact hf1 _ rfl (by omega)) | exact hf1 _ rfl (by omega) | exact hf1 ad155 rfl (by omega)); replace p155 := eq_true p155; replace q155 := eq_true q155))
 go_ret
 exact ⟨z3_7, z3_3, z3_2, z3_1⟩
def spec_l05Obj.f (s0_0 : List Int) (s0_1 : Int) (s0_2 : Int) : Option (ByteArray × Int × Int) := (spec_l01Pick.f s0_0 s0_1 s0_2 (([(⟨#[97]⟩ : ByteArray), (⟨#[98]⟩ : ByteArray), (⟨#[116, 97, 108, 108, 121]⟩ : ByteArray)] : List ByteArray))).bind fun bt159 => (some (bt159.1, bt159.2.1, bt159.2.2))
set_option maxHeartbeats 8000000 in
set_option maxRecDepth 100000 in
theorem spec_l05Obj.calls (g : Nat) (s0_0 : List Int) (s0_1 : Int) (s0_2 : Int) (r1 : ByteArray) (r2 : Int) (r3 : Int) (w0 w : World) (hI : IsS74 w0 w g s0_0 s0_1 s0_2) (hB : Below w0.heap.size w0 w) (h : spec_l05Obj.f s0_0 s0_1 s0_2 = some (r1, r2, r3)) :
  Calls Try.prog 76 #[.pointer (some ⟨g, 0, none⟩)] w fun e w' => e = .returned (.string r1) ∧ IsS74 w0 w' g s0_0 r2 r3 ∧ Below w0.heap.size w0 w' ∧ KeepBut w w' g none := by
 have HI0 := Aside0.mk hI
 have HK := Aside0.mk (KeepBut.refl w g none)
 have HL := Aside0.mk hB.size
 clear hI
 have HW0 := Aside0.mk hB.size
 have HB := Aside0.mk hB
 clear hB
 have H := h
 unfold spec_l05Obj.f at H
 clear h
 obtain ⟨y156, hy156⟩ : ∃ y_ : List ByteArray, y_ = (([(⟨#[97]⟩ : ByteArray), (⟨#[98]⟩ : ByteArray), (⟨#[116, 97, 108, 108, 121]⟩ : ByteArray)] : List ByteArray)) := ⟨_, rfl⟩
 replace H : ((spec_l01Pick.f s0_0 s0_1 s0_2 y156).bind fun bt159 => (some (bt159.1, bt159.2.1, bt159.2.2))) = some (r1, r2, r3) := by first | (rw [hy156]; with_reducible exact H) | (have H2_ := (Option.bind_some _ _).symm.trans H; rw [hy156]; with_reducible exact H2_) | (have H2_ := (Option.bind_some _ _).symm.trans H; with_reducible exact H2_) | with_reducible exact H | (rw [hy156]; exact H) | exact H
 have Ny156 := Aside0.mk hy156
 clear hy156
 replace H := Option.bind_eq_some_iff.mp H
 obtain ⟨⟨t159, t160, t161⟩, A20, H⟩ := H
 (try dsimp only at H)
 have A2 := Aside0.mk A20
 clear A20
 simp only [Option.some.injEq, Prod.mk.injEq] at H
 obtain ⟨rfl, rfl, rfl⟩ := H
 go_enter Try.func76, Try.ntmps76
 go_wp2_with (first | ((with_reducible refine gate_dst (N := 4) rfl ?_); refine Kd.R_lit Kd.string _ 9 ?hg (N := 4) ?hd (xs := ([(⟨#[97]⟩ : ByteArray), (⟨#[98]⟩ : ByteArray), (⟨#[116, 97, 108, 108, 121]⟩ : ByteArray)] : List ByteArray)) (inner := [.string (⟨#[97]⟩ : ByteArray), .string (⟨#[98]⟩ : ByteArray), .string (⟨#[116, 97, 108, 108, 121]⟩ : ByteArray)]) (ok := fun _ => True) (okp := fun _ => True) ?hr ?hp (fun _ hk => hk) trivial (Below.refl _ _) (Nat.le_refl _) (by simp) ?_; (case hd => rfl); (case hg => rfl); (case hr => first | (go_simp; done) | (go_simp; rfl)); (case hp => exact (Reps.one (show Kd.M Kd.string _ _ _ (⟨#[97]⟩ : ByteArray) [.string (⟨#[97]⟩ : ByteArray)] from rfl) (Reps.one (show Kd.M Kd.string _ _ _ (⟨#[98]⟩ : ByteArray) [.string (⟨#[98]⟩ : ByteArray)] from rfl) (Reps.one (show Kd.M Kd.string _ _ _ (⟨#[116, 97, 108, 108, 121]⟩ : ByteArray) [.string (⟨#[116, 97, 108, 108, 121]⟩ : ByteArray)] from rfl) (Reps.none _ _))))); intro v157 w3 ho4 hb hg_ hnew_; clear hg_ hnew_; (first | rw [← Ny156.out] at ho4 | (simp only [Int.reduceToNat] at ho4; rw [← Ny156.out] at ho4)); have HO158 := Aside0.mk (Kd.R_lower ho4 (keep_size (w := w) (g := g) (row := none) z3_1)); replace HK := Aside0.mk (KeepBut.trans z3_1 (KeepBut.of_below hb g none) (.inl rfl)); replace HB := Aside0.mk (below_step z3_2 hb); replace HI0 := Aside0.mk (IsS74.below z3_3 hb); clear hb ho4; obtain ⟨Ao5, co5, eo5⟩ := Kd.R_slice HO158.out; subst eo5) | ((with_reducible refine gate_callee (f := 40) rfl ?_); refine goesL_ (some 5) rfl rfl Try.func40 z3_9 rfl #[.pointer (some ⟨g, 0, none⟩), .slice Ao5 y156.length co5] rfl z3_4 ?_; (with_reducible refine (spec_l01Pick.calls g s0_0 s0_1 s0_2 _ _ y156 t159 t160 t161 w0 _ ?side1 ?side2 ?side3 ?side4 ?side5 A2.out).mono ?_); (case side1 => exact z3_3); (case side2 => exact z3_2); (case side3 => repeat (first | exact (Kd.R_reads' HO158.out).2.2 | (with_reducible refine Kd.C_alloc ?_ _) | (with_reducible refine Kd.C_drewN ?_ _) | (with_reducible refine Kd.C_drew ?_))); (case side4 => exact (Kd.R_reads' HO158.out).2.1); (case side5 => exact far_slice (IsS74.own_ne HI0.out HO158.out (by decide))); rintro e w6 ⟨rfl, hi, hb, hk⟩; refine ⟨_, rfl, ?_⟩; replace HO158 := Aside0.mk (Kd.R_mono (Kd.R_keep (IsS74.apart (show IsS74 w0 _ g s0_0 s0_1 s0_2 from by repeat (first | (with_reducible first | exact HI0.out | apply IsS74.alloc | apply IsS74.drewN | apply IsS74.drew | apply IsS74.set_1 | apply IsS74.set_2) | exact HI0.out)) (by (with_reducible repeat (first | apply Kd.R_alloc | apply Kd.R_drewN | apply Kd.R_drew)); exact HO158.out) (by decide)) hk (fun _ h => h.2)) (fun _ h => h.1)); replace HK := Aside0.mk (KeepBut.trans z3_1 hk (.inl rfl)); replace HB := Aside0.mk (hb); replace HI0 := Aside0.mk (hi)))
 go_ret
 exact ⟨z3_7, z3_3, z3_2, z3_1⟩
def spec_l05Key.f (s0_0 : List Int) (s0_1 : Int) (s0_2 : Int) : Option (ByteArray × Int × Int) := (spec_l01Pick.f s0_0 s0_1 s0_2 (([(⟨#[120]⟩ : ByteArray), (⟨#[121]⟩ : ByteArray), (⟨#[122, 111, 111]⟩ : ByteArray)] : List ByteArray))).bind fun bt165 => (some (bt165.1, bt165.2.1, bt165.2.2))
set_option maxHeartbeats 8000000 in
set_option maxRecDepth 100000 in
theorem spec_l05Key.calls (g : Nat) (s0_0 : List Int) (s0_1 : Int) (s0_2 : Int) (r1 : ByteArray) (r2 : Int) (r3 : Int) (w0 w : World) (hI : IsS74 w0 w g s0_0 s0_1 s0_2) (hB : Below w0.heap.size w0 w) (h : spec_l05Key.f s0_0 s0_1 s0_2 = some (r1, r2, r3)) :
  Calls Try.prog 77 #[.pointer (some ⟨g, 0, none⟩)] w fun e w' => e = .returned (.string r1) ∧ IsS74 w0 w' g s0_0 r2 r3 ∧ Below w0.heap.size w0 w' ∧ KeepBut w w' g none := by
 have HI0 := Aside0.mk hI
 have HK := Aside0.mk (KeepBut.refl w g none)
 have HL := Aside0.mk hB.size
 clear hI
 have HW0 := Aside0.mk hB.size
 have HB := Aside0.mk hB
 clear hB
 have H := h
 unfold spec_l05Key.f at H
 clear h
 obtain ⟨y162, hy162⟩ : ∃ y_ : List ByteArray, y_ = (([(⟨#[120]⟩ : ByteArray), (⟨#[121]⟩ : ByteArray), (⟨#[122, 111, 111]⟩ : ByteArray)] : List ByteArray)) := ⟨_, rfl⟩
 replace H : ((spec_l01Pick.f s0_0 s0_1 s0_2 y162).bind fun bt165 => (some (bt165.1, bt165.2.1, bt165.2.2))) = some (r1, r2, r3) := by first | (rw [hy162]; with_reducible exact H) | (have H2_ := (Option.bind_some _ _).symm.trans H; rw [hy162]; with_reducible exact H2_) | (have H2_ := (Option.bind_some _ _).symm.trans H; with_reducible exact H2_) | with_reducible exact H | (rw [hy162]; exact H) | exact H
 have Ny162 := Aside0.mk hy162
 clear hy162
 replace H := Option.bind_eq_some_iff.mp H
 obtain ⟨⟨t165, t166, t167⟩, A20, H⟩ := H
 (try dsimp only at H)
 have A2 := Aside0.mk A20
 clear A20
 simp only [Option.some.injEq, Prod.mk.injEq] at H
 obtain ⟨rfl, rfl, rfl⟩ := H
 go_enter Try.func77, Try.ntmps77
 go_wp2_with (first | ((with_reducible refine gate_dst (N := 4) rfl ?_); refine Kd.R_lit Kd.string _ 9 ?hg (N := 4) ?hd (xs := ([(⟨#[120]⟩ : ByteArray), (⟨#[121]⟩ : ByteArray), (⟨#[122, 111, 111]⟩ : ByteArray)] : List ByteArray)) (inner := [.string (⟨#[120]⟩ : ByteArray), .string (⟨#[121]⟩ : ByteArray), .string (⟨#[122, 111, 111]⟩ : ByteArray)]) (ok := fun _ => True) (okp := fun _ => True) ?hr ?hp (fun _ hk => hk) trivial (Below.refl _ _) (Nat.le_refl _) (by simp) ?_; (case hd => rfl); (case hg => rfl); (case hr => first | (go_simp; done) | (go_simp; rfl)); (case hp => exact (Reps.one (show Kd.M Kd.string _ _ _ (⟨#[120]⟩ : ByteArray) [.string (⟨#[120]⟩ : ByteArray)] from rfl) (Reps.one (show Kd.M Kd.string _ _ _ (⟨#[121]⟩ : ByteArray) [.string (⟨#[121]⟩ : ByteArray)] from rfl) (Reps.one (show Kd.M Kd.string _ _ _ (⟨#[122, 111, 111]⟩ : ByteArray) [.string (⟨#[122, 111, 111]⟩ : ByteArray)] from rfl) (Reps.none _ _))))); intro v163 w3 ho4 hb hg_ hnew_; clear hg_ hnew_; (first | rw [← Ny162.out] at ho4 | (simp only [Int.reduceToNat] at ho4; rw [← Ny162.out] at ho4)); have HO164 := Aside0.mk (Kd.R_lower ho4 (keep_size (w := w) (g := g) (row := none) z3_1)); replace HK := Aside0.mk (KeepBut.trans z3_1 (KeepBut.of_below hb g none) (.inl rfl)); replace HB := Aside0.mk (below_step z3_2 hb); replace HI0 := Aside0.mk (IsS74.below z3_3 hb); clear hb ho4; obtain ⟨Ao5, co5, eo5⟩ := Kd.R_slice HO164.out; subst eo5) | ((with_reducible refine gate_callee (f := 40) rfl ?_); refine goesL_ (some 5) rfl rfl Try.func40 z3_9 rfl #[.pointer (some ⟨g, 0, none⟩), .slice Ao5 y162.length co5] rfl z3_4 ?_; (with_reducible refine (spec_l01Pick.calls g s0_0 s0_1 s0_2 _ _ y162 t165 t166 t167 w0 _ ?side1 ?side2 ?side3 ?side4 ?side5 A2.out).mono ?_); (case side1 => exact z3_3); (case side2 => exact z3_2); (case side3 => repeat (first | exact (Kd.R_reads' HO164.out).2.2 | (with_reducible refine Kd.C_alloc ?_ _) | (with_reducible refine Kd.C_drewN ?_ _) | (with_reducible refine Kd.C_drew ?_))); (case side4 => exact (Kd.R_reads' HO164.out).2.1); (case side5 => exact far_slice (IsS74.own_ne HI0.out HO164.out (by decide))); rintro e w6 ⟨rfl, hi, hb, hk⟩; refine ⟨_, rfl, ?_⟩; replace HO164 := Aside0.mk (Kd.R_mono (Kd.R_keep (IsS74.apart (show IsS74 w0 _ g s0_0 s0_1 s0_2 from by repeat (first | (with_reducible first | exact HI0.out | apply IsS74.alloc | apply IsS74.drewN | apply IsS74.drew | apply IsS74.set_1 | apply IsS74.set_2) | exact HI0.out)) (by (with_reducible repeat (first | apply Kd.R_alloc | apply Kd.R_drewN | apply Kd.R_drew)); exact HO164.out) (by decide)) hk (fun _ h => h.2)) (fun _ h => h.1)); replace HK := Aside0.mk (KeepBut.trans z3_1 hk (.inl rfl)); replace HB := Aside0.mk (hb); replace HI0 := Aside0.mk (hi)))
 go_ret
 exact ⟨z3_7, z3_3, z3_2, z3_1⟩
def spec_l01PickInt.f (s0_0 : List Int) (s0_1 : Int) (s0_2 : Int) (l1 : List Int) : Option (Int × Int × Int) := (spec_l01Below.f s0_0 s0_1 s0_2 (l1.length : Int)).bind fun bt168 => (if 0 ≤ bt168.1 then (if bt168.1 < (l1.length : Int) then (some (rd l1 bt168.1, bt168.2.1, bt168.2.2)) else (none)) else (none))
set_option maxHeartbeats 8000000 in
set_option maxRecDepth 100000 in
theorem spec_l01PickInt.calls (g : Nat) (s0_0 : List Int) (s0_1 : Int) (s0_2 : Int) (A1 : Option Addr) (c1 : Nat) (l1 : List Int) (r1 : Int) (r2 : Int) (r3 : Int) (w0 w : World) (hI : IsS74 w0 w g s0_0 s0_1 s0_2) (hB : Below w0.heap.size w0 w) (hr1 : Kd.C (Kd.int .i64) w A1 l1.length l1) (hc1 : l1.length ≤ c1) (hf1 : ∀ ad, A1 = some ad → 0 < l1.length → ad.block ≠ g) (h : spec_l01PickInt.f s0_0 s0_1 s0_2 l1 = some (r1, r2, r3)) :
  Calls Try.prog 78 #[.pointer (some ⟨g, 0, none⟩), .slice A1 l1.length c1] w fun e w' => e = .returned (.int .i64 r1) ∧ IsS74 w0 w' g s0_0 r2 r3 ∧ Below w0.heap.size w0 w' ∧ KeepBut w w' g none := by
 have HR1 := Aside0.mk hr1
 have HC1 := Aside0.mk hc1
 clear hr1 hc1
 have HI0 := Aside0.mk hI
 have HK := Aside0.mk (KeepBut.refl w g none)
 have HL := Aside0.mk hB.size
 clear hI
 have HW0 := Aside0.mk hB.size
 have HB := Aside0.mk hB
 clear hB
 have H := h
 unfold spec_l01PickInt.f at H
 clear h
 replace H := Option.bind_eq_some_iff.mp H
 obtain ⟨⟨t168, t169, t170⟩, A30, H⟩ := H
 (try dsimp only at H)
 have A3 := Aside0.mk A30
 clear A30
 by_cases c4 : 0 ≤ t168
 rotate_left
 ·
  rw [if_neg c4] at H
  exact absurd H (by simp)
 rw [if_pos c4] at H
 have c4b0 : decide (0 ≤ t168) = true := decide_eq_true c4
 clear c4
 by_cases c5 : t168 < (l1.length : Int)
 rotate_left
 ·
  rw [if_neg c5] at H
  exact absurd H (by simp)
 rw [if_pos c5] at H
 have c5b0 : decide (t168 < (l1.length : Int)) = true := decide_eq_true c5
 clear c5
 simp only [Option.some.injEq, Prod.mk.injEq] at H
 obtain ⟨rfl, rfl, rfl⟩ := H
 go_enter Try.func78, Try.ntmps78
 go_wp2_with (first | ((with_reducible refine gate_callee (f := 34) rfl ?_); refine goesL_ (some 9) rfl rfl Try.func34 z3_9 rfl #[.pointer (some ⟨g, 0, none⟩), .int .i64 (l1.length : Int)] rfl z3_4 ?_; (with_reducible refine (spec_l01Below.calls g s0_0 s0_1 s0_2 (l1.length : Int) t168 t169 t170 w0 _ ?side1 ?side2 A3.out).mono ?_); (case side1 => exact z3_3); (case side2 => exact z3_2); rintro e w6 ⟨rfl, hi, hb, hk⟩; refine ⟨_, rfl, ?_⟩; replace HK := Aside0.mk (KeepBut.trans z3_1 hk (.inl rfl)); replace HB := Aside0.mk (hb); replace HI0 := Aside0.mk (hi); have p171 : 0 ≤ (t168 : Int) := of_decide_eq_true z3_11; have q171 : t168 < (l1.length : Int) := of_decide_eq_true z3_11; obtain ⟨ad171, e171, hx171_0⟩ := Kd.at_int HR1.out t168 p171 q171; cases e171; replace hx171_0 := keep_cell HK.out hx171_0 (by first | (rw [add_block]; exact hf1 _ rfl (by omega)) | exact hf1 _ rfl (by omega) | exact hf1 ad171 rfl (by omega)); replace p171 := eq_true p171; replace q171 := eq_true q171))
 go_ret
 exact ⟨z3_7, z3_3, z3_2, z3_1⟩
end Go.Proofs.Ythajpckfodhhpaa.QRA
