/- Parts of the proof of FnExactSettled, one behind the other. No condition. -/
import Derived.Test.YtbanogkoaplcdaaVFnExactSettledM32
namespace Go.Proofs.Ytbanogkoaplcdaa.QSe
open Go.RowKit Go.Proofs.Ytbanogkoaplcdaa.Short Go.Proofs.YtbanogkoaplcdaaW.PrintWords Go.Proofs.YtbanogkoaplcdaaW.PrintLast Go.Proofs.YtbanogkoaplcdaaW.PrintMore
attribute [local go_sem] max2_int min2_int max_two min_two max_three min_three max_four min_four   -- for this text's walks alone
set_option linter.unusedVariables false
set_option linter.unusedSimpArgs false
theorem z23_9 {P : Prop} (h : P := by intro w'; go_simp; with_reducible rfl) : P := h
theorem z23_8 {P : Prop} (h : P := by first | rfl | (simp; done) | (simp [*]; done)) : P := h
theorem z23_7 {P : Prop} (h : P := by kernel_rfl) : P := h
theorem z23_6 {P : Prop} (h : P := by repeat (first | (with_reducible first | exact HB.out | apply below_alloc | apply pw_below_drewN | apply below_drew1) | exact HB.out)) : P := h
theorem z23_5 {P : Prop} (h : P := by repeat (first | exact Drawn0.refl _ | apply Drawn0.step)) : P := h
theorem z23_4 {P : Prop} (h : P := by repeat (first | (with_reducible first | exact HB.out | apply below_alloc | apply pw_below_drewN | apply below_drew1 | refine below_set ?_ GE454.out) | exact HB.out)) : P := h
theorem z23_3 {P : Prop} (h : P := by (with_reducible repeat (first | refine blk_drewN ?_ _ | refine blk_drew ?_ | refine blk_alloc ?_ _)); exact BK454.out) : P := h
theorem z23_2 {P : Prop} (h : P := by repeat (first | (with_reducible first | exact HB.out | apply below_alloc | apply pw_below_drewN | apply below_drew1 | refine below_set ?_ GE454.out | refine below_set ?_ GE455.out) | exact HB.out)) : P := h
theorem z23_1 {P : Prop} (h : P := by simp only [Act.put, List.setIfInBounds_toArray, List.set_cons_zero, List.set_cons_succ, i64_w, i32_w]; rfl) : P := h
theorem z23_0 {P : Prop} (h : P := by first | rfl | (simp only [List.map_toArray, List.map_cons, List.map_nil]; first | done | rfl)) : P := h
abbrev mk23_0 : Array Bool := mb 13 0
abbrev mk23_1 : Array Bool := mb 13 1
abbrev mk23_2 : Array Bool := mb 13 5
abbrev mk23_3 : Array Bool := mb 13 37
abbrev mk23_4 : Array Bool := mb 13 165
abbrev mk23_5 : Array Bool := mb 13 167
abbrev mk23_6 : Array Bool := mb 13 175
abbrev mk23_7 : Array Bool := mb 13 239
abbrev mk23_8 : Array Bool := mb 13 495
abbrev mk23_9 : Array Bool := mb 13 511
abbrev mk23_10 : Array Bool := mb 13 1023
abbrev mk23_11 : Array Bool := mb 13 2047
abbrev mk23_12 : Array Bool := mb 13 4095
abbrev mk23_13 : Array Bool := mb 13 8191
def cmp_Compare_int.f (a0 : Int) (a1 : Int) : Option (Int) := (cmp_isNaN_int.f a0).bind fun t452 => ((cmp_isNaN_int.f a1).bind fun t453 => (if t452 = true then (if t453 = true then (some 0) else (some (-1))) else (if t453 = true then (some 1) else (if a0 < a1 then (some (-1)) else (if a0 > a1 then (some 1) else (some 0))))))
set_option maxHeartbeats 8000000 in
set_option maxRecDepth 100000 in
theorem cmp_Compare_int.calls (a0 : Int) (a1 : Int) (r : Int) (w : World) (h : cmp_Compare_int.f a0 a1 = some r) :
  Calls Try.prog 124 #[.int .i64 a0, .int .i64 a1] w fun e w' => e = .returned (.int .i64 r) ∧ Drawn0 w w' := by
 have H := h
 unfold cmp_Compare_int.f at H
 clear h
 replace H := Option.bind_eq_some_iff.mp H
 obtain ⟨t452, A30, H⟩ := H
 (try dsimp only at H)
 have A3 := Aside0.mk A30
 clear A30
 replace H := Option.bind_eq_some_iff.mp H
 obtain ⟨t453, A40, H⟩ := H
 (try dsimp only at H)
 have A4 := Aside0.mk A40
 clear A40
 by_cases c5 : t452 = true
 ·
  subst c5
  rw [if_pos rfl] at H
  by_cases c6 : t453 = true
  ·
   subst c6
   rw [if_pos rfl] at H
   obtain rfl := Option.some.inj H
   go_enter Try.func124, Try.ntmps124
   go_wp2_with (first | ((with_reducible refine gate_callee (f := 141) rfl ?_); refine goesL_ (some 8) rfl rfl Try.func141 z23_7 rfl #[.int .i64 a0] rfl z23_0 ?_; (with_reducible refine (cmp_isNaN_int.calls a0 true _ A3.out).mono ?_); rintro e w' ⟨rfl, ⟨nd, rfl⟩⟩; refine ⟨_, rfl, ?_⟩) | ((with_reducible refine gate_callee (f := 141) rfl ?_); refine goesL_ (some 10) rfl rfl Try.func141 z23_7 rfl #[.int .i64 a1] rfl z23_0 ?_; (with_reducible refine (cmp_isNaN_int.calls a1 true _ A4.out).mono ?_); rintro e w' ⟨rfl, ⟨nd, rfl⟩⟩; refine ⟨_, rfl, ?_⟩))
   go_ret
   exact ⟨z23_8, z23_5⟩
  replace c6 := Bool.eq_false_iff.mpr c6
  subst c6
  rw [if_neg (show ¬ (false = true) by decide)] at H
  obtain rfl := Option.some.inj H
  go_enter Try.func124, Try.ntmps124
  go_wp2_with (first | ((with_reducible refine gate_callee (f := 141) rfl ?_); refine goesL_ (some 8) rfl rfl Try.func141 z23_7 rfl #[.int .i64 a0] rfl z23_0 ?_; (with_reducible refine (cmp_isNaN_int.calls a0 true _ A3.out).mono ?_); rintro e w' ⟨rfl, ⟨nd, rfl⟩⟩; refine ⟨_, rfl, ?_⟩) | ((with_reducible refine gate_callee (f := 141) rfl ?_); refine goesL_ (some 10) rfl rfl Try.func141 z23_7 rfl #[.int .i64 a1] rfl z23_0 ?_; (with_reducible refine (cmp_isNaN_int.calls a1 false _ A4.out).mono ?_); rintro e w' ⟨rfl, ⟨nd, rfl⟩⟩; refine ⟨_, rfl, ?_⟩))
  go_ret
  exact ⟨z23_8, z23_5⟩
 replace c5 := Bool.eq_false_iff.mpr c5
 subst c5
 rw [if_neg (show ¬ (false = true) by decide)] at H
 by_cases c7 : t453 = true
 ·
  subst c7
  rw [if_pos rfl] at H
  obtain rfl := Option.some.inj H
  go_enter Try.func124, Try.ntmps124
  go_wp2_with (first | ((with_reducible refine gate_callee (f := 141) rfl ?_); refine goesL_ (some 8) rfl rfl Try.func141 z23_7 rfl #[.int .i64 a0] rfl z23_0 ?_; (with_reducible refine (cmp_isNaN_int.calls a0 false _ A3.out).mono ?_); rintro e w' ⟨rfl, ⟨nd, rfl⟩⟩; refine ⟨_, rfl, ?_⟩) | ((with_reducible refine gate_callee (f := 141) rfl ?_); refine goesL_ (some 10) rfl rfl Try.func141 z23_7 rfl #[.int .i64 a1] rfl z23_0 ?_; (with_reducible refine (cmp_isNaN_int.calls a1 true _ A4.out).mono ?_); rintro e w' ⟨rfl, ⟨nd, rfl⟩⟩; refine ⟨_, rfl, ?_⟩))
  go_ret
  exact ⟨z23_8, z23_5⟩
 replace c7 := Bool.eq_false_iff.mpr c7
 subst c7
 rw [if_neg (show ¬ (false = true) by decide)] at H
 by_cases c8 : a0 < a1
 ·
  rw [if_pos c8] at H
  have c8b0 : decide (a0 < a1) = true := decide_eq_true c8
  clear c8
  obtain rfl := Option.some.inj H
  go_enter Try.func124, Try.ntmps124
  go_wp2_with (first | ((with_reducible refine gate_callee (f := 141) rfl ?_); refine goesL_ (some 8) rfl rfl Try.func141 z23_7 rfl #[.int .i64 a0] rfl z23_0 ?_; (with_reducible refine (cmp_isNaN_int.calls a0 false _ A3.out).mono ?_); rintro e w' ⟨rfl, ⟨nd, rfl⟩⟩; refine ⟨_, rfl, ?_⟩) | ((with_reducible refine gate_callee (f := 141) rfl ?_); refine goesL_ (some 10) rfl rfl Try.func141 z23_7 rfl #[.int .i64 a1] rfl z23_0 ?_; (with_reducible refine (cmp_isNaN_int.calls a1 false _ A4.out).mono ?_); rintro e w' ⟨rfl, ⟨nd, rfl⟩⟩; refine ⟨_, rfl, ?_⟩))
  go_ret
  exact ⟨z23_8, z23_5⟩
 rw [if_neg c8] at H
 have c8b0 : decide (a0 < a1) = false := decide_eq_false c8
 clear c8
 by_cases c9 : a0 > a1
 ·
  rw [if_pos c9] at H
  have c9b0 : decide (a1 < a0) = true := decide_eq_true c9
  clear c9
  obtain rfl := Option.some.inj H
  go_enter Try.func124, Try.ntmps124
  go_wp2_with (first | ((with_reducible refine gate_callee (f := 141) rfl ?_); refine goesL_ (some 8) rfl rfl Try.func141 z23_7 rfl #[.int .i64 a0] rfl z23_0 ?_; (with_reducible refine (cmp_isNaN_int.calls a0 false _ A3.out).mono ?_); rintro e w' ⟨rfl, ⟨nd, rfl⟩⟩; refine ⟨_, rfl, ?_⟩) | ((with_reducible refine gate_callee (f := 141) rfl ?_); refine goesL_ (some 10) rfl rfl Try.func141 z23_7 rfl #[.int .i64 a1] rfl z23_0 ?_; (with_reducible refine (cmp_isNaN_int.calls a1 false _ A4.out).mono ?_); rintro e w' ⟨rfl, ⟨nd, rfl⟩⟩; refine ⟨_, rfl, ?_⟩))
  go_ret
  exact ⟨z23_8, z23_5⟩
 rw [if_neg c9] at H
 have c9b0 : decide (a1 < a0) = false := decide_eq_false c9
 clear c9
 obtain rfl := Option.some.inj H
 go_enter Try.func124, Try.ntmps124
 go_wp2_with (first | ((with_reducible refine gate_callee (f := 141) rfl ?_); refine goesL_ (some 8) rfl rfl Try.func141 z23_7 rfl #[.int .i64 a0] rfl z23_0 ?_; (with_reducible refine (cmp_isNaN_int.calls a0 false _ A3.out).mono ?_); rintro e w' ⟨rfl, ⟨nd, rfl⟩⟩; refine ⟨_, rfl, ?_⟩) | ((with_reducible refine gate_callee (f := 141) rfl ?_); refine goesL_ (some 10) rfl rfl Try.func141 z23_7 rfl #[.int .i64 a1] rfl z23_0 ?_; (with_reducible refine (cmp_isNaN_int.calls a1 false _ A4.out).mono ?_); rintro e w' ⟨rfl, ⟨nd, rfl⟩⟩; refine ⟨_, rfl, ?_⟩))
 go_ret
 exact ⟨z23_8, z23_5⟩
def impl_compareTallies.f (k : Nat) (a0_0 : ByteArray) (a0_1 : Int) (a0_2 : Int) (a1_0 : ByteArray) (a1_1 : Int) (a1_2 : Int) : Option (Int) := (cmp_Compare_string.f a0_0 a1_0).bind fun t456 => ((cmp_Compare_int.f a0_1 a1_1).bind fun t457 => ((cmp_Or_int.f k (([t456, t457] : List Int))).bind fun t461 => (some t461)))
def impl_compareTallies.T1 : Bool × List (List Nat × List Nat) := (true, [([], []), ([0], [0]), ([], []), ([2], [2]), ([1, 3], [1, 3]), ([], []), ([5], [5]), ([], []), ([7], [7]), ([6, 8, 4], [6, 8]), ([4, 9], [4, 9]), ([10, 9], [10]), ([11, 11, 0, 1, 2, 3, 4, 5, 6, 7, 8, 9, 10, 11], [11])])
def impl_compareTallies.B1 : List Nat := [0, 1, 0, 4, 15, 0, 32, 0, 128, 511, 1023, 2047, 4095]
theorem impl_compareTallies.tab1 : rtab .any (opsOf Try.f108 1) = impl_compareTallies.T1 := by kernel_rfl
theorem impl_compareTallies.bits1 : waitsOk impl_compareTallies.T1.2 impl_compareTallies.B1 = true := by kernel_rfl
set_option maxHeartbeats 8000000 in
set_option maxRecDepth 100000 in
theorem impl_compareTallies.calls (k : Nat) (a0_0 : ByteArray) (a0_1 : Int) (a0_2 : Int) (a1_0 : ByteArray) (a1_1 : Int) (a1_2 : Int) (r : Int) (w : World) (h : impl_compareTallies.f k a0_0 a0_1 a0_2 a1_0 a1_1 a1_2 = some r) :
  Calls Try.prog 108 #[.agg #[.string a0_0, .int .i64 a0_1, .int .i64 a0_2], .agg #[.string a1_0, .int .i64 a1_1, .int .i64 a1_2]] w fun e w' => e = .returned (.int .i64 r) ∧ Below w.heap.size w w' := by
 have hu84 := Try.underlying84
 have HB := Aside0.mk (Below.refl w.heap.size w)
 have H := h
 unfold impl_compareTallies.f at H
 clear h
 replace H := Option.bind_eq_some_iff.mp H
 obtain ⟨t456, A30, H⟩ := H
 (try dsimp only at H)
 have A3 := Aside0.mk A30
 clear A30
 replace H := Option.bind_eq_some_iff.mp H
 obtain ⟨t457, A40, H⟩ := H
 (try dsimp only at H)
 have A4 := Aside0.mk A40
 clear A40
 obtain ⟨y458, hy458⟩ : ∃ y_ : List Int, y_ = (([t456, t457] : List Int)) := ⟨_, rfl⟩
 replace H : ((cmp_Or_int.f k y458).bind fun t461 => (some t461)) = some r := by first | (rw [hy458]; with_reducible exact H) | (have H2_ := (Option.bind_some _ _).symm.trans H; rw [hy458]; with_reducible exact H2_) | (have H2_ := (Option.bind_some _ _).symm.trans H; with_reducible exact H2_) | with_reducible exact H | (rw [hy458]; exact H) | exact H
 have Ny458 := Aside0.mk hy458
 clear hy458
 replace H := Option.bind_eq_some_iff.mp H
 obtain ⟨t461, A50, H⟩ := H
 (try dsimp only at H)
 have A5 := Aside0.mk A50
 clear A50
 obtain rfl := Option.some.inj H
 go_enter Try.func108, Try.ntmps108
 try go_wp2_with (first | ((with_reducible refine gate_dst (N := 2) rfl ?_); refine box_event ?hg (N := 2) ?hd (cs := #[.string a0_0, .int .i64 a0_1, .int .i64 a0_2]) (t := 84) ?hr ?_; (case hd => rfl); (case hg => rfl); (case hr => first | (go_simp; done) | (go_simp; rfl)); intro gb454 hg w6 hbox hb; have BK454 := Aside0.mk (hbox); have GW454 := gw_ w z23_6 hg; have GE454 := gw_ w z23_6 hg; replace HB := Aside0.mk (below_step z23_6 hb); clear hb hbox hg) | ((with_reducible refine gate_dst (N := 3) rfl ?_); refine box_event ?hg (N := 3) ?hd (cs := #[.string a1_0, .int .i64 a1_1, .int .i64 a1_2]) (t := 84) ?hr ?_; (case hd => rfl); (case hg => rfl); (case hr => first | (go_simp; done) | (go_simp; rfl)); intro gb455 hg w7 hbox hb; have BK455 := Aside0.mk (hbox); have GW455 := gw_ w z23_4 hg; have GE455 := gw_ w z23_4 hg; replace HB := Aside0.mk (below_step z23_4 hb); have NB454_455 := nb_ BK454 z23_3 hg; have NB455_454 := nc_ BK454 z23_3 hg; replace BK454 := bb_ BK454 z23_3 hb; clear hb hbox hg))
 replace BK454 := Aside0.mk (blk_drew BK454.out)
 replace BK455 := Aside0.mk (blk_drew BK455.out)
 replace HB := Aside0.mk (below_drew1 HB.out)
 refine start_ (n := 13) (S := fun w' => w'.cell? ⟨gb454, 0, none⟩ = some (.string a0_0) ∧ w'.cell? ⟨gb454, 1, none⟩ = some (.int .i64 a0_1) ∧ w'.cell? ⟨gb454, 2, none⟩ = some (.int .i64 a0_2) ∧ w'.cell? ⟨gb455, 0, none⟩ = some (.string a1_0) ∧ w'.cell? ⟨gb455, 1, none⟩ = some (.int .i64 a1_1) ∧ w'.cell? ⟨gb455, 2, none⟩ = some (.int .i64 a1_2)) (ds := []) mk23_0 z23_7 rfl rfl (jn3 BK454 (ln3 BK455)) (fun hHeld => ?_); refine with_tabW impl_compareTallies.tab1 impl_compareTallies.bits1 (fun HT_ HW_ => ?_)
 generalize w7.drew = w8 at BK454 BK455 HB hHeld ⊢
 refine p_ (i := 0) (N := some 5) mk23_1 ?_ (hv := z23_9) (ha := z23_1)
 refine p_ (i := 2) (N := some 7) mk23_2 ?_ (hv := z23_9) (ha := z23_1)
 refine p_ (i := 5) (N := some 10) mk23_3 ?_ (hv := z23_9) (ha := z23_1)
 refine p_ (i := 7) (N := some 12) mk23_4 ?_ (hv := z23_9) (ha := z23_1)
 refine t_ (i := 1) (N := some 6) mk23_5 hHeld ?_ (ha := z23_1)
 refine t_ (i := 3) (N := some 8) mk23_6 hHeld ?_ (ha := z23_1)
 refine t_ (i := 6) (N := some 11) mk23_7 hHeld ?_ (ha := z23_1)
 refine t_ (i := 8) (N := some 13) mk23_8 hHeld ?_ (ha := z23_1)
 refine o_ (i := 4) (N := some 9) mk23_9 (fun K hK => ?_)
 refine goes_ Try.func123 z23_7 rfl #[.string a0_0, .string a1_0] (by rfl) rfl rfl z23_0 ?_
 with_reducible refine (cmp_Compare_string.calls a0_0 a1_0 t456 _ A3.out).mono ?_
 rintro e w' ⟨rfl, ⟨nd, rfl⟩⟩
 refine ⟨_, rfl, ?_⟩
 refine hK.out _ _ (jn3 BK454 (ln3 BK455)) (fun hHeld => ?_)
 clear hK K
 refine n_ (N := some 9) ?_
 refine o_ (i := 9) (N := some 14) mk23_10 (fun K hK => ?_)
 refine goes_ Try.func124 z23_7 rfl #[.int .i64 a0_1, .int .i64 a1_1] (by rfl) rfl rfl z23_0 ?_
 with_reducible refine (cmp_Compare_int.calls a0_1 a1_1 t457 _ A4.out).mono ?_
 rintro e w' ⟨rfl, ⟨nd, rfl⟩⟩
 refine ⟨_, rfl, ?_⟩
 refine hK.out _ _ (jn3 BK454 (ln3 BK455)) (fun hHeld => ?_)
 clear hK K
 refine n_ (N := some 14) ?_
 refine o_ (i := 10) (N := some 15) mk23_11 (fun K hK => ?_)
 refine Kd.R_lit_step (Kd.int .i64) _ 3 ?hg (N := 15) ?hd (xs := ([t456, t457] : List Int)) (inner := [.int .i64 t456, .int .i64 t457]) (ok := fun _ => True) (okp := fun _ => True) ?hr ?hp (fun _ hk => hk) trivial (Below.refl _ _) (Nat.le_refl _) (by simp) ?_; (case hd => rfl); (case hg => rfl); (case hr => first | (go_simp; done) | (go_simp; rfl)); (case hp => exact (Reps.one (show Kd.M (Kd.int .i64) _ _ _ t456 [.int .i64 t456] from rfl) (Reps.one (show Kd.M (Kd.int .i64) _ _ _ t457 [.int .i64 t457] from rfl) (Reps.none _ _))))
 intro v459 w9 ho10 hb hg_ hnew_
 clear hg_ hnew_
 (first | rw [← Ny458.out] at ho10 | (simp only [Int.reduceToNat] at ho10; rw [← Ny458.out] at ho10))
 have HO460 := Aside0.mk (Kd.R_lower ho10 (below_size z23_2))
 replace BK454 := bb_ BK454 z23_3 hb
 replace BK455 := bb_ BK455 (by (with_reducible repeat (first | refine blk_drewN ?_ _ | refine blk_drew ?_ | refine blk_alloc ?_ _)); exact BK455.out) hb
 replace HB := Aside0.mk (below_step z23_2 hb)
 clear hb ho10
 obtain ⟨Ao11, co11, eo11⟩ := Kd.R_slice HO460.out
 (first | subst eo11 | (injection eo11 with f1_ f2_ f3_; have f4_ := f1_.symm; have f5_ := f3_.symm; clear f1_ f2_ f3_; subst f4_; subst f5_))
 refine hK.out _ _ (jn3 BK454 (ln3 BK455)) (fun hHeld => ?_)
 clear hK K
 refine n_ (N := some 15) ?_
 refine o_ (i := 11) (N := some 16) mk23_12 (fun K hK => ?_)
 refine goes_ Try.func122 z23_7 rfl #[.slice Ao11 y458.length co11] (by rfl) rfl rfl z23_0 ?_
 with_reducible refine (cmp_Or_int.calls k _ _ y458 t461 _ ?side1 ?side2 A5.out).mono ?_
 (case side1 => repeat (first | exact (Kd.R_reads' HO460.out).2.2 | (with_reducible refine Kd.C_alloc ?_ _) | (with_reducible refine Kd.C_drewN ?_ _) | (with_reducible refine Kd.C_drew ?_)))
 (case side2 => exact (Kd.R_reads' HO460.out).2.1)
 rintro e w' ⟨rfl, ⟨nd, rfl⟩⟩
 refine ⟨_, rfl, ?_⟩
 refine hK.out _ _ (jn3 BK454 (ln3 BK455)) (fun hHeld => ?_)
 clear hK K
 refine n_ (N := some 16) ?_
 refine p_ (i := 12) (N := some 4) mk23_13 ?_ (hv := z23_9) (ha := z23_1)
 refine done_ (done_of HT_.out z23_7) ?_
 try go_wp2
 go_ret
 exact ⟨by first | rfl | (simp [errW_none, errW_some] <;> rfl) | (simp [*, errW_none, errW_some] <;> rfl), z23_2⟩
end Go.Proofs.Ytbanogkoaplcdaa.QSe
