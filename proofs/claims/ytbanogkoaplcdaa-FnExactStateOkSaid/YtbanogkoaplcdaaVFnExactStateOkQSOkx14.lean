/- What the functions behind SOk compute, and that the program's calls come to just that. Written by a program of this session on the base of the kit's print. No condition. -/
import Derived.Test.YtbanogkoaplcdaaVFnExactStateOkShort
import Derived.Test.YtbanogkoaplcdaaVFnExactStateOkQSOkx0
import Derived.Test.YtbanogkoaplcdaaVFnExactStateOkQSOkx12
namespace Go.Proofs.Ytbanogkoaplcdaa.QSOk
open Go.RowKit Go.Proofs.Ytbanogkoaplcdaa.Short Go.Proofs.YtbanogkoaplcdaaW.PrintWords Go.Proofs.YtbanogkoaplcdaaW.PrintLast Go.Proofs.YtbanogkoaplcdaaW.PrintMore
attribute [local go_sem] max2_int min2_int max_two min_two max_three min_three max_four min_four   -- for this text's walks alone
set_option linter.unusedVariables false
set_option linter.unusedSimpArgs false
theorem z14_11 {P : Prop} (h : P := by (with_reducible repeat (first | refine blk_drewN ?_ _ | refine blk_drew ?_ | refine blk_alloc ?_ _)); exact BK297.out) : P := h
theorem z14_10 {P : Prop} (h : P := by repeat (first | (with_reducible first | exact HB.out | apply below_alloc | apply pw_below_drewN | apply below_drew1 | refine below_set ?_ GE294.out) | exact HB.out)) : P := h
theorem z14_9 {P : Prop} (h : P := by repeat (first | (with_reducible first | exact HB.out | apply below_alloc | apply pw_below_drewN | apply below_drew1 | refine below_set ?_ GE301.out) | exact HB.out)) : P := h
theorem z14_8 {P : Prop} (h : P := by (with_reducible repeat (first | refine blk_drewN ?_ _ | refine blk_drew ?_ | refine blk_alloc ?_ _)); exact BK301.out) : P := h
theorem z14_7 {P : Prop} (h : P := by repeat (first | (with_reducible first | exact HB.out | apply below_alloc | apply pw_below_drewN | apply below_drew1 | refine below_set ?_ GE301.out | refine below_set ?_ GE302.out) | exact HB.out)) : P := h
theorem z14_6 {P : Prop} (h : P := by first | rfl | (simp [errW_none, errW_some] <;> rfl) | (simp [*, errW_none, errW_some] <;> rfl)) : P := h
theorem z14_5 {P : Prop} (h : P := by repeat (first | (with_reducible first | exact HB.out | apply below_alloc | apply pw_below_drewN | apply below_drew1 | refine below_set ?_ GE297.out) | exact HB.out)) : P := h
theorem z14_4 {P : Prop} (h : P := by kernel_rfl) : P := h
theorem z14_3 {P : Prop} (h : P := by first | rfl | (simp only [List.map_toArray, List.map_cons, List.map_nil]; first | done | rfl)) : P := h
theorem z14_2 {P : Prop} (h : P := by intro w'; go_simp; with_reducible rfl) : P := h
theorem z14_1 {P : Prop} (h : P := by repeat (first | (with_reducible first | exact HB.out | apply below_alloc | apply pw_below_drewN | apply below_drew1) | exact HB.out)) : P := h
theorem z14_0 {P : Prop} (h : P := by simp only [Act.put, List.setIfInBounds_toArray, List.set_cons_zero, List.set_cons_succ, i64_w, i32_w]; rfl) : P := h
abbrev mk14_0 : Array Bool := #[false, false, false, false, false, false, false, false, false, false, false, false, false, false, false, false, false]
abbrev mk14_1 : Array Bool := #[true, false, false, false, false, false, false, false, false, false, false, false, false, false, false, false, false]
abbrev mk14_2 : Array Bool := #[true, true, false, false, false, false, false, false, false, false, false, false, false, false, false, false, false]
abbrev mk14_3 : Array Bool := #[true, true, true, false, false, false, false, false, false, false, false, false, false, false, false, false, false]
abbrev mk14_4 : Array Bool := #[true, true, true, true, false, false, false, false, false, false, false, false, false, false, false, false, false]
abbrev mk14_5 : Array Bool := #[true, true, true, true, true, false, false, false, false, false, false, false, false, false, false, false, false]
abbrev mk14_6 : Array Bool := #[true, true, true, true, true, true, false, false, false, false, false, false, false, false, false, false, false]
abbrev mk14_7 : Array Bool := #[true, true, true, true, true, true, true, false, false, false, false, false, false, false, false, false, false]
abbrev mk14_8 : Array Bool := #[true, true, true, true, true, true, true, true, false, false, false, false, false, false, false, false, false]
abbrev mk14_9 : Array Bool := #[true, true, true, true, true, true, true, true, false, true, false, false, false, false, false, false, false]
abbrev mk14_10 : Array Bool := #[true, true, true, true, true, true, true, true, false, true, true, false, false, false, false, false, false]
abbrev mk14_11 : Array Bool := #[true, true, true, true, true, true, true, true, true, true, true, false, false, false, false, false, false]
abbrev mk14_12 : Array Bool := #[true, true, true, true, true, true, true, true, true, true, true, true, false, false, false, false, false]
abbrev mk14_13 : Array Bool := #[true, true, true, true, true, true, true, true, true, true, true, true, true, false, false, false, false]
abbrev mk14_14 : Array Bool := #[true, true, true, true, true, true, true, true, true, true, true, true, true, true, false, false, false]
abbrev mk14_15 : Array Bool := #[true, true, true, true, true, true, true, true, true, true, true, true, true, true, true, false, false]
abbrev mk14_16 : Array Bool := #[true, true, true, true, true, true, true, true, true, true, true, true, true, true, true, true, false]
abbrev mk14_17 : Array Bool := #[true, true, true, true, true, true, true, true, true, true, true, true, true, true, true, true, true]
abbrev mk14_18 : Array Bool := #[true, true, true, true, true, true, true, true, true, false, false, false, false, false, false, false, false]
abbrev mk14_19 : Array Bool := #[true, true, true, true, true, true, true, true, true, true, false, false, false, false, false, false, false]
abbrev mk14_20 : Array Bool := #[false, false, false, false, false, false, false, false, false, false, false, false, false]
abbrev mk14_21 : Array Bool := #[true, false, false, false, false, false, false, false, false, false, false, false, false]
abbrev mk14_22 : Array Bool := #[true, false, true, false, false, false, false, false, false, false, false, false, false]
abbrev mk14_23 : Array Bool := #[true, false, true, false, false, true, false, false, false, false, false, false, false]
abbrev mk14_24 : Array Bool := #[true, false, true, false, false, true, false, true, false, false, false, false, false]
abbrev mk14_25 : Array Bool := #[true, true, true, false, false, true, false, true, false, false, false, false, false]
abbrev mk14_26 : Array Bool := #[true, true, true, true, false, true, false, true, false, false, false, false, false]
abbrev mk14_27 : Array Bool := #[true, true, true, true, false, true, true, true, false, false, false, false, false]
abbrev mk14_28 : Array Bool := #[true, true, true, true, false, true, true, true, true, false, false, false, false]
abbrev mk14_29 : Array Bool := #[true, true, true, true, true, true, true, true, true, false, false, false, false]
abbrev mk14_30 : Array Bool := #[true, true, true, true, true, true, true, true, true, true, false, false, false]
abbrev mk14_31 : Array Bool := #[true, true, true, true, true, true, true, true, true, true, true, false, false]
abbrev mk14_32 : Array Bool := #[true, true, true, true, true, true, true, true, true, true, true, true, false]
abbrev mk14_33 : Array Bool := #[true, true, true, true, true, true, true, true, true, true, true, true, true]
def impl_DotOk.f (a0_0 : Int) (a0_1 : Int) : Option (Bool) := (impl_within.f a0_0 0 2).bind fun t295 => (if t295 = true then ((impl_within.f a0_1 1 1000).bind fun t296 => (some t296)) else (some false))
set_option maxHeartbeats 8000000 in
set_option maxRecDepth 100000 in
theorem impl_DotOk.calls (a0_0 : Int) (a0_1 : Int) (r : Bool) (w : World) (h : impl_DotOk.f a0_0 a0_1 = some r) :
  Calls Try.prog 116 #[.agg #[.int .i64 a0_0, .int .i64 a0_1]] w fun e w' => e = .returned (.bool r) ∧ Below w.heap.size w w' := by
 have hu38 := Try.underlying38
 have HB := Aside0.mk (Below.refl w.heap.size w)
 have H : ((impl_within.f a0_0 0 2).bind fun t295 => (if t295 = true then ((impl_within.f a0_1 1 1000).bind fun t296 => (some t296)) else (some false))) = some r := h
 clear h
 replace H := Option.bind_eq_some_iff.mp H
 obtain ⟨t295, A20, H⟩ := H
 (try dsimp only at H)
 have A2 := Aside0.mk A20
 clear A20
 by_cases c3 : t295 = true
 ·
  subst c3
  rw [if_pos rfl] at H
  replace H := Option.bind_eq_some_iff.mp H
  obtain ⟨t296, A40, H⟩ := H
  (try dsimp only at H)
  have A4 := Aside0.mk A40
  clear A40
  obtain rfl := Option.some.inj H
  go_enter Try.func116, Try.ntmps116
  go_wp2_with (first | ((with_reducible refine gate_dst (N := 1) rfl ?_); refine box_event ?hg (N := 1) ?hd (cs := #[.int .i64 a0_0, .int .i64 a0_1]) (t := 38) ?hr ?_; (case hd => rfl); (case hg => rfl); (case hr => first | (go_simp; done) | (go_simp; rfl)); intro gb294 hg w5 hbox hb; have BK294 := Aside0.mk (hbox); have GW294 := gw_ w z14_1 hg; have GE294 := gw_ w z14_1 hg; replace HB := Aside0.mk (below_step z14_1 hb); clear hb hbox hg; obtain ⟨hcz6_0, hcz6_1, hfz6_0, hfz6_1⟩ := bc2 BK294.out) | ((with_reducible refine gate_callee (f := 106) rfl ?_); refine goesL_ (some 5) rfl rfl Try.func106 z14_4 rfl #[.int .i64 a0_0, .int .i64 0, .int .i64 2] rfl z14_3 ?_; (with_reducible refine (impl_within.calls a0_0 0 2 true _ A2.out).mono ?_); rintro e w' ⟨rfl, ⟨nd, rfl⟩⟩; refine ⟨_, rfl, ?_⟩) | (go_at_call 106; (with_reducible refine (impl_within.calls a0_1 1 1000 t296 _ A4.out).mono ?_); rintro e w' ⟨rfl, ⟨nd, rfl⟩⟩))
  go_ret
  exact ⟨z14_6, z14_10⟩
 ·
  replace c3 := Bool.eq_false_iff.mpr c3
  subst c3
  rw [if_neg (show ¬ (false = true) by decide)] at H
  obtain rfl := Option.some.inj H
  go_enter Try.func116, Try.ntmps116
  go_wp2_with (first | ((with_reducible refine gate_dst (N := 1) rfl ?_); refine box_event ?hg (N := 1) ?hd (cs := #[.int .i64 a0_0, .int .i64 a0_1]) (t := 38) ?hr ?_; (case hd => rfl); (case hg => rfl); (case hr => first | (go_simp; done) | (go_simp; rfl)); intro gb294 hg w7 hbox hb; have BK294 := Aside0.mk (hbox); have GW294 := gw_ w z14_1 hg; have GE294 := gw_ w z14_1 hg; replace HB := Aside0.mk (below_step z14_1 hb); clear hb hbox hg; obtain ⟨hcz8_0, hcz8_1, hfz8_0, hfz8_1⟩ := bc2 BK294.out) | ((with_reducible refine gate_callee (f := 106) rfl ?_); refine goesL_ (some 5) rfl rfl Try.func106 z14_4 rfl #[.int .i64 a0_0, .int .i64 0, .int .i64 2] rfl z14_3 ?_; (with_reducible refine (impl_within.calls a0_0 0 2 false _ A2.out).mono ?_); rintro e w' ⟨rfl, ⟨nd, rfl⟩⟩; refine ⟨_, rfl, ?_⟩))
  go_ret
  exact ⟨z14_6, z14_10⟩
def impl_Knows.f (k : Nat) (l0 : List Int) (a1_0 : Int) (a1_1 : Int) : Option (Bool) := (impl_KnowOk.f k l0).bind fun t298 => (if t298 = true then ((impl_DotOk.f a1_0 a1_1).bind fun t299 => (if t299 = true then (if 0 ≤ a1_0 then (if a1_0 < (l0.length : Int) then (some (decide (a1_1 ≤ (rd l0 a1_0)))) else (none)) else (none)) else (some false))) else (some false))
def impl_Knows.T1 : Bool × List (List Nat × List Nat) := (true, [([], []), ([0], [0]), ([1, 1], [1]), ([2], [2]), ([3, 2, 2], [2, 3]), ([2, 4], [2, 4]), ([5, 4], [5]), ([6], [6]), ([7, 6], [6, 7]), ([6], [6]), ([6], [6]), ([10, 6], [6, 10]), ([9, 11, 6], [6, 9, 11]), ([12, 6], [6, 12]), ([8, 13, 6], [6, 8, 13]), ([6, 14], [6, 14]), ([15, 6, 0, 1, 2, 3, 4, 5, 6, 7, 8, 9, 10, 11, 12, 13, 14, 15], [15])])
def impl_Knows.B1 : List Nat := [0, 1, 3, 7, 15, 31, 63, 127, 255, 127, 127, 1151, 3711, 7807, 16383, 32767, 65535]
theorem impl_Knows.tab1 : rtab .any (opsOf Try.f73 1) = impl_Knows.T1 := by kernel_rfl
theorem impl_Knows.bits1 : waitsOk impl_Knows.T1.2 impl_Knows.B1 = true := by kernel_rfl
set_option maxHeartbeats 8000000 in
set_option maxRecDepth 100000 in
theorem impl_Knows.calls (k : Nat) (A0 : Option Addr) (c0 : Nat) (l0 : List Int) (a1_0 : Int) (a1_1 : Int) (r : Bool) (w : World) (hr0 : Kd.C (Kd.int .i64) w A0 l0.length l0) (hc0 : l0.length ≤ c0) (h : impl_Knows.f k l0 a1_0 a1_1 = some r) :
  Calls Try.prog 73 #[.slice A0 l0.length c0, .agg #[.int .i64 a1_0, .int .i64 a1_1]] w fun e w' => e = .returned (.bool r) ∧ Below w.heap.size w w' := by
 have hu38 := Try.underlying38
 have HR0 := Aside0.mk hr0
 have HC0 := Aside0.mk hc0
 clear hr0 hc0
 have HB := Aside0.mk (Below.refl w.heap.size w)
 have H : ((impl_KnowOk.f k l0).bind fun t298 => (if t298 = true then ((impl_DotOk.f a1_0 a1_1).bind fun t299 => (if t299 = true then (if 0 ≤ a1_0 then (if a1_0 < (l0.length : Int) then (some (decide (a1_1 ≤ (rd l0 a1_0)))) else (none)) else (none)) else (some false))) else (some false))) = some r := h
 clear h
 replace H := Option.bind_eq_some_iff.mp H
 obtain ⟨t298, A30, H⟩ := H
 (try dsimp only at H)
 have A3 := Aside0.mk A30
 clear A30
 by_cases c4 : t298 = true
 ·
  subst c4
  rw [if_pos rfl] at H
  replace H := Option.bind_eq_some_iff.mp H
  obtain ⟨t299, A50, H⟩ := H
  (try dsimp only at H)
  have A5 := Aside0.mk A50
  clear A50
  by_cases c6 : t299 = true
  ·
   subst c6
   rw [if_pos rfl] at H
   by_cases c7 : 0 ≤ a1_0
   ·
    rw [if_pos c7] at H
    have c7b0 : decide (0 ≤ a1_0) = true := decide_eq_true c7
    clear c7
    by_cases c8 : a1_0 < (l0.length : Int)
    ·
     rw [if_pos c8] at H
     have c8b0 : decide (a1_0 < (l0.length : Int)) = true := decide_eq_true c8
     clear c8
     obtain rfl := Option.some.inj H
     go_enter Try.func73, Try.ntmps73
     try go_wp2_with (first | ((with_reducible refine gate_dst (N := 3) rfl ?_); refine box_event ?hg (N := 3) ?hd (cs := #[.int .i64 a1_0, .int .i64 a1_1]) (t := 38) ?hr ?_; (case hd => rfl); (case hg => rfl); (case hr => first | (go_simp; done) | (go_simp; rfl)); intro gb297 hg w9 hbox hb; have BK297 := Aside0.mk (hbox); have GW297 := gw_ w z14_1 hg; have GE297 := gw_ w z14_1 hg; replace HB := Aside0.mk (below_step z14_1 hb); clear hb hbox hg))
     replace BK297 := Aside0.mk (blk_drew BK297.out)
     replace HB := Aside0.mk (below_drew1 HB.out)
     have p300 : 0 ≤ (a1_0 : Int) := of_decide_eq_true (by first | (with_reducible assumption) | assumption)
     have q300 : a1_0 < (l0.length : Int) := of_decide_eq_true (by first | (with_reducible assumption) | assumption)
     obtain ⟨ad300, e300, hx300_0⟩ := Kd.at_int HR0.out a1_0 p300 q300
     have hw300_0 := hx300_0
     cases e300
     replace hx300_0 := cb_ HB hx300_0
     replace p300 := eq_true p300
     replace q300 := eq_true q300
     refine start_ (n := 17) (S := fun w' => w'.cell? ⟨gb297, 0, none⟩ = some (.int .i64 a1_0) ∧ w'.cell? ⟨gb297, 1, none⟩ = some (.int .i64 a1_1) ∧ w'.cell? (ad300.add (a1_0).toNat) = some (.int .i64 (rd l0 a1_0))) (ds := []) mk14_0 z14_4 rfl rfl ⟨bc_ BK297 0, bc_ BK297 1, (cb_ HB hw300_0)⟩ (fun hHeld => ?_); refine with_tabW impl_Knows.tab1 impl_Knows.bits1 (fun HT_ HW_ => ?_)
     generalize w9.drew = w10 at BK297 HB hx300_0 hHeld ⊢
     refine p_ (i := 0) (N := some 5) mk14_1 ?_ (hv := z14_2) (ha := z14_0)
     refine o_ (i := 1) (N := some 6) mk14_2 (fun K hK => ?_)
     refine goes_ Try.func61 z14_4 rfl #[.slice (some ad300) l0.length c0] (by rfl) rfl rfl z14_3 ?_
     with_reducible refine (impl_KnowOk.calls k _ _ l0 true _ ?side1 ?side2 A3.out).mono ?_
     (case side1 => repeat (first | exact (Kd.C_below HR0.out HB.out) | (with_reducible refine Kd.C_alloc ?_ _) | (with_reducible refine Kd.C_drewN ?_ _) | (with_reducible refine Kd.C_drew ?_)))
     (case side2 => exact HC0.out)
     rintro e w' ⟨rfl, ⟨nd, rfl⟩⟩
     refine ⟨_, rfl, ?_⟩
     refine hK.out _ _ ⟨bc_ BK297 0, bc_ BK297 1, (cb_ HB hw300_0)⟩ (fun hHeld => ?_)
     clear hK K
     refine n_ ?_
     refine p_ (i := 2) (N := some 7) mk14_3 ?_ (hv := z14_2) (ha := z14_0)
     refine t_ (i := 3) (N := some 8) mk14_4 hHeld ?_ (hv := by rintro w' ⟨s0, s1, s2⟩; go_simp; with_reducible rfl) (ha := z14_0)
     refine o_ (i := 4) (N := some 9) mk14_5 (fun K hK => ?_)
     refine goes_ Try.func116 z14_4 rfl #[.agg #[.int .i64 a1_0, .int .i64 a1_1]] (by rfl) rfl rfl z14_3 ?_
     with_reducible refine (impl_DotOk.calls a1_0 a1_1 true _ A5.out).mono ?_
     rintro e w11 ⟨rfl, hb⟩
     refine ⟨_, rfl, ?_⟩
     replace BK297 := Aside0.mk (blk_below (g := gb297) (o := .cells #[.int .i64 a1_0, .int .i64 a1_1] 38 (0, 0)) z14_11 hb)
     replace HB := Aside0.mk (below_step z14_5 hb)
     (try clear hb)
     (try clear hb2)
     (try clear hk)
     (try clear hi)
     refine hK.out _ _ ⟨bc_ BK297 0, bc_ BK297 1, (cb_ HB hw300_0)⟩ (fun hHeld => ?_)
     clear hK K
     refine n_ ?_
     refine p_ (i := 5) (N := some 10) mk14_6 ?_ (hv := z14_2) (ha := z14_0)
     refine p_ (i := 6) (N := some 11) mk14_7 ?_ (hv := z14_2) (ha := z14_0)
     refine p_ (i := 7) (N := some 12) mk14_8 ?_ (hv := z14_2) (ha := z14_0)
     refine p_ (i := 9) (N := some 14) mk14_9 ?_ (hv := z14_2) (ha := z14_0)
     refine p_ (i := 10) (N := some 15) mk14_10 ?_ (hv := z14_2) (ha := z14_0)
     refine t_ (i := 8) (N := some 13) mk14_11 hHeld ?_ (hv := by rintro w' ⟨s0, s1, s2⟩; go_simp; with_reducible rfl) (ha := z14_0)
     refine t_ (i := 11) (N := some 16) mk14_12 hHeld ?_ (hv := by rintro w' ⟨s0, s1, s2⟩; go_simp; with_reducible rfl) (ha := z14_0)
     refine p_ (i := 12) (N := some 17) mk14_13 ?_ (hv := z14_2) (ha := z14_0)
     refine t_ (i := 13) (N := some 18) mk14_14 hHeld ?_ (hv := by rintro w' ⟨s0, s1, s2⟩; go_simp; with_reducible rfl) (ha := z14_0)
     refine p_ (i := 14) (N := some 19) mk14_15 ?_ (hv := z14_2) (ha := z14_0)
     refine p_ (i := 15) (N := some 20) mk14_16 ?_ (hv := z14_2) (ha := z14_0)
     refine p_ (i := 16) (N := some 4) mk14_17 ?_ (hv := z14_2) (ha := z14_0)
     refine done_ (done_of HT_.out z14_4) ?_
     try go_wp2
     go_ret
     exact ⟨z14_6, z14_5⟩
    ·
     rw [if_neg c8] at H
     exact absurd H (by simp)
   ·
    rw [if_neg c7] at H
    exact absurd H (by simp)
  ·
   replace c6 := Bool.eq_false_iff.mpr c6
   subst c6
   rw [if_neg (show ¬ (false = true) by decide)] at H
   obtain rfl := Option.some.inj H
   go_enter Try.func73, Try.ntmps73
   try go_wp2_with (first | ((with_reducible refine gate_dst (N := 3) rfl ?_); refine box_event ?hg (N := 3) ?hd (cs := #[.int .i64 a1_0, .int .i64 a1_1]) (t := 38) ?hr ?_; (case hd => rfl); (case hg => rfl); (case hr => first | (go_simp; done) | (go_simp; rfl)); intro gb297 hg w12 hbox hb; have BK297 := Aside0.mk (hbox); have GW297 := gw_ w z14_1 hg; have GE297 := gw_ w z14_1 hg; replace HB := Aside0.mk (below_step z14_1 hb); clear hb hbox hg))
   replace BK297 := Aside0.mk (blk_drew BK297.out)
   replace HB := Aside0.mk (below_drew1 HB.out)
   refine start_ (n := 17) (S := fun w' => w'.cell? ⟨gb297, 0, none⟩ = some (.int .i64 a1_0) ∧ w'.cell? ⟨gb297, 1, none⟩ = some (.int .i64 a1_1)) (ds := []) mk14_0 z14_4 rfl rfl ⟨bc_ BK297 0, bc_ BK297 1⟩ (fun hHeld => ?_); refine with_tabW impl_Knows.tab1 impl_Knows.bits1 (fun HT_ HW_ => ?_)
   generalize w12.drew = w13 at BK297 HB hHeld ⊢
   refine p_ (i := 0) (N := some 5) mk14_1 ?_ (hv := z14_2) (ha := z14_0)
   refine o_ (i := 1) (N := some 6) mk14_2 (fun K hK => ?_)
   refine goes_ Try.func61 z14_4 rfl #[.slice A0 l0.length c0] (by rfl) rfl rfl z14_3 ?_
   with_reducible refine (impl_KnowOk.calls k _ _ l0 true _ ?side1 ?side2 A3.out).mono ?_
   (case side1 => repeat (first | exact (Kd.C_below HR0.out HB.out) | (with_reducible refine Kd.C_alloc ?_ _) | (with_reducible refine Kd.C_drewN ?_ _) | (with_reducible refine Kd.C_drew ?_)))
   (case side2 => exact HC0.out)
   rintro e w' ⟨rfl, ⟨nd, rfl⟩⟩
   refine ⟨_, rfl, ?_⟩
   refine hK.out _ _ ⟨bc_ BK297 0, bc_ BK297 1⟩ (fun hHeld => ?_)
   clear hK K
   refine n_ ?_
   refine p_ (i := 2) (N := some 7) mk14_3 ?_ (hv := z14_2) (ha := z14_0)
   refine t_ (i := 3) (N := some 8) mk14_4 hHeld ?_ (hv := by rintro w' ⟨s0, s1⟩; go_simp; with_reducible rfl) (ha := z14_0)
   refine o_ (i := 4) (N := some 9) mk14_5 (fun K hK => ?_)
   refine goes_ Try.func116 z14_4 rfl #[.agg #[.int .i64 a1_0, .int .i64 a1_1]] (by rfl) rfl rfl z14_3 ?_
   with_reducible refine (impl_DotOk.calls a1_0 a1_1 false _ A5.out).mono ?_
   rintro e w14 ⟨rfl, hb⟩
   refine ⟨_, rfl, ?_⟩
   replace BK297 := Aside0.mk (blk_below (g := gb297) (o := .cells #[.int .i64 a1_0, .int .i64 a1_1] 38 (0, 0)) z14_11 hb)
   replace HB := Aside0.mk (below_step z14_5 hb)
   (try clear hb)
   (try clear hb2)
   (try clear hk)
   (try clear hi)
   refine hK.out _ _ ⟨bc_ BK297 0, bc_ BK297 1⟩ (fun hHeld => ?_)
   clear hK K
   refine n_ ?_
   refine p_ (i := 5) (N := some 10) mk14_6 ?_ (hv := z14_2) (ha := z14_0)
   refine p_ (i := 6) (N := some 11) mk14_7 ?_ (hv := z14_2) (ha := z14_0)
   refine u_ (i := 7) (N := some 12) mk14_8 ?_ (ha := z14_0)
   refine u_ (i := 8) (N := some 13) mk14_18 ?_ (ha := z14_0)
   refine u_ (i := 9) (N := some 14) mk14_19 ?_ (ha := z14_0)
   refine u_ (i := 10) (N := some 15) mk14_11 ?_ (ha := z14_0)
   refine u_ (i := 11) (N := some 16) mk14_12 ?_ (ha := z14_0)
   refine u_ (i := 12) (N := some 17) mk14_13 ?_ (ha := z14_0)
   refine u_ (i := 13) (N := some 18) mk14_14 ?_ (ha := z14_0)
   refine u_ (i := 14) (N := some 19) mk14_15 ?_ (ha := z14_0)
   refine p_ (i := 15) (N := some 20) mk14_16 ?_ (hv := z14_2) (ha := z14_0)
   refine p_ (i := 16) (N := some 4) mk14_17 ?_ (hv := z14_2) (ha := z14_0)
   refine done_ (done_of HT_.out z14_4) ?_
   try go_wp2
   go_ret
   exact ⟨z14_6, z14_5⟩
 ·
  replace c4 := Bool.eq_false_iff.mpr c4
  subst c4
  rw [if_neg (show ¬ (false = true) by decide)] at H
  obtain rfl := Option.some.inj H
  go_enter Try.func73, Try.ntmps73
  try go_wp2_with (first | ((with_reducible refine gate_dst (N := 3) rfl ?_); refine box_event ?hg (N := 3) ?hd (cs := #[.int .i64 a1_0, .int .i64 a1_1]) (t := 38) ?hr ?_; (case hd => rfl); (case hg => rfl); (case hr => first | (go_simp; done) | (go_simp; rfl)); intro gb297 hg w15 hbox hb; have BK297 := Aside0.mk (hbox); have GW297 := gw_ w z14_1 hg; have GE297 := gw_ w z14_1 hg; replace HB := Aside0.mk (below_step z14_1 hb); clear hb hbox hg))
  replace BK297 := Aside0.mk (blk_drew BK297.out)
  replace HB := Aside0.mk (below_drew1 HB.out)
  refine start_ (n := 17) (S := fun w' => True) (ds := []) mk14_0 z14_4 rfl rfl trivial (fun hHeld => ?_); refine with_tabW impl_Knows.tab1 impl_Knows.bits1 (fun HT_ HW_ => ?_)
  generalize w15.drew = w16 at BK297 HB hHeld ⊢
  refine p_ (i := 0) (N := some 5) mk14_1 ?_ (hv := z14_2) (ha := z14_0)
  refine o_ (i := 1) (N := some 6) mk14_2 (fun K hK => ?_)
  refine goes_ Try.func61 z14_4 rfl #[.slice A0 l0.length c0] (by rfl) rfl rfl z14_3 ?_
  with_reducible refine (impl_KnowOk.calls k _ _ l0 false _ ?side1 ?side2 A3.out).mono ?_
  (case side1 => repeat (first | exact (Kd.C_below HR0.out HB.out) | (with_reducible refine Kd.C_alloc ?_ _) | (with_reducible refine Kd.C_drewN ?_ _) | (with_reducible refine Kd.C_drew ?_)))
  (case side2 => exact HC0.out)
  rintro e w' ⟨rfl, ⟨nd, rfl⟩⟩
  refine ⟨_, rfl, ?_⟩
  refine hK.out _ _ trivial (fun hHeld => ?_)
  clear hK K
  refine n_ ?_
  refine p_ (i := 2) (N := some 7) mk14_3 ?_ (hv := z14_2) (ha := z14_0)
  refine u_ (i := 3) (N := some 8) mk14_4 ?_ (ha := z14_0)
  refine u_ (i := 4) (N := some 9) mk14_5 ?_ (ha := z14_0)
  refine p_ (i := 5) (N := some 10) mk14_6 ?_ (hv := z14_2) (ha := z14_0)
  refine p_ (i := 6) (N := some 11) mk14_7 ?_ (hv := z14_2) (ha := z14_0)
  refine u_ (i := 7) (N := some 12) mk14_8 ?_ (ha := z14_0)
  refine u_ (i := 8) (N := some 13) mk14_18 ?_ (ha := z14_0)
  refine u_ (i := 9) (N := some 14) mk14_19 ?_ (ha := z14_0)
  refine u_ (i := 10) (N := some 15) mk14_11 ?_ (ha := z14_0)
  refine u_ (i := 11) (N := some 16) mk14_12 ?_ (ha := z14_0)
  refine u_ (i := 12) (N := some 17) mk14_13 ?_ (ha := z14_0)
  refine u_ (i := 13) (N := some 18) mk14_14 ?_ (ha := z14_0)
  refine u_ (i := 14) (N := some 19) mk14_15 ?_ (ha := z14_0)
  refine p_ (i := 15) (N := some 20) mk14_16 ?_ (hv := z14_2) (ha := z14_0)
  refine p_ (i := 16) (N := some 4) mk14_17 ?_ (hv := z14_2) (ha := z14_0)
  refine done_ (done_of HT_.out z14_4) ?_
  try go_wp2
  go_ret
  exact ⟨z14_6, z14_5⟩
def impl_compareDots.f (k : Nat) (a0_0 : Int) (a0_1 : Int) (a1_0 : Int) (a1_1 : Int) : Option (Int) := (cmp_Compare_int.f a0_0 a1_0).bind fun t303 => ((cmp_Compare_int.f a0_1 a1_1).bind fun t304 => ((cmp_Or_int.f k (([t303, t304] : List Int))).bind fun t308 => (some t308)))
def impl_compareDots.T1 : Bool × List (List Nat × List Nat) := (true, [([], []), ([0], [0]), ([], []), ([2], [2]), ([1, 3], [1, 3]), ([], []), ([5], [5]), ([], []), ([7], [7]), ([6, 8, 4], [6, 8]), ([4, 9], [4, 9]), ([10, 9], [10]), ([11, 11, 0, 1, 2, 3, 4, 5, 6, 7, 8, 9, 10, 11], [11])])
def impl_compareDots.B1 : List Nat := [0, 1, 0, 4, 15, 0, 32, 0, 128, 511, 1023, 2047, 4095]
theorem impl_compareDots.tab1 : rtab .any (opsOf Try.f109 1) = impl_compareDots.T1 := by kernel_rfl
theorem impl_compareDots.bits1 : waitsOk impl_compareDots.T1.2 impl_compareDots.B1 = true := by kernel_rfl
set_option maxHeartbeats 8000000 in
set_option maxRecDepth 100000 in
theorem impl_compareDots.calls (k : Nat) (a0_0 : Int) (a0_1 : Int) (a1_0 : Int) (a1_1 : Int) (r : Int) (w : World) (h : impl_compareDots.f k a0_0 a0_1 a1_0 a1_1 = some r) :
  Calls Try.prog 109 #[.agg #[.int .i64 a0_0, .int .i64 a0_1], .agg #[.int .i64 a1_0, .int .i64 a1_1]] w fun e w' => e = .returned (.int .i64 r) ∧ Below w.heap.size w w' := by
 have hu38 := Try.underlying38
 have HB := Aside0.mk (Below.refl w.heap.size w)
 have H : ((cmp_Compare_int.f a0_0 a1_0).bind fun t303 => ((cmp_Compare_int.f a0_1 a1_1).bind fun t304 => ((cmp_Or_int.f k (([t303, t304] : List Int))).bind fun t308 => (some t308)))) = some r := h
 clear h
 replace H := Option.bind_eq_some_iff.mp H
 obtain ⟨t303, A30, H⟩ := H
 (try dsimp only at H)
 have A3 := Aside0.mk A30
 clear A30
 replace H := Option.bind_eq_some_iff.mp H
 obtain ⟨t304, A40, H⟩ := H
 (try dsimp only at H)
 have A4 := Aside0.mk A40
 clear A40
 obtain ⟨y305, hy305⟩ : ∃ y_ : List Int, y_ = (([t303, t304] : List Int)) := ⟨_, rfl⟩
 replace H : ((cmp_Or_int.f k y305).bind fun t308 => (some t308)) = some r := by first | (rw [hy305]; with_reducible exact H) | (have H2_ := (Option.bind_some _ _).symm.trans H; rw [hy305]; with_reducible exact H2_) | (have H2_ := (Option.bind_some _ _).symm.trans H; with_reducible exact H2_) | with_reducible exact H | (rw [hy305]; exact H) | exact H
 have Ny305 := Aside0.mk hy305
 clear hy305
 replace H := Option.bind_eq_some_iff.mp H
 obtain ⟨t308, A50, H⟩ := H
 (try dsimp only at H)
 have A5 := Aside0.mk A50
 clear A50
 obtain rfl := Option.some.inj H
 go_enter Try.func109, Try.ntmps109
 try go_wp2_with (first | ((with_reducible refine gate_dst (N := 2) rfl ?_); refine box_event ?hg (N := 2) ?hd (cs := #[.int .i64 a0_0, .int .i64 a0_1]) (t := 38) ?hr ?_; (case hd => rfl); (case hg => rfl); (case hr => first | (go_simp; done) | (go_simp; rfl)); intro gb301 hg w6 hbox hb; have BK301 := Aside0.mk (hbox); have GW301 := gw_ w z14_1 hg; have GE301 := gw_ w z14_1 hg; replace HB := Aside0.mk (below_step z14_1 hb); clear hb hbox hg) | ((with_reducible refine gate_dst (N := 3) rfl ?_); refine box_event ?hg (N := 3) ?hd (cs := #[.int .i64 a1_0, .int .i64 a1_1]) (t := 38) ?hr ?_; (case hd => rfl); (case hg => rfl); (case hr => first | (go_simp; done) | (go_simp; rfl)); intro gb302 hg w7 hbox hb; have BK302 := Aside0.mk (hbox); have GW302 := gw_ w z14_9 hg; have GE302 := gw_ w z14_9 hg; replace HB := Aside0.mk (below_step z14_9 hb); have NB301_302 := Aside0.mk ((by rw [hg]; exact Nat.ne_of_lt (blk_lt (g := gb301) (o := .cells #[.int .i64 a0_0, .int .i64 a0_1] 38 (0, 0)) z14_8) : gb301 ≠ gb302)); have NB302_301 := Aside0.mk ((by rw [hg]; exact Nat.ne_of_gt (blk_lt (g := gb301) (o := .cells #[.int .i64 a0_0, .int .i64 a0_1] 38 (0, 0)) z14_8) : gb302 ≠ gb301)); replace BK301 := Aside0.mk (blk_below (g := gb301) (o := .cells #[.int .i64 a0_0, .int .i64 a0_1] 38 (0, 0)) z14_8 hb); clear hb hbox hg))
 replace BK301 := Aside0.mk (blk_drew BK301.out)
 replace BK302 := Aside0.mk (blk_drew BK302.out)
 replace HB := Aside0.mk (below_drew1 HB.out)
 refine start_ (n := 13) (S := fun w' => w'.cell? ⟨gb301, 0, none⟩ = some (.int .i64 a0_0) ∧ w'.cell? ⟨gb301, 1, none⟩ = some (.int .i64 a0_1) ∧ w'.cell? ⟨gb302, 0, none⟩ = some (.int .i64 a1_0) ∧ w'.cell? ⟨gb302, 1, none⟩ = some (.int .i64 a1_1)) (ds := []) mk14_20 z14_4 rfl rfl ⟨bc_ BK301 0, bc_ BK301 1, bc_ BK302 0, bc_ BK302 1⟩ (fun hHeld => ?_); refine with_tabW impl_compareDots.tab1 impl_compareDots.bits1 (fun HT_ HW_ => ?_)
 generalize w7.drew = w8 at BK301 BK302 HB hHeld ⊢
 refine p_ (i := 0) (N := some 5) mk14_21 ?_ (hv := z14_2) (ha := z14_0)
 refine p_ (i := 2) (N := some 7) mk14_22 ?_ (hv := z14_2) (ha := z14_0)
 refine p_ (i := 5) (N := some 10) mk14_23 ?_ (hv := z14_2) (ha := z14_0)
 refine p_ (i := 7) (N := some 12) mk14_24 ?_ (hv := z14_2) (ha := z14_0)
 refine t_ (i := 1) (N := some 6) mk14_25 hHeld ?_ (hv := by rintro w' ⟨s0, s1, s2, s3⟩; go_simp; with_reducible rfl) (ha := z14_0)
 refine t_ (i := 3) (N := some 8) mk14_26 hHeld ?_ (hv := by rintro w' ⟨s0, s1, s2, s3⟩; go_simp; with_reducible rfl) (ha := z14_0)
 refine t_ (i := 6) (N := some 11) mk14_27 hHeld ?_ (hv := by rintro w' ⟨s0, s1, s2, s3⟩; go_simp; with_reducible rfl) (ha := z14_0)
 refine t_ (i := 8) (N := some 13) mk14_28 hHeld ?_ (hv := by rintro w' ⟨s0, s1, s2, s3⟩; go_simp; with_reducible rfl) (ha := z14_0)
 refine o_ (i := 4) (N := some 9) mk14_29 (fun K hK => ?_)
 refine goes_ Try.func124 z14_4 rfl #[.int .i64 a0_0, .int .i64 a1_0] (by rfl) rfl rfl z14_3 ?_
 with_reducible refine (cmp_Compare_int.calls a0_0 a1_0 t303 _ A3.out).mono ?_
 rintro e w' ⟨rfl, ⟨nd, rfl⟩⟩
 refine ⟨_, rfl, ?_⟩
 refine hK.out _ _ ⟨bc_ BK301 0, bc_ BK301 1, bc_ BK302 0, bc_ BK302 1⟩ (fun hHeld => ?_)
 clear hK K
 refine n_ ?_
 refine o_ (i := 9) (N := some 14) mk14_30 (fun K hK => ?_)
 refine goes_ Try.func124 z14_4 rfl #[.int .i64 a0_1, .int .i64 a1_1] (by rfl) rfl rfl z14_3 ?_
 with_reducible refine (cmp_Compare_int.calls a0_1 a1_1 t304 _ A4.out).mono ?_
 rintro e w' ⟨rfl, ⟨nd, rfl⟩⟩
 refine ⟨_, rfl, ?_⟩
 refine hK.out _ _ ⟨bc_ BK301 0, bc_ BK301 1, bc_ BK302 0, bc_ BK302 1⟩ (fun hHeld => ?_)
 clear hK K
 refine n_ ?_
 refine o_ (i := 10) (N := some 15) mk14_31 (fun K hK => ?_)
 refine Kd.R_lit_step (Kd.int .i64) _ 3 ?hg (N := 15) ?hd (xs := ([t303, t304] : List Int)) (inner := [.int .i64 t303, .int .i64 t304]) (ok := fun _ => True) (okp := fun _ => True) ?hr ?hp (fun _ hk => hk) trivial (Below.refl _ _) (Nat.le_refl _) (by simp) ?_; (case hd => rfl); (case hg => rfl); (case hr => first | (go_simp; done) | (go_simp; rfl)); (case hp => exact (Reps.one (show Kd.M (Kd.int .i64) _ _ _ t303 [.int .i64 t303] from rfl) (Reps.one (show Kd.M (Kd.int .i64) _ _ _ t304 [.int .i64 t304] from rfl) (Reps.none _ _))))
 intro v306 w9 ho10 hb hg_ hnew_
 clear hg_ hnew_
 (first | rw [← Ny305.out] at ho10 | (simp only [Int.reduceToNat] at ho10; rw [← Ny305.out] at ho10))
 have HO307 := Aside0.mk (Kd.R_lower ho10 (below_size z14_7))
 replace BK301 := Aside0.mk (blk_below (g := gb301) (o := .cells #[.int .i64 a0_0, .int .i64 a0_1] 38 (0, 0)) z14_8 hb)
 replace BK302 := Aside0.mk (blk_below (g := gb302) (o := .cells #[.int .i64 a1_0, .int .i64 a1_1] 38 (0, 0)) (by (with_reducible repeat (first | refine blk_drewN ?_ _ | refine blk_drew ?_ | refine blk_alloc ?_ _)); exact BK302.out) hb)
 replace HB := Aside0.mk (below_step z14_7 hb)
 clear hb ho10
 obtain ⟨Ao11, co11, eo11⟩ := Kd.R_slice HO307.out
 (first | subst eo11 | (injection eo11 with f1_ f2_ f3_; have f4_ := f1_.symm; have f5_ := f3_.symm; clear f1_ f2_ f3_; subst f4_; subst f5_))
 refine hK.out _ _ ⟨bc_ BK301 0, bc_ BK301 1, bc_ BK302 0, bc_ BK302 1⟩ (fun hHeld => ?_)
 clear hK K
 refine n_ ?_
 refine o_ (i := 11) (N := some 16) mk14_32 (fun K hK => ?_)
 refine goes_ Try.func122 z14_4 rfl #[.slice Ao11 y305.length co11] (by rfl) rfl rfl z14_3 ?_
 with_reducible refine (cmp_Or_int.calls k _ _ y305 t308 _ ?side1 ?side2 A5.out).mono ?_
 (case side1 => repeat (first | exact (Kd.R_reads' HO307.out).2.2 | (with_reducible refine Kd.C_alloc ?_ _) | (with_reducible refine Kd.C_drewN ?_ _) | (with_reducible refine Kd.C_drew ?_)))
 (case side2 => exact (Kd.R_reads' HO307.out).2.1)
 rintro e w' ⟨rfl, ⟨nd, rfl⟩⟩
 refine ⟨_, rfl, ?_⟩
 refine hK.out _ _ ⟨bc_ BK301 0, bc_ BK301 1, bc_ BK302 0, bc_ BK302 1⟩ (fun hHeld => ?_)
 clear hK K
 refine n_ ?_
 refine p_ (i := 12) (N := some 4) mk14_33 ?_ (hv := z14_2) (ha := z14_0)
 refine done_ (done_of HT_.out z14_4) ?_
 try go_wp2
 go_ret
 exact ⟨z14_6, z14_7⟩
end Go.Proofs.Ytbanogkoaplcdaa.QSOk
