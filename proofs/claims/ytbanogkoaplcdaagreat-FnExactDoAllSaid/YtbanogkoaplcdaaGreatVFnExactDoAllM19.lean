/- Parts of the proof of FnExactDoAll, one behind the other. No condition. -/
import Derived.Test.YtbanogkoaplcdaaGreatVFnExactDoAllM4
namespace Go.Proofs.YtbanogkoaplcdaaGreat.QDa
open Go.RowKit Go.Proofs.YtbanogkoaplcdaaGreat.Short Go.Proofs.YtbanogkoaplcdaaGreatW.PrintWords Go.Proofs.YtbanogkoaplcdaaGreatW.PrintLast Go.Proofs.YtbanogkoaplcdaaGreatW.PrintMore
attribute [local go_sem] max2_int min2_int max_two min_two max_three min_three max_four min_four   -- for this text's walks alone
set_option linter.unusedVariables false
set_option linter.unusedSimpArgs false
theorem z4_10 {P : Prop} (h : P := by (with_reducible repeat (first | refine blk_drewN ?_ _ | refine blk_drew ?_ | refine blk_alloc ?_ _)); exact BK150.out) : P := h
theorem z4_9 {P : Prop} (h : P := by first | rfl | (simp; done) | (simp [*]; done)) : P := h
theorem z4_8 {P : Prop} (h : P := by first | rfl | (simp [errW_none, errW_some] <;> rfl) | (simp [*, errW_none, errW_some] <;> rfl)) : P := h
theorem z4_7 {P : Prop} (h : P := by repeat (first | exact Drawn0.refl _ | apply Drawn0.step)) : P := h
theorem z4_6 {P : Prop} (h : P := by first | rfl | (simp only [List.map_toArray, List.map_cons, List.map_nil]; first | done | rfl)) : P := h
theorem z4_5 {P : Prop} (h : P := by first | (with_reducible assumption) | assumption) : P := h
theorem z4_4 {P : Prop} (h : P := by kernel_rfl) : P := h
theorem z4_3 {P : Prop} (h : P := by repeat (first | (with_reducible first | exact HB.out | apply below_alloc | apply pw_below_drewN | apply below_drew1 | refine below_set ?_ GE150.out) | exact HB.out)) : P := h
theorem z4_2 {P : Prop} (h : P := by intro w'; go_simp; with_reducible rfl) : P := h
theorem z4_1 {P : Prop} (h : P := by repeat (first | (with_reducible first | exact HB.out | apply below_alloc | apply pw_below_drewN | apply below_drew1) | exact HB.out)) : P := h
theorem z4_0 {P : Prop} (h : P := by simp only [Act.put, List.setIfInBounds_toArray, List.set_cons_zero, List.set_cons_succ, i64_w, i32_w]; rfl) : P := h
abbrev mk4_0 : Array Bool := mb 17 0
abbrev mk4_1 : Array Bool := mb 17 1
abbrev mk4_2 : Array Bool := mb 17 3
abbrev mk4_3 : Array Bool := mb 17 7
abbrev mk4_4 : Array Bool := mb 17 15
abbrev mk4_5 : Array Bool := mb 17 31
abbrev mk4_6 : Array Bool := mb 17 63
abbrev mk4_7 : Array Bool := mb 17 127
abbrev mk4_8 : Array Bool := mb 17 255
abbrev mk4_9 : Array Bool := mb 17 767
abbrev mk4_10 : Array Bool := mb 17 1791
abbrev mk4_11 : Array Bool := mb 17 2047
abbrev mk4_12 : Array Bool := mb 17 4095
abbrev mk4_13 : Array Bool := mb 17 8191
abbrev mk4_14 : Array Bool := mb 17 16383
abbrev mk4_15 : Array Bool := mb 17 32767
abbrev mk4_16 : Array Bool := mb 17 65535
abbrev mk4_17 : Array Bool := mb 17 131071
abbrev mk4_18 : Array Bool := mb 17 511
abbrev mk4_19 : Array Bool := mb 17 1023
theorem z4_11 {P : Prop} (h : P := by repeat (first | exact (Kd.C_below HR0.out HB.out) | (with_reducible refine Kd.C_alloc ?_ _) | (with_reducible refine Kd.C_drewN ?_ _) | (with_reducible refine Kd.C_drew ?_))) : P := h
def spec_Knows.f (k : Nat) (l0 : List Int) (a1_0 : Int) (a1_1 : Int) : Option (Bool) := (spec_KnowOk.f k l0).bind fun t151 => (if t151 = true then ((spec_DotOk.f a1_0 a1_1).bind fun t152 => (if t152 = true then (if 0 ≤ a1_0 then (if a1_0 < (l0.length : Int) then (some (decide (a1_1 ≤ (rd l0 a1_0)))) else (none)) else (none)) else (some false))) else (some false))
def spec_Knows.T1 : Bool × List (List Nat × List Nat) := (true, [([], []), ([0], [0]), ([1, 1], [1]), ([2], [2]), ([3, 2, 2], [2, 3]), ([2, 4], [2, 4]), ([5, 4], [5]), ([6], [6]), ([7, 6], [6, 7]), ([6], [6]), ([6], [6]), ([10, 6], [6, 10]), ([9, 11, 6], [6, 9, 11]), ([12, 6], [6, 12]), ([8, 13, 6], [6, 8, 13]), ([6, 14], [6, 14]), ([15, 6, 0, 1, 2, 3, 4, 5, 6, 7, 8, 9, 10, 11, 12, 13, 14, 15], [15])])
def spec_Knows.B1 : List Nat := [0, 1, 3, 7, 15, 31, 63, 127, 255, 127, 127, 1151, 3711, 7807, 16383, 32767, 65535]
theorem spec_Knows.tab1 : rtab .any (opsOf Tryz.f48 1) = spec_Knows.T1 := by kernel_rfl
theorem spec_Knows.bits1 : waitsOk spec_Knows.T1.2 spec_Knows.B1 = true := by kernel_rfl
set_option maxHeartbeats 8000000 in
set_option maxRecDepth 100000 in
theorem spec_Knows.calls (k : Nat) (A0 : Option Addr) (c0 : Nat) (l0 : List Int) (a1_0 : Int) (a1_1 : Int) (r : Bool) (w : World) (hr0 : Kd.C (Kd.int .i64) w A0 l0.length l0) (hc0 : l0.length ≤ c0) (h : spec_Knows.f k l0 a1_0 a1_1 = some r) :
  Calls Tryz.prog 48 #[.slice A0 l0.length c0, .agg #[.int .i64 a1_0, .int .i64 a1_1]] w fun e w' => e = .returned (.bool r) ∧ Below w.heap.size w w' := by
 have hu59 := Tryz.underlying59
 have HR0 := Aside0.mk hr0
 have HC0 := Aside0.mk hc0
 clear hr0 hc0
 have HB := Aside0.mk (Below.refl w.heap.size w)
 have H := h
 unfold spec_Knows.f at H
 clear h
 replace H := Option.bind_eq_some_iff.mp H
 obtain ⟨t151, A30, H⟩ := H
 (try dsimp only at H)
 have A3 := Aside0.mk A30
 clear A30
 by_cases c4 : t151 = true
 rotate_left
 ·
  replace c4 := Bool.eq_false_iff.mpr c4
  subst c4
  rw [if_neg (show ¬ (false = true) by decide)] at H
  obtain rfl := Option.some.inj H
  go_enter Tryz.func48, Tryz.ntmps48
  try go_wp2_with (first | ((with_reducible refine gate_dst (N := 3) rfl ?_); refine box_event ?hg (N := 3) ?hd (cs := #[.int .i64 a1_0, .int .i64 a1_1]) (t := 59) ?hr ?_; (case hd => rfl); (case hg => rfl); (case hr => first | (go_simp; done) | (go_simp; rfl)); intro gb150 hg w15 hbox hb; have BK150 := Aside0.mk (hbox); have GW150 := gw_ w z4_1 hg; have GE150 := gw_ w z4_1 hg; replace HB := Aside0.mk (below_step z4_1 hb); clear hb hbox hg))
  replace BK150 := Aside0.mk (blk_drew BK150.out)
  replace HB := Aside0.mk (below_drew1 HB.out)
  refine start_ (n := 17) (S := fun w' => True) (ds := []) mk4_0 z4_4 rfl rfl trivial (fun hHeld => ?_); refine with_tabW spec_Knows.tab1 spec_Knows.bits1 (fun HT_ HW_ => ?_)
  generalize w15.drew = w16 at BK150 HB hHeld ⊢
  refine p_ (i := 0) (N := some 5) mk4_1 ?_ (hv := z4_2) (ha := z4_0)
  refine o_ (i := 1) (N := some 6) mk4_2 (fun K hK => ?_)
  refine goes_ Tryz.func71 z4_4 rfl #[.slice A0 l0.length c0] (by rfl) rfl rfl z4_6 ?_
  with_reducible refine (spec_KnowOk.calls k _ _ l0 false _ ?side1 ?side2 A3.out).mono ?_
  (case side1 => exact z4_11)
  (case side2 => exact HC0.out)
  rintro e w' ⟨rfl, ⟨nd, rfl⟩⟩
  refine ⟨_, rfl, ?_⟩
  refine hK.out _ _ trivial (fun hHeld => ?_)
  clear hK K
  refine n_ (N := some 6) ?_
  refine p_ (i := 2) (N := some 7) mk4_3 ?_ (hv := z4_2) (ha := z4_0)
  refine u_ (i := 3) (N := some 8) mk4_4 ?_ (ha := z4_0)
  refine u_ (i := 4) (N := some 9) mk4_5 ?_ (ha := z4_0)
  refine p_ (i := 5) (N := some 10) mk4_6 ?_ (hv := z4_2) (ha := z4_0)
  refine p_ (i := 6) (N := some 11) mk4_7 ?_ (hv := z4_2) (ha := z4_0)
  refine u_ (i := 7) (N := some 12) mk4_8 ?_ (ha := z4_0)
  refine u_ (i := 8) (N := some 13) mk4_18 ?_ (ha := z4_0)
  refine u_ (i := 9) (N := some 14) mk4_19 ?_ (ha := z4_0)
  refine u_ (i := 10) (N := some 15) mk4_11 ?_ (ha := z4_0)
  refine u_ (i := 11) (N := some 16) mk4_12 ?_ (ha := z4_0)
  refine u_ (i := 12) (N := some 17) mk4_13 ?_ (ha := z4_0)
  refine u_ (i := 13) (N := some 18) mk4_14 ?_ (ha := z4_0)
  refine u_ (i := 14) (N := some 19) mk4_15 ?_ (ha := z4_0)
  refine p_ (i := 15) (N := some 20) mk4_16 ?_ (hv := z4_2) (ha := z4_0)
  refine p_ (i := 16) (N := some 4) mk4_17 ?_ (hv := z4_2) (ha := z4_0)
  refine done_ (done_of HT_.out z4_4) ?_
  try go_wp2
  go_ret
  exact ⟨z4_8, z4_3⟩
 subst c4
 rw [if_pos rfl] at H
 replace H := Option.bind_eq_some_iff.mp H
 obtain ⟨t152, A50, H⟩ := H
 (try dsimp only at H)
 have A5 := Aside0.mk A50
 clear A50
 by_cases c6 : t152 = true
 rotate_left
 ·
  replace c6 := Bool.eq_false_iff.mpr c6
  subst c6
  rw [if_neg (show ¬ (false = true) by decide)] at H
  obtain rfl := Option.some.inj H
  go_enter Tryz.func48, Tryz.ntmps48
  try go_wp2_with (first | ((with_reducible refine gate_dst (N := 3) rfl ?_); refine box_event ?hg (N := 3) ?hd (cs := #[.int .i64 a1_0, .int .i64 a1_1]) (t := 59) ?hr ?_; (case hd => rfl); (case hg => rfl); (case hr => first | (go_simp; done) | (go_simp; rfl)); intro gb150 hg w12 hbox hb; have BK150 := Aside0.mk (hbox); have GW150 := gw_ w z4_1 hg; have GE150 := gw_ w z4_1 hg; replace HB := Aside0.mk (below_step z4_1 hb); clear hb hbox hg))
  replace BK150 := Aside0.mk (blk_drew BK150.out)
  replace HB := Aside0.mk (below_drew1 HB.out)
  refine start_ (n := 17) (S := fun w' => w'.cell? ⟨gb150, 0, none⟩ = some (.int .i64 a1_0) ∧ w'.cell? ⟨gb150, 1, none⟩ = some (.int .i64 a1_1)) (ds := []) mk4_0 z4_4 rfl rfl (ln2 BK150) (fun hHeld => ?_); refine with_tabW spec_Knows.tab1 spec_Knows.bits1 (fun HT_ HW_ => ?_)
  generalize w12.drew = w13 at BK150 HB hHeld ⊢
  refine p_ (i := 0) (N := some 5) mk4_1 ?_ (hv := z4_2) (ha := z4_0)
  refine o_ (i := 1) (N := some 6) mk4_2 (fun K hK => ?_)
  refine goes_ Tryz.func71 z4_4 rfl #[.slice A0 l0.length c0] (by rfl) rfl rfl z4_6 ?_
  with_reducible refine (spec_KnowOk.calls k _ _ l0 true _ ?side1 ?side2 A3.out).mono ?_
  (case side1 => exact z4_11)
  (case side2 => exact HC0.out)
  rintro e w' ⟨rfl, ⟨nd, rfl⟩⟩
  refine ⟨_, rfl, ?_⟩
  refine hK.out _ _ (ln2 BK150) (fun hHeld => ?_)
  clear hK K
  refine n_ (N := some 6) ?_
  refine p_ (i := 2) (N := some 7) mk4_3 ?_ (hv := z4_2) (ha := z4_0)
  refine t_ (i := 3) (N := some 8) mk4_4 hHeld ?_ (ha := z4_0)
  refine o_ (i := 4) (N := some 9) mk4_5 (fun K hK => ?_)
  refine goes_ Tryz.func76 z4_4 rfl #[.agg #[.int .i64 a1_0, .int .i64 a1_1]] (by rfl) rfl rfl z4_6 ?_
  with_reducible refine (spec_DotOk.calls a1_0 a1_1 false _ A5.out).mono ?_
  rintro e w14 ⟨rfl, hb⟩
  refine ⟨_, rfl, ?_⟩
  replace BK150 := bb_ BK150 z4_10 hb
  replace HB := Aside0.mk (below_step z4_3 hb)
  (try clear hb)
  (try clear hb2)
  (try clear hk)
  (try clear hi)
  refine hK.out _ _ (ln2 BK150) (fun hHeld => ?_)
  clear hK K
  refine n_ (N := some 9) ?_
  refine p_ (i := 5) (N := some 10) mk4_6 ?_ (hv := z4_2) (ha := z4_0)
  refine p_ (i := 6) (N := some 11) mk4_7 ?_ (hv := z4_2) (ha := z4_0)
  refine u_ (i := 7) (N := some 12) mk4_8 ?_ (ha := z4_0)
  refine u_ (i := 8) (N := some 13) mk4_18 ?_ (ha := z4_0)
  refine u_ (i := 9) (N := some 14) mk4_19 ?_ (ha := z4_0)
  refine u_ (i := 10) (N := some 15) mk4_11 ?_ (ha := z4_0)
  refine u_ (i := 11) (N := some 16) mk4_12 ?_ (ha := z4_0)
  refine u_ (i := 12) (N := some 17) mk4_13 ?_ (ha := z4_0)
  refine u_ (i := 13) (N := some 18) mk4_14 ?_ (ha := z4_0)
  refine u_ (i := 14) (N := some 19) mk4_15 ?_ (ha := z4_0)
  refine p_ (i := 15) (N := some 20) mk4_16 ?_ (hv := z4_2) (ha := z4_0)
  refine p_ (i := 16) (N := some 4) mk4_17 ?_ (hv := z4_2) (ha := z4_0)
  refine done_ (done_of HT_.out z4_4) ?_
  try go_wp2
  go_ret
  exact ⟨z4_8, z4_3⟩
 subst c6
 rw [if_pos rfl] at H
 by_cases c7 : 0 ≤ a1_0
 rotate_left
 ·
  rw [if_neg c7] at H
  exact absurd H (by simp)
 rw [if_pos c7] at H
 have c7b0 : decide (0 ≤ a1_0) = true := decide_eq_true c7
 clear c7
 by_cases c8 : a1_0 < (l0.length : Int)
 rotate_left
 ·
  rw [if_neg c8] at H
  exact absurd H (by simp)
 rw [if_pos c8] at H
 have c8b0 : decide (a1_0 < (l0.length : Int)) = true := decide_eq_true c8
 clear c8
 obtain rfl := Option.some.inj H
 go_enter Tryz.func48, Tryz.ntmps48
 try go_wp2_with (first | ((with_reducible refine gate_dst (N := 3) rfl ?_); refine box_event ?hg (N := 3) ?hd (cs := #[.int .i64 a1_0, .int .i64 a1_1]) (t := 59) ?hr ?_; (case hd => rfl); (case hg => rfl); (case hr => first | (go_simp; done) | (go_simp; rfl)); intro gb150 hg w9 hbox hb; have BK150 := Aside0.mk (hbox); have GW150 := gw_ w z4_1 hg; have GE150 := gw_ w z4_1 hg; replace HB := Aside0.mk (below_step z4_1 hb); clear hb hbox hg))
 replace BK150 := Aside0.mk (blk_drew BK150.out)
 replace HB := Aside0.mk (below_drew1 HB.out)
 have p153 : 0 ≤ (a1_0 : Int) := of_decide_eq_true z4_5
 have q153 : a1_0 < (l0.length : Int) := of_decide_eq_true z4_5
 obtain ⟨ad153, e153, hx153_0⟩ := Kd.at_int HR0.out a1_0 p153 q153
 have hw153_0 := hx153_0
 cases e153
 replace hx153_0 := cb_ HB hx153_0
 replace p153 := eq_true p153
 replace q153 := eq_true q153
 refine start_ (n := 17) (S := fun w' => w'.cell? ⟨gb150, 0, none⟩ = some (.int .i64 a1_0) ∧ w'.cell? ⟨gb150, 1, none⟩ = some (.int .i64 a1_1) ∧ w'.cell? (ad153.add (a1_0).toNat) = some (.int .i64 (rd l0 a1_0))) (ds := []) mk4_0 z4_4 rfl rfl (jn2 BK150 (cb_ HB hw153_0)) (fun hHeld => ?_); refine with_tabW spec_Knows.tab1 spec_Knows.bits1 (fun HT_ HW_ => ?_)
 generalize w9.drew = w10 at BK150 HB hx153_0 hHeld ⊢
 refine p_ (i := 0) (N := some 5) mk4_1 ?_ (hv := z4_2) (ha := z4_0)
 refine o_ (i := 1) (N := some 6) mk4_2 (fun K hK => ?_)
 refine goes_ Tryz.func71 z4_4 rfl #[.slice (some ad153) l0.length c0] (by rfl) rfl rfl z4_6 ?_
 with_reducible refine (spec_KnowOk.calls k _ _ l0 true _ ?side1 ?side2 A3.out).mono ?_
 (case side1 => exact z4_11)
 (case side2 => exact HC0.out)
 rintro e w' ⟨rfl, ⟨nd, rfl⟩⟩
 refine ⟨_, rfl, ?_⟩
 refine hK.out _ _ (jn2 BK150 (cb_ HB hw153_0)) (fun hHeld => ?_)
 clear hK K
 refine n_ (N := some 6) ?_
 refine p_ (i := 2) (N := some 7) mk4_3 ?_ (hv := z4_2) (ha := z4_0)
 refine t_ (i := 3) (N := some 8) mk4_4 hHeld ?_ (ha := z4_0)
 refine o_ (i := 4) (N := some 9) mk4_5 (fun K hK => ?_)
 refine goes_ Tryz.func76 z4_4 rfl #[.agg #[.int .i64 a1_0, .int .i64 a1_1]] (by rfl) rfl rfl z4_6 ?_
 with_reducible refine (spec_DotOk.calls a1_0 a1_1 true _ A5.out).mono ?_
 rintro e w11 ⟨rfl, hb⟩
 refine ⟨_, rfl, ?_⟩
 replace BK150 := bb_ BK150 z4_10 hb
 replace HB := Aside0.mk (below_step z4_3 hb)
 (try clear hb)
 (try clear hb2)
 (try clear hk)
 (try clear hi)
 refine hK.out _ _ (jn2 BK150 (cb_ HB hw153_0)) (fun hHeld => ?_)
 clear hK K
 refine n_ (N := some 9) ?_
 refine p_ (i := 5) (N := some 10) mk4_6 ?_ (hv := z4_2) (ha := z4_0)
 refine p_ (i := 6) (N := some 11) mk4_7 ?_ (hv := z4_2) (ha := z4_0)
 refine p_ (i := 7) (N := some 12) mk4_8 ?_ (hv := z4_2) (ha := z4_0)
 refine p_ (i := 9) (N := some 14) mk4_9 ?_ (hv := z4_2) (ha := z4_0)
 refine p_ (i := 10) (N := some 15) mk4_10 ?_ (hv := z4_2) (ha := z4_0)
 refine t_ (i := 8) (N := some 13) mk4_11 hHeld ?_ (ha := z4_0)
 refine t_ (i := 11) (N := some 16) mk4_12 hHeld ?_ (ha := z4_0)
 refine p_ (i := 12) (N := some 17) mk4_13 ?_ (hv := z4_2) (ha := z4_0)
 refine t_ (i := 13) (N := some 18) mk4_14 hHeld ?_ (ha := z4_0)
 refine p_ (i := 14) (N := some 19) mk4_15 ?_ (hv := z4_2) (ha := z4_0)
 refine p_ (i := 15) (N := some 20) mk4_16 ?_ (hv := z4_2) (ha := z4_0)
 refine p_ (i := 16) (N := some 4) mk4_17 ?_ (hv := z4_2) (ha := z4_0)
 refine done_ (done_of HT_.out z4_4) ?_
 try go_wp2
 go_ret
 exact ⟨z4_8, z4_3⟩
def spec_NameOk.l0 : Nat → ByteArray → Int → Option (Bool)
  | 0, _, _ => none
  | k + 1, x0, x3 => if x3 < (x0.size : Int) then (if 0 ≤ x3 then (if (bt x0 x3) < 97 then (some false) else (if (bt x0 x3) > 122 then (some false) else (spec_NameOk.l0 k x0 (wrap64 (x3 + 1))))) else (none)) else ((spec_l01In.f (x0.size : Int) 1 8).bind fun t154 => (some t154))
def spec_NameOk.f (k : Nat) (a0 : ByteArray) : Option (Bool) := spec_NameOk.l0 k a0 0
set_option maxHeartbeats 8000000 in
set_option maxRecDepth 100000 in
theorem spec_NameOk.calls (k : Nat) (a0 : ByteArray) (r : Bool) (w : World) (h : spec_NameOk.f k a0 = some r) :
  Calls Tryz.prog 95 #[.string a0] w fun e w' => e = .returned (.bool r) ∧ Drawn0 w w' := by
 have H : (spec_NameOk.l0 k a0 0) = some r := h
 clear h
 have H' := Aside0.mk H
 clear H
 go_enter Tryz.func95, Tryz.ntmps95
 go_wp2
 go_loopg [3] k (fun kq v3 w' => ∃ (x3_1 : Int), v3 = .int .i64 x3_1 ∧ Aside0 (spec_NameOk.l0 kq a0 x3_1 = some r) ∧ Aside0 (kq ≤ k) ∧ Drawn0 w w')
 case atStart => exact ⟨(0), z4_9, H', ⟨Nat.le_refl _⟩, z4_7⟩
 case round =>
  clear H'
  obtain ⟨x3_1, rfl, HA, HK1, ⟨m1, rfl⟩⟩ := hrel
  cases gk with
  | zero => exact absurd HA.out (by simp [spec_NameOk.l0])
  | succ k1 =>
   have H := HA.out
   clear HA
   simp only [spec_NameOk.l0] at H
   by_cases c2 : x3_1 < (a0.size : Int)
   rotate_left
   ·
    rw [if_neg c2] at H
    have c2b0 : decide (x3_1 < (a0.size : Int)) = false := decide_eq_false c2
    clear c2
    replace H := Option.bind_eq_some_iff.mp H
    obtain ⟨t154, A80, H⟩ := H
    (try dsimp only at H)
    have A8 := Aside0.mk A80
    clear A80
    obtain rfl := Option.some.inj H
    go_wp2_with (first | ((with_reducible refine gate_callee (f := 77) rfl ?_); refine goesL_ (some 22) rfl rfl Tryz.func77 z4_4 rfl #[.int .i64 (a0.size : Int), .int .i64 1, .int .i64 8] rfl z4_6 ?_; (with_reducible refine (spec_l01In.calls (a0.size : Int) 1 8 t154 _ A8.out).mono ?_); rintro e w' ⟨rfl, ⟨nd, rfl⟩⟩; refine ⟨_, rfl, ?_⟩))
    go_ret
    exact ⟨z4_9, z4_7⟩
   rw [if_pos c2] at H
   have c2b0 : decide (x3_1 < (a0.size : Int)) = true := decide_eq_true c2
   clear c2
   by_cases c3 : 0 ≤ x3_1
   rotate_left
   ·
    rw [if_neg c3] at H
    exact absurd H (by simp)
   rw [if_pos c3] at H
   have c3b0 : decide (0 ≤ x3_1) = true := decide_eq_true c3
   clear c3
   by_cases c5 : (bt a0 x3_1) < 97
   ·
    rw [if_pos c5] at H
    have c5b0 : decide ((bt a0 x3_1) < 97) = true := decide_eq_true c5
    clear c5
    obtain rfl := Option.some.inj H
    have p4 : 0 ≤ (x3_1 : Int) := of_decide_eq_true z4_5
    have q4 : x3_1 < (a0.size : Int) := of_decide_eq_true z4_5
    have hx4 := bt_at a0 x3_1
    replace p4 := eq_true p4
    replace q4 := eq_true q4
    go_wp2
    go_ret
    exact ⟨z4_9, z4_7⟩
   rw [if_neg c5] at H
   have c5b0 : decide ((bt a0 x3_1) < 97) = false := decide_eq_false c5
   clear c5
   by_cases c7 : (bt a0 x3_1) > 122
   ·
    rw [if_pos c7] at H
    have c7b0 : decide (122 < (bt a0 x3_1)) = true := decide_eq_true c7
    clear c7
    obtain rfl := Option.some.inj H
    have p4 : 0 ≤ (x3_1 : Int) := of_decide_eq_true z4_5
    have q4 : x3_1 < (a0.size : Int) := of_decide_eq_true z4_5
    have hx4 := bt_at a0 x3_1
    replace p4 := eq_true p4
    replace q4 := eq_true q4
    have p6 : 0 ≤ (x3_1 : Int) := of_decide_eq_true z4_5
    have q6 : x3_1 < (a0.size : Int) := of_decide_eq_true z4_5
    have hx6 := bt_at a0 x3_1
    replace p6 := eq_true p6
    replace q6 := eq_true q6
    go_wp2
    go_ret
    exact ⟨z4_9, z4_7⟩
   rw [if_neg c7] at H
   have c7b0 : decide (122 < (bt a0 x3_1)) = false := decide_eq_false c7
   clear c7
   have H' := Aside0.mk H
   clear H
   have p4 : 0 ≤ (x3_1 : Int) := of_decide_eq_true z4_5
   have q4 : x3_1 < (a0.size : Int) := of_decide_eq_true z4_5
   have hx4 := bt_at a0 x3_1
   replace p4 := eq_true p4
   replace q4 := eq_true q4
   have p6 : 0 ≤ (x3_1 : Int) := of_decide_eq_true z4_5
   have q6 : x3_1 < (a0.size : Int) := of_decide_eq_true z4_5
   have hx6 := bt_at a0 x3_1
   replace p6 := eq_true p6
   replace q6 := eq_true q6
   go_wp2
   go_roundg k1
   case measure => have := HK1.out; omega
   case rel => exact ⟨(wrap64 (x3_1 + 1)), z4_9, H', ⟨by have := HK1.out; omega⟩, z4_7⟩
end Go.Proofs.YtbanogkoaplcdaaGreat.QDa
