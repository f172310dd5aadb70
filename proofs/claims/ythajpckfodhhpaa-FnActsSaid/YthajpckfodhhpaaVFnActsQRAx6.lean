/- What the functions behind RA compute, and that the program's calls come to just that. Written by a program of this session on the base of the kit's print. No condition. -/
import Derived.Test.YthajpckfodhhpaaVFnActsShort
import Derived.Test.YthajpckfodhhpaaVFnActsQRAx0
import Derived.Test.YthajpckfodhhpaaVFnActsQRAx5
namespace Go.Proofs.Ythajpckfodhhpaa.QRA
open Go.RowKit Go.Proofs.Ythajpckfodhhpaa.Short Go.Proofs.YthajpckfodhhpaaW.PrintWords Go.Proofs.YthajpckfodhhpaaW.PrintLast Go.Proofs.YthajpckfodhhpaaW.PrintMore
attribute [local go_sem] max2_int min2_int max_two min_two max_three min_three max_four min_four   -- for this text's walks alone
set_option linter.unusedVariables false
set_option linter.unusedSimpArgs false
theorem z6_10 {P : Prop} (h : P := by (with_reducible repeat (first | refine blk_drewN ?_ _ | refine blk_drew ?_ | refine blk_alloc ?_ _)); exact BK286.out) : P := h
theorem z6_9 {P : Prop} (h : P := by first | rfl | (simp [errW_none, errW_some] <;> rfl) | (simp [*, errW_none, errW_some] <;> rfl)) : P := h
theorem z6_8 {P : Prop} (h : P := by first | (with_reducible assumption) | assumption) : P := h
theorem z6_7 {P : Prop} (h : P := by first | rfl | (simp; done) | (simp [*]; done)) : P := h
theorem z6_6 {P : Prop} (h : P := by repeat (first | exact Drawn0.refl _ | apply Drawn0.step)) : P := h
theorem z6_5 {P : Prop} (h : P := by kernel_rfl) : P := h
theorem z6_4 {P : Prop} (h : P := by repeat (first | (with_reducible first | exact HB.out | apply below_alloc | apply pw_below_drewN | apply below_drew1 | refine below_set ?_ GE286.out) | exact HB.out)) : P := h
theorem z6_3 {P : Prop} (h : P := by first | rfl | (simp only [List.map_toArray, List.map_cons, List.map_nil]; first | done | rfl)) : P := h
theorem z6_2 {P : Prop} (h : P := by intro w'; go_simp; with_reducible rfl) : P := h
theorem z6_1 {P : Prop} (h : P := by repeat (first | (with_reducible first | exact HB.out | apply below_alloc | apply pw_below_drewN | apply below_drew1) | exact HB.out)) : P := h
theorem z6_0 {P : Prop} (h : P := by simp only [Act.put, List.setIfInBounds_toArray, List.set_cons_zero, List.set_cons_succ, i64_w, i32_w]; rfl) : P := h
abbrev mk6_0 : Array Bool := mb 17 0
abbrev mk6_1 : Array Bool := mb 17 1
abbrev mk6_2 : Array Bool := mb 17 3
abbrev mk6_3 : Array Bool := mb 17 7
abbrev mk6_4 : Array Bool := mb 17 15
abbrev mk6_5 : Array Bool := mb 17 31
abbrev mk6_6 : Array Bool := mb 17 63
abbrev mk6_7 : Array Bool := mb 17 127
abbrev mk6_8 : Array Bool := mb 17 255
abbrev mk6_9 : Array Bool := mb 17 767
abbrev mk6_10 : Array Bool := mb 17 1791
abbrev mk6_11 : Array Bool := mb 17 2047
abbrev mk6_12 : Array Bool := mb 17 4095
abbrev mk6_13 : Array Bool := mb 17 8191
abbrev mk6_14 : Array Bool := mb 17 16383
abbrev mk6_15 : Array Bool := mb 17 32767
abbrev mk6_16 : Array Bool := mb 17 65535
abbrev mk6_17 : Array Bool := mb 17 131071
abbrev mk6_18 : Array Bool := mb 17 511
abbrev mk6_19 : Array Bool := mb 17 1023
theorem z6_11 {P : Prop} (h : P := by repeat (first | exact (Kd.C_below HR0.out HB.out) | (with_reducible refine Kd.C_alloc ?_ _) | (with_reducible refine Kd.C_drewN ?_ _) | (with_reducible refine Kd.C_drew ?_))) : P := h
def impl_Knows.f (k : Nat) (l0 : List Int) (a1_0 : Int) (a1_1 : Int) : Option (Bool) := (impl_KnowOk.f k l0).bind fun t287 => (if t287 = true then ((impl_DotOk.f a1_0 a1_1).bind fun t288 => (if t288 = true then (if 0 ≤ a1_0 then (if a1_0 < (l0.length : Int) then (some (decide (a1_1 ≤ (rd l0 a1_0)))) else (none)) else (none)) else (some false))) else (some false))
def impl_Knows.T1 : Bool × List (List Nat × List Nat) := (true, [([], []), ([0], [0]), ([1, 1], [1]), ([2], [2]), ([3, 2, 2], [2, 3]), ([2, 4], [2, 4]), ([5, 4], [5]), ([6], [6]), ([7, 6], [6, 7]), ([6], [6]), ([6], [6]), ([10, 6], [6, 10]), ([9, 11, 6], [6, 9, 11]), ([12, 6], [6, 12]), ([8, 13, 6], [6, 8, 13]), ([6, 14], [6, 14]), ([15, 6, 0, 1, 2, 3, 4, 5, 6, 7, 8, 9, 10, 11, 12, 13, 14, 15], [15])])
def impl_Knows.B1 : List Nat := [0, 1, 3, 7, 15, 31, 63, 127, 255, 127, 127, 1151, 3711, 7807, 16383, 32767, 65535]
theorem impl_Knows.tab1 : rtab .any (opsOf Try.f49 1) = impl_Knows.T1 := by kernel_rfl
theorem impl_Knows.bits1 : waitsOk impl_Knows.T1.2 impl_Knows.B1 = true := by kernel_rfl
set_option maxHeartbeats 8000000 in
set_option maxRecDepth 100000 in
theorem impl_Knows.calls (k : Nat) (A0 : Option Addr) (c0 : Nat) (l0 : List Int) (a1_0 : Int) (a1_1 : Int) (r : Bool) (w : World) (hr0 : Kd.C (Kd.int .i64) w A0 l0.length l0) (hc0 : l0.length ≤ c0) (h : impl_Knows.f k l0 a1_0 a1_1 = some r) :
  Calls Try.prog 49 #[.slice A0 l0.length c0, .agg #[.int .i64 a1_0, .int .i64 a1_1]] w fun e w' => e = .returned (.bool r) ∧ Below w.heap.size w w' := by
 have hu28 := Try.underlying28
 have HR0 := Aside0.mk hr0
 have HC0 := Aside0.mk hc0
 clear hr0 hc0
 have HB := Aside0.mk (Below.refl w.heap.size w)
 have H := h
 unfold impl_Knows.f at H
 clear h
 replace H := Option.bind_eq_some_iff.mp H
 obtain ⟨t287, A30, H⟩ := H
 (try dsimp only at H)
 have A3 := Aside0.mk A30
 clear A30
 by_cases c4 : t287 = true
 rotate_left
 ·
  replace c4 := Bool.eq_false_iff.mpr c4
  subst c4
  rw [if_neg (show ¬ (false = true) by decide)] at H
  obtain rfl := Option.some.inj H
  go_enter Try.func49, Try.ntmps49
  try go_wp2_with (first | ((with_reducible refine gate_dst (N := 3) rfl ?_); refine box_event ?hg (N := 3) ?hd (cs := #[.int .i64 a1_0, .int .i64 a1_1]) (t := 28) ?hr ?_; (case hd => rfl); (case hg => rfl); (case hr => first | (go_simp; done) | (go_simp; rfl)); intro gb286 hg w15 hbox hb; have BK286 := Aside0.mk (hbox); have GW286 := gw_ w z6_1 hg; have GE286 := gw_ w z6_1 hg; replace HB := Aside0.mk (below_step z6_1 hb); clear hb hbox hg))
  replace BK286 := Aside0.mk (blk_drew BK286.out)
  replace HB := Aside0.mk (below_drew1 HB.out)
  refine start_ (n := 17) (S := fun w' => True) (ds := []) mk6_0 z6_5 rfl rfl trivial (fun hHeld => ?_); refine with_tabW impl_Knows.tab1 impl_Knows.bits1 (fun HT_ HW_ => ?_)
  generalize w15.drew = w16 at BK286 HB hHeld ⊢
  refine p_ (i := 0) (N := some 5) mk6_1 ?_ (hv := z6_2) (ha := z6_0)
  refine o_ (i := 1) (N := some 6) mk6_2 (fun K hK => ?_)
  refine goes_ Try.func47 z6_5 rfl #[.slice A0 l0.length c0] (by rfl) rfl rfl z6_3 ?_
  with_reducible refine (impl_KnowOk.calls k _ _ l0 false _ ?side1 ?side2 A3.out).mono ?_
  (case side1 => exact z6_11)
  (case side2 => exact HC0.out)
  rintro e w' ⟨rfl, ⟨nd, rfl⟩⟩
  refine ⟨_, rfl, ?_⟩
  refine hK.out _ _ trivial (fun hHeld => ?_)
  clear hK K
  refine n_ ?_
  refine p_ (i := 2) (N := some 7) mk6_3 ?_ (hv := z6_2) (ha := z6_0)
  refine u_ (i := 3) (N := some 8) mk6_4 ?_ (ha := z6_0)
  refine u_ (i := 4) (N := some 9) mk6_5 ?_ (ha := z6_0)
  refine p_ (i := 5) (N := some 10) mk6_6 ?_ (hv := z6_2) (ha := z6_0)
  refine p_ (i := 6) (N := some 11) mk6_7 ?_ (hv := z6_2) (ha := z6_0)
  refine u_ (i := 7) (N := some 12) mk6_8 ?_ (ha := z6_0)
  refine u_ (i := 8) (N := some 13) mk6_18 ?_ (ha := z6_0)
  refine u_ (i := 9) (N := some 14) mk6_19 ?_ (ha := z6_0)
  refine u_ (i := 10) (N := some 15) mk6_11 ?_ (ha := z6_0)
  refine u_ (i := 11) (N := some 16) mk6_12 ?_ (ha := z6_0)
  refine u_ (i := 12) (N := some 17) mk6_13 ?_ (ha := z6_0)
  refine u_ (i := 13) (N := some 18) mk6_14 ?_ (ha := z6_0)
  refine u_ (i := 14) (N := some 19) mk6_15 ?_ (ha := z6_0)
  refine p_ (i := 15) (N := some 20) mk6_16 ?_ (hv := z6_2) (ha := z6_0)
  refine p_ (i := 16) (N := some 4) mk6_17 ?_ (hv := z6_2) (ha := z6_0)
  refine done_ (done_of HT_.out z6_5) ?_
  try go_wp2
  go_ret
  exact ⟨z6_9, z6_4⟩
 subst c4
 rw [if_pos rfl] at H
 replace H := Option.bind_eq_some_iff.mp H
 obtain ⟨t288, A50, H⟩ := H
 (try dsimp only at H)
 have A5 := Aside0.mk A50
 clear A50
 by_cases c6 : t288 = true
 rotate_left
 ·
  replace c6 := Bool.eq_false_iff.mpr c6
  subst c6
  rw [if_neg (show ¬ (false = true) by decide)] at H
  obtain rfl := Option.some.inj H
  go_enter Try.func49, Try.ntmps49
  try go_wp2_with (first | ((with_reducible refine gate_dst (N := 3) rfl ?_); refine box_event ?hg (N := 3) ?hd (cs := #[.int .i64 a1_0, .int .i64 a1_1]) (t := 28) ?hr ?_; (case hd => rfl); (case hg => rfl); (case hr => first | (go_simp; done) | (go_simp; rfl)); intro gb286 hg w12 hbox hb; have BK286 := Aside0.mk (hbox); have GW286 := gw_ w z6_1 hg; have GE286 := gw_ w z6_1 hg; replace HB := Aside0.mk (below_step z6_1 hb); clear hb hbox hg))
  replace BK286 := Aside0.mk (blk_drew BK286.out)
  replace HB := Aside0.mk (below_drew1 HB.out)
  refine start_ (n := 17) (S := fun w' => w'.cell? ⟨gb286, 0, none⟩ = some (.int .i64 a1_0) ∧ w'.cell? ⟨gb286, 1, none⟩ = some (.int .i64 a1_1)) (ds := []) mk6_0 z6_5 rfl rfl (ln2 BK286) (fun hHeld => ?_); refine with_tabW impl_Knows.tab1 impl_Knows.bits1 (fun HT_ HW_ => ?_)
  generalize w12.drew = w13 at BK286 HB hHeld ⊢
  refine p_ (i := 0) (N := some 5) mk6_1 ?_ (hv := z6_2) (ha := z6_0)
  refine o_ (i := 1) (N := some 6) mk6_2 (fun K hK => ?_)
  refine goes_ Try.func47 z6_5 rfl #[.slice A0 l0.length c0] (by rfl) rfl rfl z6_3 ?_
  with_reducible refine (impl_KnowOk.calls k _ _ l0 true _ ?side1 ?side2 A3.out).mono ?_
  (case side1 => exact z6_11)
  (case side2 => exact HC0.out)
  rintro e w' ⟨rfl, ⟨nd, rfl⟩⟩
  refine ⟨_, rfl, ?_⟩
  refine hK.out _ _ (ln2 BK286) (fun hHeld => ?_)
  clear hK K
  refine n_ ?_
  refine p_ (i := 2) (N := some 7) mk6_3 ?_ (hv := z6_2) (ha := z6_0)
  refine t_ (i := 3) (N := some 8) mk6_4 hHeld ?_ (ha := z6_0)
  refine o_ (i := 4) (N := some 9) mk6_5 (fun K hK => ?_)
  refine goes_ Try.func46 z6_5 rfl #[.agg #[.int .i64 a1_0, .int .i64 a1_1]] (by rfl) rfl rfl z6_3 ?_
  with_reducible refine (impl_DotOk.calls a1_0 a1_1 false _ A5.out).mono ?_
  rintro e w14 ⟨rfl, hb⟩
  refine ⟨_, rfl, ?_⟩
  replace BK286 := bb_ BK286 z6_10 hb
  replace HB := Aside0.mk (below_step z6_4 hb)
  (try clear hb)
  (try clear hb2)
  (try clear hk)
  (try clear hi)
  refine hK.out _ _ (ln2 BK286) (fun hHeld => ?_)
  clear hK K
  refine n_ ?_
  refine p_ (i := 5) (N := some 10) mk6_6 ?_ (hv := z6_2) (ha := z6_0)
  refine p_ (i := 6) (N := some 11) mk6_7 ?_ (hv := z6_2) (ha := z6_0)
  refine u_ (i := 7) (N := some 12) mk6_8 ?_ (ha := z6_0)
  refine u_ (i := 8) (N := some 13) mk6_18 ?_ (ha := z6_0)
  refine u_ (i := 9) (N := some 14) mk6_19 ?_ (ha := z6_0)
  refine u_ (i := 10) (N := some 15) mk6_11 ?_ (ha := z6_0)
  refine u_ (i := 11) (N := some 16) mk6_12 ?_ (ha := z6_0)
  refine u_ (i := 12) (N := some 17) mk6_13 ?_ (ha := z6_0)
  refine u_ (i := 13) (N := some 18) mk6_14 ?_ (ha := z6_0)
  refine u_ (i := 14) (N := some 19) mk6_15 ?_ (ha := z6_0)
  refine p_ (i := 15) (N := some 20) mk6_16 ?_ (hv := z6_2) (ha := z6_0)
  refine p_ (i := 16) (N := some 4) mk6_17 ?_ (hv := z6_2) (ha := z6_0)
  refine done_ (done_of HT_.out z6_5) ?_
  try go_wp2
  go_ret
  exact ⟨z6_9, z6_4⟩
 subst c6
 rw [if_pos rfl] at H
 by_cases c7 : 0 ≤ a1_0
 rotate_left
 ·
  rw [if_neg c7] at H
  exact absurd H (by simp)
 rw [if_pos c7] at H
 have c7b0 : decide (0 ≤ a1_0) = true := decide_eq_true c7
 clear c7
 by_cases c8 : a1_0 < (l0.length : Int)
 rotate_left
 ·
  rw [if_neg c8] at H
  exact absurd H (by simp)
 rw [if_pos c8] at H
 have c8b0 : decide (a1_0 < (l0.length : Int)) = true := decide_eq_true c8
 clear c8
 obtain rfl := Option.some.inj H
 go_enter Try.func49, Try.ntmps49
 try go_wp2_with (first | ((with_reducible refine gate_dst (N := 3) rfl ?_); refine box_event ?hg (N := 3) ?hd (cs := #[.int .i64 a1_0, .int .i64 a1_1]) (t := 28) ?hr ?_; (case hd => rfl); (case hg => rfl); (case hr => first | (go_simp; done) | (go_simp; rfl)); intro gb286 hg w9 hbox hb; have BK286 := Aside0.mk (hbox); have GW286 := gw_ w z6_1 hg; have GE286 := gw_ w z6_1 hg; replace HB := Aside0.mk (below_step z6_1 hb); clear hb hbox hg))
 replace BK286 := Aside0.mk (blk_drew BK286.out)
 replace HB := Aside0.mk (below_drew1 HB.out)
 have p289 : 0 ≤ (a1_0 : Int) := of_decide_eq_true z6_8
 have q289 : a1_0 < (l0.length : Int) := of_decide_eq_true z6_8
 obtain ⟨ad289, e289, hx289_0⟩ := Kd.at_int HR0.out a1_0 p289 q289
 have hw289_0 := hx289_0
 cases e289
 replace hx289_0 := cb_ HB hx289_0
 replace p289 := eq_true p289
 replace q289 := eq_true q289
 refine start_ (n := 17) (S := fun w' => w'.cell? ⟨gb286, 0, none⟩ = some (.int .i64 a1_0) ∧ w'.cell? ⟨gb286, 1, none⟩ = some (.int .i64 a1_1) ∧ w'.cell? (ad289.add (a1_0).toNat) = some (.int .i64 (rd l0 a1_0))) (ds := []) mk6_0 z6_5 rfl rfl (jn2 BK286 (cb_ HB hw289_0)) (fun hHeld => ?_); refine with_tabW impl_Knows.tab1 impl_Knows.bits1 (fun HT_ HW_ => ?_)
 generalize w9.drew = w10 at BK286 HB hx289_0 hHeld ⊢
 refine p_ (i := 0) (N := some 5) mk6_1 ?_ (hv := z6_2) (ha := z6_0)
 refine o_ (i := 1) (N := some 6) mk6_2 (fun K hK => ?_)
 refine goes_ Try.func47 z6_5 rfl #[.slice (some ad289) l0.length c0] (by rfl) rfl rfl z6_3 ?_
 with_reducible refine (impl_KnowOk.calls k _ _ l0 true _ ?side1 ?side2 A3.out).mono ?_
 (case side1 => exact z6_11)
 (case side2 => exact HC0.out)
 rintro e w' ⟨rfl, ⟨nd, rfl⟩⟩
 refine ⟨_, rfl, ?_⟩
 refine hK.out _ _ (jn2 BK286 (cb_ HB hw289_0)) (fun hHeld => ?_)
 clear hK K
 refine n_ ?_
 refine p_ (i := 2) (N := some 7) mk6_3 ?_ (hv := z6_2) (ha := z6_0)
 refine t_ (i := 3) (N := some 8) mk6_4 hHeld ?_ (ha := z6_0)
 refine o_ (i := 4) (N := some 9) mk6_5 (fun K hK => ?_)
 refine goes_ Try.func46 z6_5 rfl #[.agg #[.int .i64 a1_0, .int .i64 a1_1]] (by rfl) rfl rfl z6_3 ?_
 with_reducible refine (impl_DotOk.calls a1_0 a1_1 true _ A5.out).mono ?_
 rintro e w11 ⟨rfl, hb⟩
 refine ⟨_, rfl, ?_⟩
 replace BK286 := bb_ BK286 z6_10 hb
 replace HB := Aside0.mk (below_step z6_4 hb)
 (try clear hb)
 (try clear hb2)
 (try clear hk)
 (try clear hi)
 refine hK.out _ _ (jn2 BK286 (cb_ HB hw289_0)) (fun hHeld => ?_)
 clear hK K
 refine n_ ?_
 refine p_ (i := 5) (N := some 10) mk6_6 ?_ (hv := z6_2) (ha := z6_0)
 refine p_ (i := 6) (N := some 11) mk6_7 ?_ (hv := z6_2) (ha := z6_0)
 refine p_ (i := 7) (N := some 12) mk6_8 ?_ (hv := z6_2) (ha := z6_0)
 refine p_ (i := 9) (N := some 14) mk6_9 ?_ (hv := z6_2) (ha := z6_0)
 refine p_ (i := 10) (N := some 15) mk6_10 ?_ (hv := z6_2) (ha := z6_0)
 refine t_ (i := 8) (N := some 13) mk6_11 hHeld ?_ (ha := z6_0)
 refine t_ (i := 11) (N := some 16) mk6_12 hHeld ?_ (ha := z6_0)
 refine p_ (i := 12) (N := some 17) mk6_13 ?_ (hv := z6_2) (ha := z6_0)
 refine t_ (i := 13) (N := some 18) mk6_14 hHeld ?_ (ha := z6_0)
 refine p_ (i := 14) (N := some 19) mk6_15 ?_ (hv := z6_2) (ha := z6_0)
 refine p_ (i := 15) (N := some 20) mk6_16 ?_ (hv := z6_2) (ha := z6_0)
 refine p_ (i := 16) (N := some 4) mk6_17 ?_ (hv := z6_2) (ha := z6_0)
 refine done_ (done_of HT_.out z6_5) ?_
 try go_wp2
 go_ret
 exact ⟨z6_9, z6_4⟩
def impl_NameOk.l0 : Nat → ByteArray → Int → Option (Bool)
  | 0, _, _ => none
  | k + 1, x0, x3 => if x3 < (x0.size : Int) then (if 0 ≤ x3 then ((impl_within.f (wrap64 (bt x0 x3)) 97 122).bind fun t290 => (if t290 = true then (impl_NameOk.l0 k x0 (wrap64 (x3 + 1))) else (some false))) else (none)) else ((impl_within.f (x0.size : Int) 1 8).bind fun t291 => (some t291))
def impl_NameOk.f (k : Nat) (a0 : ByteArray) : Option (Bool) := impl_NameOk.l0 k a0 0
set_option maxHeartbeats 8000000 in
set_option maxRecDepth 100000 in
theorem impl_NameOk.calls (k : Nat) (a0 : ByteArray) (r : Bool) (w : World) (h : impl_NameOk.f k a0 = some r) :
  Calls Try.prog 22 #[.string a0] w fun e w' => e = .returned (.bool r) ∧ Drawn0 w w' := by
 have H : (impl_NameOk.l0 k a0 0) = some r := h
 clear h
 have H' := Aside0.mk H
 clear H
 go_enter Try.func22, Try.ntmps22
 go_wp2
 go_loopg [3] k (fun kq v3 w' => ∃ (x3_1 : Int), v3 = .int .i64 x3_1 ∧ Aside0 (impl_NameOk.l0 kq a0 x3_1 = some r) ∧ Aside0 (kq ≤ k) ∧ Drawn0 w w')
 case atStart => exact ⟨(0), z6_7, H', ⟨Nat.le_refl _⟩, z6_6⟩
 case round =>
  clear H'
  obtain ⟨x3_1, rfl, HA, HK1, ⟨m1, rfl⟩⟩ := hrel
  cases gk with
  | zero => exact absurd HA.out (by simp [impl_NameOk.l0])
  | succ k1 =>
   have H := HA.out
   clear HA
   simp only [impl_NameOk.l0] at H
   by_cases c2 : x3_1 < (a0.size : Int)
   rotate_left
   ·
    rw [if_neg c2] at H
    have c2b0 : decide (x3_1 < (a0.size : Int)) = false := decide_eq_false c2
    clear c2
    replace H := Option.bind_eq_some_iff.mp H
    obtain ⟨t291, A70, H⟩ := H
    (try dsimp only at H)
    have A7 := Aside0.mk A70
    clear A70
    obtain rfl := Option.some.inj H
    go_wp2_with (first | ((with_reducible refine gate_callee (f := 48) rfl ?_); refine goesL_ (some 18) rfl rfl Try.func48 z6_5 rfl #[.int .i64 (a0.size : Int), .int .i64 1, .int .i64 8] rfl z6_3 ?_; (with_reducible refine (impl_within.calls (a0.size : Int) 1 8 t291 _ A7.out).mono ?_); rintro e w' ⟨rfl, ⟨nd, rfl⟩⟩; refine ⟨_, rfl, ?_⟩))
    go_ret
    exact ⟨z6_7, z6_6⟩
   rw [if_pos c2] at H
   have c2b0 : decide (x3_1 < (a0.size : Int)) = true := decide_eq_true c2
   clear c2
   by_cases c3 : 0 ≤ x3_1
   rotate_left
   ·
    rw [if_neg c3] at H
    exact absurd H (by simp)
   rw [if_pos c3] at H
   have c3b0 : decide (0 ≤ x3_1) = true := decide_eq_true c3
   clear c3
   replace H := Option.bind_eq_some_iff.mp H
   obtain ⟨t290, A50, H⟩ := H
   (try dsimp only at H)
   have A5 := Aside0.mk A50
   clear A50
   by_cases c6 : t290 = true
   rotate_left
   ·
    replace c6 := Bool.eq_false_iff.mpr c6
    subst c6
    rw [if_neg (show ¬ (false = true) by decide)] at H
    obtain rfl := Option.some.inj H
    have p4 : 0 ≤ (x3_1 : Int) := of_decide_eq_true z6_8
    have q4 : x3_1 < (a0.size : Int) := of_decide_eq_true z6_8
    have hx4 := bt_at a0 x3_1
    replace p4 := eq_true p4
    replace q4 := eq_true q4
    go_wp2_with (first | ((with_reducible refine gate_callee (f := 48) rfl ?_); refine goesL_ (some 14) rfl rfl Try.func48 z6_5 rfl #[.int .i64 (wrap64 (bt a0 x3_1)), .int .i64 97, .int .i64 122] rfl z6_3 ?_; (with_reducible refine (impl_within.calls (wrap64 (bt a0 x3_1)) 97 122 false _ A5.out).mono ?_); rintro e w' ⟨rfl, ⟨nd, rfl⟩⟩; refine ⟨_, rfl, ?_⟩))
    go_ret
    exact ⟨z6_7, z6_6⟩
   subst c6
   rw [if_pos rfl] at H
   have H' := Aside0.mk H
   clear H
   have p4 : 0 ≤ (x3_1 : Int) := of_decide_eq_true z6_8
   have q4 : x3_1 < (a0.size : Int) := of_decide_eq_true z6_8
   have hx4 := bt_at a0 x3_1
   replace p4 := eq_true p4
   replace q4 := eq_true q4
   go_wp2_with (first | ((with_reducible refine gate_callee (f := 48) rfl ?_); refine goesL_ (some 14) rfl rfl Try.func48 z6_5 rfl #[.int .i64 (wrap64 (bt a0 x3_1)), .int .i64 97, .int .i64 122] rfl z6_3 ?_; (with_reducible refine (impl_within.calls (wrap64 (bt a0 x3_1)) 97 122 true _ A5.out).mono ?_); rintro e w' ⟨rfl, ⟨nd, rfl⟩⟩; refine ⟨_, rfl, ?_⟩))
   go_roundg k1
   case measure => have := HK1.out; omega
   case rel => exact ⟨(wrap64 (x3_1 + 1)), z6_7, H', ⟨by have := HK1.out; omega⟩, z6_6⟩
def impl_hasKey.f (a0 : Int) : Option (Bool) := (impl_within.f a0 2 5).bind fun t292 => (some t292)
set_option maxHeartbeats 8000000 in
set_option maxRecDepth 100000 in
theorem impl_hasKey.calls (a0 : Int) (r : Bool) (w : World) (h : impl_hasKey.f a0 = some r) :
  Calls Try.prog 71 #[.int .i64 a0] w fun e w' => e = .returned (.bool r) ∧ Drawn0 w w' := by
 have H := h
 unfold impl_hasKey.f at H
 clear h
 replace H := Option.bind_eq_some_iff.mp H
 obtain ⟨t292, A20, H⟩ := H
 (try dsimp only at H)
 have A2 := Aside0.mk A20
 clear A20
 obtain rfl := Option.some.inj H
 go_enter Try.func71, Try.ntmps71
 go_wp2_with (first | ((with_reducible refine gate_callee (f := 48) rfl ?_); refine goesL_ (some 4) rfl rfl Try.func48 z6_5 rfl #[.int .i64 a0, .int .i64 2, .int .i64 5] rfl z6_3 ?_; (with_reducible refine (impl_within.calls a0 2 5 t292 _ A2.out).mono ?_); rintro e w' ⟨rfl, ⟨nd, rfl⟩⟩; refine ⟨_, rfl, ?_⟩))
 go_ret
 exact ⟨z6_7, z6_6⟩
def impl_hasVal.f (a0 : Int) : Option (Bool) := if a0 = 1 then (some true) else (if a0 = 4 then (some true) else (some (a0 == 6)))
set_option maxHeartbeats 8000000 in
set_option maxRecDepth 100000 in
theorem impl_hasVal.calls (a0 : Int) (r : Bool) (w : World) (h : impl_hasVal.f a0 = some r) :
  Calls Try.prog 72 #[.int .i64 a0] w fun e w' => e = .returned (.bool r) ∧ Drawn0 w w' := by
 have H : (if a0 = 1 then (some true) else (if a0 = 4 then (some true) else (some (a0 == 6)))) = some r := h
 clear h
 by_cases c2 : a0 = 1
 ·
  rw [if_pos c2] at H
  have c2b0 : (a0 == 1) = true := beq_iff_eq.mpr c2
  have c2b1 : (a0 != 1) = false := bne_eq_false_iff_eq.mpr c2
  clear c2
  obtain rfl := Option.some.inj H
  go_enter Try.func72, Try.ntmps72
  go_wp2
  go_ret
  exact ⟨z6_7, z6_6⟩
 rw [if_neg c2] at H
 have c2b0 : (a0 == 1) = false := beq_eq_false_iff_ne.mpr c2
 have c2b1 : (a0 != 1) = true := bne_iff_ne.mpr c2
 by_cases c3 : a0 = 4
 rotate_left
 ·
  rw [if_neg c3] at H
  have c3b0 : (a0 == 4) = false := beq_eq_false_iff_ne.mpr c3
  have c3b1 : (a0 != 4) = true := bne_iff_ne.mpr c3
  obtain rfl := Option.some.inj H
  go_enter Try.func72, Try.ntmps72
  go_wp2
  go_ret
  exact ⟨z6_7, z6_6⟩
 rw [if_pos c3] at H
 have c3b0 : (a0 == 4) = true := beq_iff_eq.mpr c3
 have c3b1 : (a0 != 4) = false := bne_eq_false_iff_eq.mpr c3
 clear c3
 obtain rfl := Option.some.inj H
 go_enter Try.func72, Try.ntmps72
 go_wp2
 go_ret
 exact ⟨z6_7, z6_6⟩
end Go.Proofs.Ythajpckfodhhpaa.QRA
