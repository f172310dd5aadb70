/- What the functions behind RA compute, and that the program's calls come to just that. Written by a program of this session on the base of the kit's print. No condition. -/
import Derived.Test.YthajpckfodhhpaaVFnActsShort
import Derived.Test.YthajpckfodhhpaaVFnActsQRAx0
import Derived.Test.YthajpckfodhhpaaVFnActsQRAx1
import Derived.Test.YthajpckfodhhpaaVFnActsQRAx2
import Derived.Test.YthajpckfodhhpaaVFnActsQRAx3
import Derived.Test.YthajpckfodhhpaaVFnActsQRAx12
namespace Go.Proofs.Ythajpckfodhhpaa.QRA
open Go.RowKit Go.Proofs.Ythajpckfodhhpaa.Short Go.Proofs.YthajpckfodhhpaaW.PrintWords Go.Proofs.YthajpckfodhhpaaW.PrintLast Go.Proofs.YthajpckfodhhpaaW.PrintMore
attribute [local go_sem] max2_int min2_int max_two min_two max_three min_three max_four min_four   -- for this text's walks alone
set_option linter.unusedVariables false
set_option linter.unusedSimpArgs false
attribute [local go_sem high] eqA28
theorem z13_10 {P : Prop} (h : P := by first | omega | exact Nat.le_refl _) : P := h
theorem z13_9 {P : Prop} (h : P := by first | rfl | (simp; done) | (simp [*]; done)) : P := h
theorem z13_8 {P : Prop} (h : P := by first | (with_reducible assumption) | assumption) : P := h
theorem z13_7 {P : Prop} (h : P := by repeat (first | (with_reducible first | exact HB.out | apply below_alloc | apply pw_below_drewN | apply below_drew1) | exact HB.out)) : P := h
theorem z13_6 {P : Prop} (h : P := by first | rfl | (simp [errW_none, errW_some] <;> rfl) | (simp [*, errW_none, errW_some] <;> rfl)) : P := h
theorem z13_5 {P : Prop} (h : P := by first | rfl | (simp only [List.map_toArray, List.map_cons, List.map_nil]; first | done | rfl)) : P := h
theorem z13_4 {P : Prop} (h : P := by (with_reducible repeat (first | refine blk_drewN ?_ _ | refine blk_drew ?_ | refine blk_alloc ?_ _)); exact BK433.out) : P := h
theorem z13_3 {P : Prop} (h : P := by kernel_rfl) : P := h
theorem z13_2 {P : Prop} (h : P := by repeat (first | (with_reducible first | exact HB.out | apply below_alloc | apply pw_below_drewN | apply below_drew1 | refine below_set ?_ GE433.out) | exact HB.out)) : P := h
theorem z13_1 {P : Prop} (h : P := by intro w'; go_simp; with_reducible rfl) : P := h
theorem z13_0 {P : Prop} (h : P := by simp only [Act.put, List.setIfInBounds_toArray, List.set_cons_zero, List.set_cons_succ, i64_w, i32_w]; rfl) : P := h
abbrev mk13_0 : Array Bool := mb 42 0
abbrev mk13_1 : Array Bool := mb 42 1
abbrev mk13_2 : Array Bool := mb 42 3
abbrev mk13_3 : Array Bool := mb 42 7
abbrev mk13_4 : Array Bool := mb 42 15
abbrev mk13_5 : Array Bool := mb 42 31
abbrev mk13_6 : Array Bool := mb 42 63
abbrev mk13_7 : Array Bool := mb 42 127
abbrev mk13_8 : Array Bool := mb 42 255
abbrev mk13_9 : Array Bool := mb 42 511
abbrev mk13_10 : Array Bool := mb 42 1023
abbrev mk13_11 : Array Bool := mb 42 2047
abbrev mk13_12 : Array Bool := mb 42 4095
abbrev mk13_13 : Array Bool := mb 42 12287
abbrev mk13_14 : Array Bool := mb 42 28671
abbrev mk13_15 : Array Bool := mb 42 290815
abbrev mk13_16 : Array Bool := mb 42 815103
abbrev mk13_17 : Array Bool := mb 42 819199
abbrev mk13_18 : Array Bool := mb 42 851967
abbrev mk13_19 : Array Bool := mb 42 917503
abbrev mk13_20 : Array Bool := mb 42 1048575
abbrev mk13_21 : Array Bool := mb 42 2097151
abbrev mk13_22 : Array Bool := mb 42 4194303
abbrev mk13_23 : Array Bool := mb 42 8388607
abbrev mk13_24 : Array Bool := mb 42 16777215
abbrev mk13_25 : Array Bool := mb 42 33554431
abbrev mk13_26 : Array Bool := mb 42 67108863
abbrev mk13_27 : Array Bool := mb 42 134217727
abbrev mk13_28 : Array Bool := mb 42 268435455
abbrev mk13_29 : Array Bool := mb 42 536870911
abbrev mk13_30 : Array Bool := mb 42 1073741823
abbrev mk13_31 : Array Bool := mb 42 2147483647
abbrev mk13_32 : Array Bool := mb 42 4294967295
abbrev mk13_33 : Array Bool := mb 42 12884901887
abbrev mk13_34 : Array Bool := mb 42 47244640255
abbrev mk13_35 : Array Bool := mb 42 184683593727
abbrev mk13_36 : Array Bool := mb 42 188978561023
abbrev mk13_37 : Array Bool := mb 42 206158430207
abbrev mk13_38 : Array Bool := mb 42 274877906943
abbrev mk13_39 : Array Bool := mb 42 549755813887
abbrev mk13_40 : Array Bool := mb 42 1099511627775
abbrev mk13_41 : Array Bool := mb 42 2199023255551
abbrev mk13_42 : Array Bool := mb 42 4398046511103
abbrev mk13_43 : Array Bool := mb 42 8589934591
abbrev mk13_44 : Array Bool := mb 42 17179869183
abbrev mk13_45 : Array Bool := mb 42 34359738367
abbrev mk13_46 : Array Bool := mb 42 68719476735
abbrev mk13_47 : Array Bool := mb 42 137438953471
abbrev mk13_48 : Array Bool := mb 42 8191
abbrev mk13_49 : Array Bool := mb 42 16383
abbrev mk13_50 : Array Bool := mb 42 32767
abbrev mk13_51 : Array Bool := mb 42 65535
abbrev mk13_52 : Array Bool := mb 42 131071
abbrev mk13_53 : Array Bool := mb 42 262143
abbrev mk13_54 : Array Bool := mb 42 524287
theorem z13_11 {P : Prop} (h : P := by repeat (first | exact (Kd.C_below HR0_3.out HB.out) | (with_reducible refine Kd.C_alloc ?_ _) | (with_reducible refine Kd.C_drewN ?_ _) | (with_reducible refine Kd.C_drew ?_))) : P := h
def spec_ActOk.j0 : Nat → Bool → Int → Int → Int → List Int → Int → ByteArray → ByteArray → Int → Int → Int → Option (Bool)
  | 0, _, _, _, _, _, _, _, _, _, _, _ => none
  | k + 1, x44, x434000, x434001, x434002, x434003, x434004, x434005, x434006, x434007, x434008, x434009 => if x44 = true then (some false) else (if x434004 = 7 then ((spec_Knows.f k x434003 x434008 x434009).bind fun t439 => (some t439)) else (if x434004 = 6 then (if (x434008 == 0 && (x434009 == 0)) = true then (some true) else ((spec_Knows.f k x434003 x434008 x434009).bind fun t440 => (some t440))) else (some (x434008 == 0 && (x434009 == 0)))))
def spec_ActOk.f (k : Nat) (a0_0 : Int) (a0_1 : Int) (a0_2 : Int) (l0_3 : List Int) (a0_4 : Int) (a0_5 : ByteArray) (a0_6 : ByteArray) (a0_7 : Int) (a0_8 : Int) (a0_9 : Int) : Option (Bool) := (spec_DotOk.f a0_0 a0_1).bind fun t434 => (if t434 = true then ((spec_KnowOk.f k l0_3).bind fun t435 => (if t435 = true then (if 0 ≤ a0_0 then (if a0_0 < (l0_3.length : Int) then (if (rd l0_3 a0_0) = (wrap64 (a0_1 - 1)) then ((spec_l01In.f a0_2 1 10000).bind fun t437 => (if t437 = true then ((spec_l05Plain.f k a0_4 a0_5 a0_6 a0_7).bind fun t438 => (spec_ActOk.j0 k (!t438) a0_0 a0_1 a0_2 l0_3 a0_4 a0_5 a0_6 a0_7 a0_8 a0_9)) else (spec_ActOk.j0 k true a0_0 a0_1 a0_2 l0_3 a0_4 a0_5 a0_6 a0_7 a0_8 a0_9))) else (spec_ActOk.j0 k true a0_0 a0_1 a0_2 l0_3 a0_4 a0_5 a0_6 a0_7 a0_8 a0_9)) else (none)) else (none)) else (spec_ActOk.j0 k true a0_0 a0_1 a0_2 l0_3 a0_4 a0_5 a0_6 a0_7 a0_8 a0_9))) else (spec_ActOk.j0 k true a0_0 a0_1 a0_2 l0_3 a0_4 a0_5 a0_6 a0_7 a0_8 a0_9))
def spec_ActOk.T1 : Bool × List (List Nat × List Nat) := (true, [([], []), ([0], [0]), ([1], [1]), ([2], [2]), ([3, 2], [3]), ([4], [4]), ([5, 4], [4, 5]), ([6, 4, 4], [4, 6]), ([7, 4], [4, 7]), ([4, 8], [4, 8]), ([9, 7], [9]), ([10], [10]), ([11, 10], [10, 11]), ([10], [10]), ([13, 10], [10, 13]), ([14, 10], [10, 14]), ([12, 15, 10], [10, 12, 15]), ([16, 10], [10, 16]), ([10], [10]), ([18, 10], [10, 18]), ([19, 10], [10, 19]), ([20, 10], [10, 20]), ([17, 21, 10], [10, 17, 21]), ([10, 22], [10, 22]), ([23, 10], [23]), ([24], [24]), ([25, 24], [24, 25]), ([26, 24, 24], [24, 26]), ([27, 24], [24, 27]), ([24, 28], [24, 28]), ([29, 27], [29]), ([30], [30]), ([31, 30], [30, 31]), ([30], [30]), ([33, 30], [30, 33]), ([30], [30]), ([35, 30], [30, 35]), ([30], [30]), ([37, 30], [30, 37]), ([32, 34, 36, 38, 30, 30], [30, 32, 34, 36, 38]), ([39, 30], [30, 39]), ([30, 40], [30, 40])])
def spec_ActOk.B1 : List Nat := [0, 1, 3, 7, 15, 31, 63, 127, 255, 511, 1023, 2047, 4095, 2047, 10239, 26623, 65535, 131071, 2047, 264191, 788479, 1837055, 4194303, 8388607, 16777215, 33554431, 67108863, 134217727, 268435455, 536870911, 1073741823, 2147483647, 4294967295, 2147483647, 10737418239, 2147483647, 36507222015, 2147483647, 139586437119, 549755813887, 1099511627775, 2199023255551]
theorem spec_ActOk.tab1 : rtab .any (opsOf Try.f16 1) = spec_ActOk.T1 := by kernel_rfl
theorem spec_ActOk.bits1 : waitsOk spec_ActOk.T1.2 spec_ActOk.B1 = true := by kernel_rfl
set_option maxHeartbeats 8000000 in
set_option maxRecDepth 100000 in
theorem spec_ActOk.calls (k : Nat) (a0_0 : Int) (a0_1 : Int) (a0_2 : Int) (A0_3 : Option Addr) (c0_3 : Nat) (l0_3 : List Int) (a0_4 : Int) (a0_5 : ByteArray) (a0_6 : ByteArray) (a0_7 : Int) (a0_8 : Int) (a0_9 : Int) (r : Bool) (w : World) (hr0_3 : Kd.C (Kd.int .i64) w A0_3 l0_3.length l0_3) (hc0_3 : l0_3.length ≤ c0_3) (h : spec_ActOk.f k a0_0 a0_1 a0_2 l0_3 a0_4 a0_5 a0_6 a0_7 a0_8 a0_9 = some r) :
  Calls Try.prog 16 #[.agg #[.int .i64 a0_0, .int .i64 a0_1, .int .i64 a0_2, .slice A0_3 l0_3.length c0_3, .int .i64 a0_4, .string a0_5, .string a0_6, .int .i64 a0_7, .int .i64 a0_8, .int .i64 a0_9]] w fun e w' => e = .returned (.bool r) ∧ Below w.heap.size w w' := by
 have hu31 := Try.underlying31
 have hu28 := Try.underlying28
 have HR0_3 := Aside0.mk hr0_3
 have HC0_3 := Aside0.mk hc0_3
 clear hr0_3 hc0_3
 have HB := Aside0.mk (Below.refl w.heap.size w)
 have H := h
 unfold spec_ActOk.f at H
 clear h
 have HC2 := Aside0.mk H
 clear H
 go_enter Try.func16, Try.ntmps16
 go_upto_region 1 with (first | ((with_reducible refine gate_dst (N := 1) rfl ?_); refine box_event ?hg (N := 1) ?hd (cs := #[.int .i64 a0_0, .int .i64 a0_1, .int .i64 a0_2, .slice A0_3 l0_3.length c0_3, .int .i64 a0_4, .string a0_5, .string a0_6, .int .i64 a0_7, .int .i64 a0_8, .int .i64 a0_9]) (t := 31) ?hr ?_; (case hd => rfl); (case hg => rfl); (case hr => first | (go_simp; done) | (go_simp; rfl)); intro gb433 hg w3 hbox hb; have BK433 := Aside0.mk (hbox); have GW433 := gw_ w z13_7 hg; have GE433 := gw_ w z13_7 hg; replace HB := Aside0.mk (below_step z13_7 hb); clear hb hbox hg))
 (try simp only [Act.put, List.setIfInBounds_toArray, List.set_cons_zero, List.set_cons_succ])
 go_cut [44] (fun v44 wc => ∃ (kq : Nat) (x44_1 : Bool), v44 = .bool x44_1 ∧ Aside0 (spec_ActOk.j0 kq x44_1 a0_0 a0_1 a0_2 l0_3 a0_4 a0_5 a0_6 a0_7 a0_8 a0_9 = some r) ∧ Aside0 (kq ≤ k) ∧ Aside0 (wc.heap[gb433]? = some (.cells #[.int .i64 a0_0, .int .i64 a0_1, .int .i64 a0_2, (.slice A0_3 l0_3.length c0_3), .int .i64 a0_4, .string a0_5, .string a0_6, .int .i64 a0_7, .int .i64 a0_8, .int .i64 a0_9] 31 (0, 0))) ∧ Aside0 (Below w.heap.size w wc))
 case first =>
  have H := HC2.out
  clear HC2
  replace H := Option.bind_eq_some_iff.mp H
  obtain ⟨t434, A40, H⟩ := H
  (try dsimp only at H)
  have A4 := Aside0.mk A40
  clear A40
  by_cases c5 : t434 = true
  rotate_left
  ·
   replace c5 := Bool.eq_false_iff.mpr c5
   subst c5
   rw [if_neg (show ¬ (false = true) by decide)] at H
   have H' := Aside0.mk H
   clear H
   try go_wp2
   replace BK433 := Aside0.mk (blk_drew BK433.out)
   replace HB := Aside0.mk (below_drew1 HB.out)
   refine start_ (n := 42) (S := fun w' => w'.cell? ⟨gb433, 0, none⟩ = some (.int .i64 a0_0) ∧ w'.cell? ⟨gb433, 1, none⟩ = some (.int .i64 a0_1) ∧ w'.cell? ⟨gb433, 2, none⟩ = some (.int .i64 a0_2) ∧ w'.cell? ⟨gb433, 3, none⟩ = some (.slice A0_3 l0_3.length c0_3) ∧ w'.cell? ⟨gb433, 4, none⟩ = some (.int .i64 a0_4) ∧ w'.cell? ⟨gb433, 5, none⟩ = some (.string a0_5) ∧ w'.cell? ⟨gb433, 6, none⟩ = some (.string a0_6) ∧ w'.cell? ⟨gb433, 7, none⟩ = some (.int .i64 a0_7) ∧ w'.cell? ⟨gb433, 8, none⟩ = some (.int .i64 a0_8) ∧ w'.cell? ⟨gb433, 9, none⟩ = some (.int .i64 a0_9)) (ds := []) mk13_0 z13_3 rfl rfl (ln10 BK433) (fun hHeld => ?_); refine with_tabW spec_ActOk.tab1 spec_ActOk.bits1 (fun HT_ HW_ => ?_)
   generalize w3.drew = w22 at BK433 HB hHeld ⊢
   refine p_ (i := 0) (N := some 3) mk13_1 ?_ (hv := z13_1) (ha := z13_0)
   refine t_ (i := 1) (N := some 4) mk13_2 hHeld ?_ (ha := z13_0)
   refine o_ (i := 2) (N := some 5) mk13_3 (fun K hK => ?_)
   refine goes_ Try.func41 z13_3 rfl #[.agg #[.int .i64 a0_0, .int .i64 a0_1]] (by rfl) rfl rfl z13_5 ?_
   with_reducible refine (spec_DotOk.calls a0_0 a0_1 false _ A4.out).mono ?_
   rintro e w23 ⟨rfl, hb⟩
   refine ⟨_, rfl, ?_⟩
   replace BK433 := bb_ BK433 z13_4 hb
   replace HB := Aside0.mk (below_step z13_2 hb)
   (try clear hb)
   (try clear hb2)
   (try clear hk)
   (try clear hi)
   refine hK.out _ _ (ln10 BK433) (fun hHeld => ?_)
   clear hK K
   refine n_ ?_
   refine p_ (i := 3) (N := some 6) mk13_4 ?_ (hv := z13_1) (ha := z13_0)
   refine p_ (i := 4) (N := some 7) mk13_5 ?_ (hv := z13_1) (ha := z13_0)
   refine u_ (i := 5) (N := some 8) mk13_6 ?_ (ha := z13_0)
   refine u_ (i := 6) (N := some 9) mk13_7 ?_ (ha := z13_0)
   refine u_ (i := 7) (N := some 10) mk13_8 ?_ (ha := z13_0)
   refine u_ (i := 8) (N := some 11) mk13_9 ?_ (ha := z13_0)
   refine p_ (i := 9) (N := some 12) mk13_10 ?_ (hv := z13_1) (ha := z13_0)
   refine p_ (i := 10) (N := some 13) mk13_11 ?_ (hv := z13_1) (ha := z13_0)
   refine u_ (i := 11) (N := some 14) mk13_12 ?_ (ha := z13_0)
   refine u_ (i := 12) (N := some 15) mk13_48 ?_ (ha := z13_0)
   refine u_ (i := 13) (N := some 16) mk13_49 ?_ (ha := z13_0)
   refine u_ (i := 14) (N := some 17) mk13_50 ?_ (ha := z13_0)
   refine u_ (i := 15) (N := some 18) mk13_51 ?_ (ha := z13_0)
   refine u_ (i := 16) (N := some 19) mk13_52 ?_ (ha := z13_0)
   refine u_ (i := 17) (N := some 20) mk13_53 ?_ (ha := z13_0)
   refine u_ (i := 18) (N := some 21) mk13_54 ?_ (ha := z13_0)
   refine u_ (i := 19) (N := some 22) mk13_20 ?_ (ha := z13_0)
   refine u_ (i := 20) (N := some 23) mk13_21 ?_ (ha := z13_0)
   refine u_ (i := 21) (N := some 24) mk13_22 ?_ (ha := z13_0)
   refine u_ (i := 22) (N := some 25) mk13_23 ?_ (ha := z13_0)
   refine p_ (i := 23) (N := some 26) mk13_24 ?_ (hv := z13_1) (ha := z13_0)
   refine p_ (i := 24) (N := some 27) mk13_25 ?_ (hv := z13_1) (ha := z13_0)
   refine u_ (i := 25) (N := some 28) mk13_26 ?_ (ha := z13_0)
   refine u_ (i := 26) (N := some 29) mk13_27 ?_ (ha := z13_0)
   refine u_ (i := 27) (N := some 30) mk13_28 ?_ (ha := z13_0)
   refine u_ (i := 28) (N := some 31) mk13_29 ?_ (ha := z13_0)
   refine p_ (i := 29) (N := some 32) mk13_30 ?_ (hv := z13_1) (ha := z13_0)
   refine p_ (i := 30) (N := some 33) mk13_31 ?_ (hv := z13_1) (ha := z13_0)
   refine u_ (i := 31) (N := some 34) mk13_32 ?_ (ha := z13_0)
   refine u_ (i := 32) (N := some 35) mk13_43 ?_ (ha := z13_0)
   refine u_ (i := 33) (N := some 36) mk13_44 ?_ (ha := z13_0)
   refine u_ (i := 34) (N := some 37) mk13_45 ?_ (ha := z13_0)
   refine u_ (i := 35) (N := some 38) mk13_46 ?_ (ha := z13_0)
   refine u_ (i := 36) (N := some 39) mk13_47 ?_ (ha := z13_0)
   refine u_ (i := 37) (N := some 40) mk13_38 ?_ (ha := z13_0)
   refine u_ (i := 38) (N := some 41) mk13_39 ?_ (ha := z13_0)
   refine u_ (i := 39) (N := some 42) mk13_40 ?_ (ha := z13_0)
   refine u_ (i := 40) (N := some 43) mk13_41 ?_ (ha := z13_0)
   refine p_ (i := 41) (N := some 44) mk13_42 ?_ (hv := z13_1) (ha := z13_0)
   refine done_ (done_of HT_.out z13_3) ?_
   try go_wp2
   go_meet
   case rel => exact ⟨_, (true), z13_9, H', ⟨z13_10⟩, ⟨z13_4⟩, ⟨z13_2⟩⟩
  subst c5
  rw [if_pos rfl] at H
  replace H := Option.bind_eq_some_iff.mp H
  obtain ⟨t435, A60, H⟩ := H
  (try dsimp only at H)
  have A6 := Aside0.mk A60
  clear A60
  by_cases c7 : t435 = true
  rotate_left
  ·
   replace c7 := Bool.eq_false_iff.mpr c7
   subst c7
   rw [if_neg (show ¬ (false = true) by decide)] at H
   have H' := Aside0.mk H
   clear H
   try go_wp2
   replace BK433 := Aside0.mk (blk_drew BK433.out)
   replace HB := Aside0.mk (below_drew1 HB.out)
   refine start_ (n := 42) (S := fun w' => w'.cell? ⟨gb433, 0, none⟩ = some (.int .i64 a0_0) ∧ w'.cell? ⟨gb433, 1, none⟩ = some (.int .i64 a0_1) ∧ w'.cell? ⟨gb433, 2, none⟩ = some (.int .i64 a0_2) ∧ w'.cell? ⟨gb433, 3, none⟩ = some (.slice A0_3 l0_3.length c0_3) ∧ w'.cell? ⟨gb433, 4, none⟩ = some (.int .i64 a0_4) ∧ w'.cell? ⟨gb433, 5, none⟩ = some (.string a0_5) ∧ w'.cell? ⟨gb433, 6, none⟩ = some (.string a0_6) ∧ w'.cell? ⟨gb433, 7, none⟩ = some (.int .i64 a0_7) ∧ w'.cell? ⟨gb433, 8, none⟩ = some (.int .i64 a0_8) ∧ w'.cell? ⟨gb433, 9, none⟩ = some (.int .i64 a0_9)) (ds := []) mk13_0 z13_3 rfl rfl (ln10 BK433) (fun hHeld => ?_); refine with_tabW spec_ActOk.tab1 spec_ActOk.bits1 (fun HT_ HW_ => ?_)
   generalize w3.drew = w20 at BK433 HB hHeld ⊢
   refine p_ (i := 0) (N := some 3) mk13_1 ?_ (hv := z13_1) (ha := z13_0)
   refine t_ (i := 1) (N := some 4) mk13_2 hHeld ?_ (ha := z13_0)
   refine o_ (i := 2) (N := some 5) mk13_3 (fun K hK => ?_)
   refine goes_ Try.func41 z13_3 rfl #[.agg #[.int .i64 a0_0, .int .i64 a0_1]] (by rfl) rfl rfl z13_5 ?_
   with_reducible refine (spec_DotOk.calls a0_0 a0_1 true _ A4.out).mono ?_
   rintro e w21 ⟨rfl, hb⟩
   refine ⟨_, rfl, ?_⟩
   replace BK433 := bb_ BK433 z13_4 hb
   replace HB := Aside0.mk (below_step z13_2 hb)
   (try clear hb)
   (try clear hb2)
   (try clear hk)
   (try clear hi)
   refine hK.out _ _ (ln10 BK433) (fun hHeld => ?_)
   clear hK K
   refine n_ ?_
   refine p_ (i := 3) (N := some 6) mk13_4 ?_ (hv := z13_1) (ha := z13_0)
   refine p_ (i := 4) (N := some 7) mk13_5 ?_ (hv := z13_1) (ha := z13_0)
   refine p_ (i := 5) (N := some 8) mk13_6 ?_ (hv := z13_1) (ha := z13_0)
   refine t_ (i := 6) (N := some 9) mk13_7 hHeld ?_ (ha := z13_0)
   refine o_ (i := 7) (N := some 10) mk13_8 (fun K hK => ?_)
   refine goes_ Try.func42 z13_3 rfl #[.slice A0_3 l0_3.length c0_3] (by rfl) rfl rfl z13_5 ?_
   with_reducible refine (spec_KnowOk.calls k _ _ l0_3 false _ ?side1 ?side2 A6.out).mono ?_
   (case side1 => exact z13_11)
   (case side2 => exact HC0_3.out)
   rintro e w' ⟨rfl, ⟨nd, rfl⟩⟩
   refine ⟨_, rfl, ?_⟩
   refine hK.out _ _ (ln10 BK433) (fun hHeld => ?_)
   clear hK K
   refine n_ ?_
   refine p_ (i := 8) (N := some 11) mk13_9 ?_ (hv := z13_1) (ha := z13_0)
   refine p_ (i := 9) (N := some 12) mk13_10 ?_ (hv := z13_1) (ha := z13_0)
   refine p_ (i := 10) (N := some 13) mk13_11 ?_ (hv := z13_1) (ha := z13_0)
   refine u_ (i := 11) (N := some 14) mk13_12 ?_ (ha := z13_0)
   refine u_ (i := 12) (N := some 15) mk13_48 ?_ (ha := z13_0)
   refine u_ (i := 13) (N := some 16) mk13_49 ?_ (ha := z13_0)
   refine u_ (i := 14) (N := some 17) mk13_50 ?_ (ha := z13_0)
   refine u_ (i := 15) (N := some 18) mk13_51 ?_ (ha := z13_0)
   refine u_ (i := 16) (N := some 19) mk13_52 ?_ (ha := z13_0)
   refine u_ (i := 17) (N := some 20) mk13_53 ?_ (ha := z13_0)
   refine u_ (i := 18) (N := some 21) mk13_54 ?_ (ha := z13_0)
   refine u_ (i := 19) (N := some 22) mk13_20 ?_ (ha := z13_0)
   refine u_ (i := 20) (N := some 23) mk13_21 ?_ (ha := z13_0)
   refine u_ (i := 21) (N := some 24) mk13_22 ?_ (ha := z13_0)
   refine u_ (i := 22) (N := some 25) mk13_23 ?_ (ha := z13_0)
   refine p_ (i := 23) (N := some 26) mk13_24 ?_ (hv := z13_1) (ha := z13_0)
   refine p_ (i := 24) (N := some 27) mk13_25 ?_ (hv := z13_1) (ha := z13_0)
   refine u_ (i := 25) (N := some 28) mk13_26 ?_ (ha := z13_0)
   refine u_ (i := 26) (N := some 29) mk13_27 ?_ (ha := z13_0)
   refine u_ (i := 27) (N := some 30) mk13_28 ?_ (ha := z13_0)
   refine u_ (i := 28) (N := some 31) mk13_29 ?_ (ha := z13_0)
   refine p_ (i := 29) (N := some 32) mk13_30 ?_ (hv := z13_1) (ha := z13_0)
   refine p_ (i := 30) (N := some 33) mk13_31 ?_ (hv := z13_1) (ha := z13_0)
   refine u_ (i := 31) (N := some 34) mk13_32 ?_ (ha := z13_0)
   refine u_ (i := 32) (N := some 35) mk13_43 ?_ (ha := z13_0)
   refine u_ (i := 33) (N := some 36) mk13_44 ?_ (ha := z13_0)
   refine u_ (i := 34) (N := some 37) mk13_45 ?_ (ha := z13_0)
   refine u_ (i := 35) (N := some 38) mk13_46 ?_ (ha := z13_0)
   refine u_ (i := 36) (N := some 39) mk13_47 ?_ (ha := z13_0)
   refine u_ (i := 37) (N := some 40) mk13_38 ?_ (ha := z13_0)
   refine u_ (i := 38) (N := some 41) mk13_39 ?_ (ha := z13_0)
   refine u_ (i := 39) (N := some 42) mk13_40 ?_ (ha := z13_0)
   refine u_ (i := 40) (N := some 43) mk13_41 ?_ (ha := z13_0)
   refine p_ (i := 41) (N := some 44) mk13_42 ?_ (hv := z13_1) (ha := z13_0)
   refine done_ (done_of HT_.out z13_3) ?_
   try go_wp2
   go_meet
   case rel => exact ⟨_, (true), z13_9, H', ⟨z13_10⟩, ⟨z13_4⟩, ⟨z13_2⟩⟩
  subst c7
  rw [if_pos rfl] at H
  by_cases c8 : 0 ≤ a0_0
  rotate_left
  ·
   rw [if_neg c8] at H
   exact absurd H (by simp)
  rw [if_pos c8] at H
  have c8b0 : decide (0 ≤ a0_0) = true := decide_eq_true c8
  clear c8
  (first | rw [c8b0] | (simp only [i64_w, i32_w]; rw [c8b0]) | skip)
  by_cases c9 : a0_0 < (l0_3.length : Int)
  rotate_left
  ·
   rw [if_neg c9] at H
   exact absurd H (by simp)
  rw [if_pos c9] at H
  have c9b0 : decide (a0_0 < (l0_3.length : Int)) = true := decide_eq_true c9
  clear c9
  by_cases c10 : (rd l0_3 a0_0) = (wrap64 (a0_1 - 1))
  rotate_left
  ·
   rw [if_neg c10] at H
   have c10b0 : ((rd l0_3 a0_0) == (wrap64 (a0_1 - 1))) = false := beq_eq_false_iff_ne.mpr c10
   have c10b1 : ((rd l0_3 a0_0) != (wrap64 (a0_1 - 1))) = true := bne_iff_ne.mpr c10
   have H' := Aside0.mk H
   clear H
   try go_wp2
   replace BK433 := Aside0.mk (blk_drew BK433.out)
   replace HB := Aside0.mk (below_drew1 HB.out)
   have p436 : 0 ≤ (a0_0 : Int) := of_decide_eq_true z13_8
   have q436 : a0_0 < (l0_3.length : Int) := of_decide_eq_true z13_8
   obtain ⟨ad436, e436, hx436_0⟩ := Kd.at_int HR0_3.out a0_0 p436 q436
   have hw436_0 := hx436_0
   cases e436
   replace hx436_0 := cb_ HB hx436_0
   replace p436 := eq_true p436
   replace q436 := eq_true q436
   refine start_ (n := 42) (S := fun w' => w'.cell? ⟨gb433, 0, none⟩ = some (.int .i64 a0_0) ∧ w'.cell? ⟨gb433, 1, none⟩ = some (.int .i64 a0_1) ∧ w'.cell? ⟨gb433, 2, none⟩ = some (.int .i64 a0_2) ∧ w'.cell? ⟨gb433, 3, none⟩ = some (.slice (some ad436) l0_3.length c0_3) ∧ w'.cell? ⟨gb433, 4, none⟩ = some (.int .i64 a0_4) ∧ w'.cell? ⟨gb433, 5, none⟩ = some (.string a0_5) ∧ w'.cell? ⟨gb433, 6, none⟩ = some (.string a0_6) ∧ w'.cell? ⟨gb433, 7, none⟩ = some (.int .i64 a0_7) ∧ w'.cell? ⟨gb433, 8, none⟩ = some (.int .i64 a0_8) ∧ w'.cell? ⟨gb433, 9, none⟩ = some (.int .i64 a0_9) ∧ w'.cell? (ad436.add (a0_0).toNat) = some (.int .i64 (rd l0_3 a0_0))) (ds := []) mk13_0 z13_3 rfl rfl (jn10 BK433 (cb_ HB hw436_0)) (fun hHeld => ?_); refine with_tabW spec_ActOk.tab1 spec_ActOk.bits1 (fun HT_ HW_ => ?_)
   generalize w3.drew = w18 at BK433 HB hx436_0 hHeld ⊢
   refine p_ (i := 0) (N := some 3) mk13_1 ?_ (hv := z13_1) (ha := z13_0)
   refine t_ (i := 1) (N := some 4) mk13_2 hHeld ?_ (ha := z13_0)
   refine o_ (i := 2) (N := some 5) mk13_3 (fun K hK => ?_)
   refine goes_ Try.func41 z13_3 rfl #[.agg #[.int .i64 a0_0, .int .i64 a0_1]] (by rfl) rfl rfl z13_5 ?_
   with_reducible refine (spec_DotOk.calls a0_0 a0_1 true _ A4.out).mono ?_
   rintro e w19 ⟨rfl, hb⟩
   refine ⟨_, rfl, ?_⟩
   replace BK433 := bb_ BK433 z13_4 hb
   replace HB := Aside0.mk (below_step z13_2 hb)
   (try clear hb)
   (try clear hb2)
   (try clear hk)
   (try clear hi)
   refine hK.out _ _ (jn10 BK433 (cb_ HB hw436_0)) (fun hHeld => ?_)
   clear hK K
   refine n_ ?_
   refine p_ (i := 3) (N := some 6) mk13_4 ?_ (hv := z13_1) (ha := z13_0)
   refine p_ (i := 4) (N := some 7) mk13_5 ?_ (hv := z13_1) (ha := z13_0)
   refine p_ (i := 5) (N := some 8) mk13_6 ?_ (hv := z13_1) (ha := z13_0)
   refine t_ (i := 6) (N := some 9) mk13_7 hHeld ?_ (ha := z13_0)
   refine o_ (i := 7) (N := some 10) mk13_8 (fun K hK => ?_)
   refine goes_ Try.func42 z13_3 rfl #[.slice (some ad436) l0_3.length c0_3] (by rfl) rfl rfl z13_5 ?_
   with_reducible refine (spec_KnowOk.calls k _ _ l0_3 true _ ?side1 ?side2 A6.out).mono ?_
   (case side1 => exact z13_11)
   (case side2 => exact HC0_3.out)
   rintro e w' ⟨rfl, ⟨nd, rfl⟩⟩
   refine ⟨_, rfl, ?_⟩
   refine hK.out _ _ (jn10 BK433 (cb_ HB hw436_0)) (fun hHeld => ?_)
   clear hK K
   refine n_ ?_
   refine p_ (i := 8) (N := some 11) mk13_9 ?_ (hv := z13_1) (ha := z13_0)
   refine p_ (i := 9) (N := some 12) mk13_10 ?_ (hv := z13_1) (ha := z13_0)
   refine p_ (i := 10) (N := some 13) mk13_11 ?_ (hv := z13_1) (ha := z13_0)
   refine p_ (i := 11) (N := some 14) mk13_12 ?_ (hv := z13_1) (ha := z13_0)
   refine p_ (i := 13) (N := some 16) mk13_13 ?_ (hv := z13_1) (ha := z13_0)
   refine p_ (i := 14) (N := some 17) mk13_14 ?_ (hv := z13_1) (ha := z13_0)
   refine p_ (i := 18) (N := some 21) mk13_15 ?_ (hv := z13_1) (ha := z13_0)
   refine p_ (i := 19) (N := some 22) mk13_16 ?_ (hv := z13_1) (ha := z13_0)
   refine t_ (i := 12) (N := some 15) mk13_17 hHeld ?_ (ha := z13_0)
   refine t_ (i := 15) (N := some 18) mk13_18 hHeld ?_ (ha := z13_0)
   refine p_ (i := 16) (N := some 19) mk13_19 ?_ (hv := z13_1) (ha := z13_0)
   refine t_ (i := 17) (N := some 20) mk13_20 hHeld ?_ (ha := z13_0)
   refine t_ (i := 20) (N := some 23) mk13_21 hHeld ?_ (ha := z13_0)
   refine p_ (i := 21) (N := some 24) mk13_22 ?_ (hv := z13_1) (ha := z13_0)
   refine p_ (i := 22) (N := some 25) mk13_23 ?_ (hv := z13_1) (ha := z13_0)
   refine p_ (i := 23) (N := some 26) mk13_24 ?_ (hv := z13_1) (ha := z13_0)
   refine p_ (i := 24) (N := some 27) mk13_25 ?_ (hv := z13_1) (ha := z13_0)
   refine u_ (i := 25) (N := some 28) mk13_26 ?_ (ha := z13_0)
   refine u_ (i := 26) (N := some 29) mk13_27 ?_ (ha := z13_0)
   refine u_ (i := 27) (N := some 30) mk13_28 ?_ (ha := z13_0)
   refine u_ (i := 28) (N := some 31) mk13_29 ?_ (ha := z13_0)
   refine p_ (i := 29) (N := some 32) mk13_30 ?_ (hv := z13_1) (ha := z13_0)
   refine p_ (i := 30) (N := some 33) mk13_31 ?_ (hv := z13_1) (ha := z13_0)
   refine u_ (i := 31) (N := some 34) mk13_32 ?_ (ha := z13_0)
   refine u_ (i := 32) (N := some 35) mk13_43 ?_ (ha := z13_0)
   refine u_ (i := 33) (N := some 36) mk13_44 ?_ (ha := z13_0)
   refine u_ (i := 34) (N := some 37) mk13_45 ?_ (ha := z13_0)
   refine u_ (i := 35) (N := some 38) mk13_46 ?_ (ha := z13_0)
   refine u_ (i := 36) (N := some 39) mk13_47 ?_ (ha := z13_0)
   refine u_ (i := 37) (N := some 40) mk13_38 ?_ (ha := z13_0)
   refine u_ (i := 38) (N := some 41) mk13_39 ?_ (ha := z13_0)
   refine u_ (i := 39) (N := some 42) mk13_40 ?_ (ha := z13_0)
   refine u_ (i := 40) (N := some 43) mk13_41 ?_ (ha := z13_0)
   refine p_ (i := 41) (N := some 44) mk13_42 ?_ (hv := z13_1) (ha := z13_0)
   refine done_ (done_of HT_.out z13_3) ?_
   try go_wp2
   go_meet
   case rel => exact ⟨_, (true), z13_9, H', ⟨z13_10⟩, ⟨z13_4⟩, ⟨z13_2⟩⟩
  rw [if_pos c10] at H
  have c10b0 : ((rd l0_3 a0_0) == (wrap64 (a0_1 - 1))) = true := beq_iff_eq.mpr c10
  have c10b1 : ((rd l0_3 a0_0) != (wrap64 (a0_1 - 1))) = false := bne_eq_false_iff_eq.mpr c10
  clear c10
  replace H := Option.bind_eq_some_iff.mp H
  obtain ⟨t437, A110, H⟩ := H
  (try dsimp only at H)
  have A11 := Aside0.mk A110
  clear A110
  by_cases c12 : t437 = true
  rotate_left
  ·
   replace c12 := Bool.eq_false_iff.mpr c12
   subst c12
   rw [if_neg (show ¬ (false = true) by decide)] at H
   have H' := Aside0.mk H
   clear H
   try go_wp2
   replace BK433 := Aside0.mk (blk_drew BK433.out)
   replace HB := Aside0.mk (below_drew1 HB.out)
   have p436 : 0 ≤ (a0_0 : Int) := of_decide_eq_true z13_8
   have q436 : a0_0 < (l0_3.length : Int) := of_decide_eq_true z13_8
   obtain ⟨ad436, e436, hx436_0⟩ := Kd.at_int HR0_3.out a0_0 p436 q436
   have hw436_0 := hx436_0
   cases e436
   replace hx436_0 := cb_ HB hx436_0
   replace p436 := eq_true p436
   replace q436 := eq_true q436
   refine start_ (n := 42) (S := fun w' => w'.cell? ⟨gb433, 0, none⟩ = some (.int .i64 a0_0) ∧ w'.cell? ⟨gb433, 1, none⟩ = some (.int .i64 a0_1) ∧ w'.cell? ⟨gb433, 2, none⟩ = some (.int .i64 a0_2) ∧ w'.cell? ⟨gb433, 3, none⟩ = some (.slice (some ad436) l0_3.length c0_3) ∧ w'.cell? ⟨gb433, 4, none⟩ = some (.int .i64 a0_4) ∧ w'.cell? ⟨gb433, 5, none⟩ = some (.string a0_5) ∧ w'.cell? ⟨gb433, 6, none⟩ = some (.string a0_6) ∧ w'.cell? ⟨gb433, 7, none⟩ = some (.int .i64 a0_7) ∧ w'.cell? ⟨gb433, 8, none⟩ = some (.int .i64 a0_8) ∧ w'.cell? ⟨gb433, 9, none⟩ = some (.int .i64 a0_9) ∧ w'.cell? (ad436.add (a0_0).toNat) = some (.int .i64 (rd l0_3 a0_0))) (ds := []) mk13_0 z13_3 rfl rfl (jn10 BK433 (cb_ HB hw436_0)) (fun hHeld => ?_); refine with_tabW spec_ActOk.tab1 spec_ActOk.bits1 (fun HT_ HW_ => ?_)
   generalize w3.drew = w16 at BK433 HB hx436_0 hHeld ⊢
   refine p_ (i := 0) (N := some 3) mk13_1 ?_ (hv := z13_1) (ha := z13_0)
   refine t_ (i := 1) (N := some 4) mk13_2 hHeld ?_ (ha := z13_0)
   refine o_ (i := 2) (N := some 5) mk13_3 (fun K hK => ?_)
   refine goes_ Try.func41 z13_3 rfl #[.agg #[.int .i64 a0_0, .int .i64 a0_1]] (by rfl) rfl rfl z13_5 ?_
   with_reducible refine (spec_DotOk.calls a0_0 a0_1 true _ A4.out).mono ?_
   rintro e w17 ⟨rfl, hb⟩
   refine ⟨_, rfl, ?_⟩
   replace BK433 := bb_ BK433 z13_4 hb
   replace HB := Aside0.mk (below_step z13_2 hb)
   (try clear hb)
   (try clear hb2)
   (try clear hk)
   (try clear hi)
   refine hK.out _ _ (jn10 BK433 (cb_ HB hw436_0)) (fun hHeld => ?_)
   clear hK K
   refine n_ ?_
   refine p_ (i := 3) (N := some 6) mk13_4 ?_ (hv := z13_1) (ha := z13_0)
   refine p_ (i := 4) (N := some 7) mk13_5 ?_ (hv := z13_1) (ha := z13_0)
   refine p_ (i := 5) (N := some 8) mk13_6 ?_ (hv := z13_1) (ha := z13_0)
   refine t_ (i := 6) (N := some 9) mk13_7 hHeld ?_ (ha := z13_0)
   refine o_ (i := 7) (N := some 10) mk13_8 (fun K hK => ?_)
   refine goes_ Try.func42 z13_3 rfl #[.slice (some ad436) l0_3.length c0_3] (by rfl) rfl rfl z13_5 ?_
   with_reducible refine (spec_KnowOk.calls k _ _ l0_3 true _ ?side1 ?side2 A6.out).mono ?_
   (case side1 => exact z13_11)
   (case side2 => exact HC0_3.out)
   rintro e w' ⟨rfl, ⟨nd, rfl⟩⟩
   refine ⟨_, rfl, ?_⟩
   refine hK.out _ _ (jn10 BK433 (cb_ HB hw436_0)) (fun hHeld => ?_)
   clear hK K
   refine n_ ?_
   refine p_ (i := 8) (N := some 11) mk13_9 ?_ (hv := z13_1) (ha := z13_0)
   refine p_ (i := 9) (N := some 12) mk13_10 ?_ (hv := z13_1) (ha := z13_0)
   refine p_ (i := 10) (N := some 13) mk13_11 ?_ (hv := z13_1) (ha := z13_0)
   refine p_ (i := 11) (N := some 14) mk13_12 ?_ (hv := z13_1) (ha := z13_0)
   refine p_ (i := 13) (N := some 16) mk13_13 ?_ (hv := z13_1) (ha := z13_0)
   refine p_ (i := 14) (N := some 17) mk13_14 ?_ (hv := z13_1) (ha := z13_0)
   refine p_ (i := 18) (N := some 21) mk13_15 ?_ (hv := z13_1) (ha := z13_0)
   refine p_ (i := 19) (N := some 22) mk13_16 ?_ (hv := z13_1) (ha := z13_0)
   refine t_ (i := 12) (N := some 15) mk13_17 hHeld ?_ (ha := z13_0)
   refine t_ (i := 15) (N := some 18) mk13_18 hHeld ?_ (ha := z13_0)
   refine p_ (i := 16) (N := some 19) mk13_19 ?_ (hv := z13_1) (ha := z13_0)
   refine t_ (i := 17) (N := some 20) mk13_20 hHeld ?_ (ha := z13_0)
   refine t_ (i := 20) (N := some 23) mk13_21 hHeld ?_ (ha := z13_0)
   refine p_ (i := 21) (N := some 24) mk13_22 ?_ (hv := z13_1) (ha := z13_0)
   refine p_ (i := 22) (N := some 25) mk13_23 ?_ (hv := z13_1) (ha := z13_0)
   refine p_ (i := 23) (N := some 26) mk13_24 ?_ (hv := z13_1) (ha := z13_0)
   refine p_ (i := 24) (N := some 27) mk13_25 ?_ (hv := z13_1) (ha := z13_0)
   refine p_ (i := 25) (N := some 28) mk13_26 ?_ (hv := z13_1) (ha := z13_0)
   refine t_ (i := 26) (N := some 29) mk13_27 hHeld ?_ (ha := z13_0)
   refine o_ (i := 27) (N := some 30) mk13_28 (fun K hK => ?_)
   refine goes_ Try.func43 z13_3 rfl #[.int .i64 a0_2, .int .i64 1, .int .i64 10000] (by rfl) rfl rfl z13_5 ?_
   with_reducible refine (spec_l01In.calls a0_2 1 10000 false _ A11.out).mono ?_
   rintro e w' ⟨rfl, ⟨nd, rfl⟩⟩
   refine ⟨_, rfl, ?_⟩
   refine hK.out _ _ (jn10 BK433 (cb_ HB hw436_0)) (fun hHeld => ?_)
   clear hK K
   refine n_ ?_
   refine p_ (i := 28) (N := some 31) mk13_29 ?_ (hv := z13_1) (ha := z13_0)
   refine p_ (i := 29) (N := some 32) mk13_30 ?_ (hv := z13_1) (ha := z13_0)
   refine p_ (i := 30) (N := some 33) mk13_31 ?_ (hv := z13_1) (ha := z13_0)
   refine u_ (i := 31) (N := some 34) mk13_32 ?_ (ha := z13_0)
   refine u_ (i := 32) (N := some 35) mk13_43 ?_ (ha := z13_0)
   refine u_ (i := 33) (N := some 36) mk13_44 ?_ (ha := z13_0)
   refine u_ (i := 34) (N := some 37) mk13_45 ?_ (ha := z13_0)
   refine u_ (i := 35) (N := some 38) mk13_46 ?_ (ha := z13_0)
   refine u_ (i := 36) (N := some 39) mk13_47 ?_ (ha := z13_0)
   refine u_ (i := 37) (N := some 40) mk13_38 ?_ (ha := z13_0)
   refine u_ (i := 38) (N := some 41) mk13_39 ?_ (ha := z13_0)
   refine u_ (i := 39) (N := some 42) mk13_40 ?_ (ha := z13_0)
   refine u_ (i := 40) (N := some 43) mk13_41 ?_ (ha := z13_0)
   refine p_ (i := 41) (N := some 44) mk13_42 ?_ (hv := z13_1) (ha := z13_0)
   refine done_ (done_of HT_.out z13_3) ?_
   try go_wp2
   go_meet
   case rel => exact ⟨_, (true), z13_9, H', ⟨z13_10⟩, ⟨z13_4⟩, ⟨z13_2⟩⟩
  subst c12
  rw [if_pos rfl] at H
  replace H := Option.bind_eq_some_iff.mp H
  obtain ⟨t438, A130, H⟩ := H
  (try dsimp only at H)
  have A13 := Aside0.mk A130
  clear A130
  have H' := Aside0.mk H
  clear H
  try go_wp2
  replace BK433 := Aside0.mk (blk_drew BK433.out)
  replace HB := Aside0.mk (below_drew1 HB.out)
  have p436 : 0 ≤ (a0_0 : Int) := of_decide_eq_true z13_8
  have q436 : a0_0 < (l0_3.length : Int) := of_decide_eq_true z13_8
  obtain ⟨ad436, e436, hx436_0⟩ := Kd.at_int HR0_3.out a0_0 p436 q436
  have hw436_0 := hx436_0
  cases e436
  replace hx436_0 := cb_ HB hx436_0
  replace p436 := eq_true p436
  replace q436 := eq_true q436
  refine start_ (n := 42) (S := fun w' => w'.cell? ⟨gb433, 0, none⟩ = some (.int .i64 a0_0) ∧ w'.cell? ⟨gb433, 1, none⟩ = some (.int .i64 a0_1) ∧ w'.cell? ⟨gb433, 2, none⟩ = some (.int .i64 a0_2) ∧ w'.cell? ⟨gb433, 3, none⟩ = some (.slice (some ad436) l0_3.length c0_3) ∧ w'.cell? ⟨gb433, 4, none⟩ = some (.int .i64 a0_4) ∧ w'.cell? ⟨gb433, 5, none⟩ = some (.string a0_5) ∧ w'.cell? ⟨gb433, 6, none⟩ = some (.string a0_6) ∧ w'.cell? ⟨gb433, 7, none⟩ = some (.int .i64 a0_7) ∧ w'.cell? ⟨gb433, 8, none⟩ = some (.int .i64 a0_8) ∧ w'.cell? ⟨gb433, 9, none⟩ = some (.int .i64 a0_9) ∧ w'.cell? (ad436.add (a0_0).toNat) = some (.int .i64 (rd l0_3 a0_0))) (ds := []) mk13_0 z13_3 rfl rfl (jn10 BK433 (cb_ HB hw436_0)) (fun hHeld => ?_); refine with_tabW spec_ActOk.tab1 spec_ActOk.bits1 (fun HT_ HW_ => ?_)
  generalize w3.drew = w14 at BK433 HB hx436_0 hHeld ⊢
  refine p_ (i := 0) (N := some 3) mk13_1 ?_ (hv := z13_1) (ha := z13_0)
  refine t_ (i := 1) (N := some 4) mk13_2 hHeld ?_ (ha := z13_0)
  refine o_ (i := 2) (N := some 5) mk13_3 (fun K hK => ?_)
  refine goes_ Try.func41 z13_3 rfl #[.agg #[.int .i64 a0_0, .int .i64 a0_1]] (by rfl) rfl rfl z13_5 ?_
  with_reducible refine (spec_DotOk.calls a0_0 a0_1 true _ A4.out).mono ?_
  rintro e w15 ⟨rfl, hb⟩
  refine ⟨_, rfl, ?_⟩
  replace BK433 := bb_ BK433 z13_4 hb
  replace HB := Aside0.mk (below_step z13_2 hb)
  (try clear hb)
  (try clear hb2)
  (try clear hk)
  (try clear hi)
  refine hK.out _ _ (jn10 BK433 (cb_ HB hw436_0)) (fun hHeld => ?_)
  clear hK K
  refine n_ ?_
  refine p_ (i := 3) (N := some 6) mk13_4 ?_ (hv := z13_1) (ha := z13_0)
  refine p_ (i := 4) (N := some 7) mk13_5 ?_ (hv := z13_1) (ha := z13_0)
  refine p_ (i := 5) (N := some 8) mk13_6 ?_ (hv := z13_1) (ha := z13_0)
  refine t_ (i := 6) (N := some 9) mk13_7 hHeld ?_ (ha := z13_0)
  refine o_ (i := 7) (N := some 10) mk13_8 (fun K hK => ?_)
  refine goes_ Try.func42 z13_3 rfl #[.slice (some ad436) l0_3.length c0_3] (by rfl) rfl rfl z13_5 ?_
  with_reducible refine (spec_KnowOk.calls k _ _ l0_3 true _ ?side1 ?side2 A6.out).mono ?_
  (case side1 => exact z13_11)
  (case side2 => exact HC0_3.out)
  rintro e w' ⟨rfl, ⟨nd, rfl⟩⟩
  refine ⟨_, rfl, ?_⟩
  refine hK.out _ _ (jn10 BK433 (cb_ HB hw436_0)) (fun hHeld => ?_)
  clear hK K
  refine n_ ?_
  refine p_ (i := 8) (N := some 11) mk13_9 ?_ (hv := z13_1) (ha := z13_0)
  refine p_ (i := 9) (N := some 12) mk13_10 ?_ (hv := z13_1) (ha := z13_0)
  refine p_ (i := 10) (N := some 13) mk13_11 ?_ (hv := z13_1) (ha := z13_0)
  refine p_ (i := 11) (N := some 14) mk13_12 ?_ (hv := z13_1) (ha := z13_0)
  refine p_ (i := 13) (N := some 16) mk13_13 ?_ (hv := z13_1) (ha := z13_0)
  refine p_ (i := 14) (N := some 17) mk13_14 ?_ (hv := z13_1) (ha := z13_0)
  refine p_ (i := 18) (N := some 21) mk13_15 ?_ (hv := z13_1) (ha := z13_0)
  refine p_ (i := 19) (N := some 22) mk13_16 ?_ (hv := z13_1) (ha := z13_0)
  refine t_ (i := 12) (N := some 15) mk13_17 hHeld ?_ (ha := z13_0)
  refine t_ (i := 15) (N := some 18) mk13_18 hHeld ?_ (ha := z13_0)
  refine p_ (i := 16) (N := some 19) mk13_19 ?_ (hv := z13_1) (ha := z13_0)
  refine t_ (i := 17) (N := some 20) mk13_20 hHeld ?_ (ha := z13_0)
  refine t_ (i := 20) (N := some 23) mk13_21 hHeld ?_ (ha := z13_0)
  refine p_ (i := 21) (N := some 24) mk13_22 ?_ (hv := z13_1) (ha := z13_0)
  refine p_ (i := 22) (N := some 25) mk13_23 ?_ (hv := z13_1) (ha := z13_0)
  refine p_ (i := 23) (N := some 26) mk13_24 ?_ (hv := z13_1) (ha := z13_0)
  refine p_ (i := 24) (N := some 27) mk13_25 ?_ (hv := z13_1) (ha := z13_0)
  refine p_ (i := 25) (N := some 28) mk13_26 ?_ (hv := z13_1) (ha := z13_0)
  refine t_ (i := 26) (N := some 29) mk13_27 hHeld ?_ (ha := z13_0)
  refine o_ (i := 27) (N := some 30) mk13_28 (fun K hK => ?_)
  refine goes_ Try.func43 z13_3 rfl #[.int .i64 a0_2, .int .i64 1, .int .i64 10000] (by rfl) rfl rfl z13_5 ?_
  with_reducible refine (spec_l01In.calls a0_2 1 10000 true _ A11.out).mono ?_
  rintro e w' ⟨rfl, ⟨nd, rfl⟩⟩
  refine ⟨_, rfl, ?_⟩
  refine hK.out _ _ (jn10 BK433 (cb_ HB hw436_0)) (fun hHeld => ?_)
  clear hK K
  refine n_ ?_
  refine p_ (i := 28) (N := some 31) mk13_29 ?_ (hv := z13_1) (ha := z13_0)
  refine p_ (i := 29) (N := some 32) mk13_30 ?_ (hv := z13_1) (ha := z13_0)
  refine p_ (i := 30) (N := some 33) mk13_31 ?_ (hv := z13_1) (ha := z13_0)
  refine p_ (i := 31) (N := some 34) mk13_32 ?_ (hv := z13_1) (ha := z13_0)
  refine p_ (i := 33) (N := some 36) mk13_33 ?_ (hv := z13_1) (ha := z13_0)
  refine p_ (i := 35) (N := some 38) mk13_34 ?_ (hv := z13_1) (ha := z13_0)
  refine p_ (i := 37) (N := some 40) mk13_35 ?_ (hv := z13_1) (ha := z13_0)
  refine t_ (i := 32) (N := some 35) mk13_36 hHeld ?_ (ha := z13_0)
  refine t_ (i := 34) (N := some 37) mk13_37 hHeld ?_ (ha := z13_0)
  refine t_ (i := 36) (N := some 39) mk13_38 hHeld ?_ (ha := z13_0)
  refine t_ (i := 38) (N := some 41) mk13_39 hHeld ?_ (ha := z13_0)
  refine o_ (i := 39) (N := some 42) mk13_40 (fun K hK => ?_)
  refine goes_ Try.func44 z13_3 rfl #[.int .i64 a0_4, .string a0_5, .string a0_6, .int .i64 a0_7] (by rfl) rfl rfl z13_5 ?_
  with_reducible refine (spec_l05Plain.calls k a0_4 a0_5 a0_6 a0_7 t438 _ A13.out).mono ?_
  rintro e w' ⟨rfl, ⟨nd, rfl⟩⟩
  refine ⟨_, rfl, ?_⟩
  refine hK.out _ _ (jn10 BK433 (cb_ HB hw436_0)) (fun hHeld => ?_)
  clear hK K
  refine n_ ?_
  refine p_ (i := 40) (N := some 43) mk13_41 ?_ (hv := z13_1) (ha := z13_0)
  refine p_ (i := 41) (N := some 44) mk13_42 ?_ (hv := z13_1) (ha := z13_0)
  refine done_ (done_of HT_.out z13_3) ?_
  try go_wp2
  go_meet
  case rel => exact ⟨_, (!t438), z13_9, H', ⟨z13_10⟩, ⟨z13_4⟩, ⟨z13_2⟩⟩
 case rest =>
  clear HC2
  try clear p2
  try clear c4
  try clear c5
  try clear c7
  try clear c8
  try clear c9
  obtain ⟨kq, x44_1, rfl, HA, HJ1, BK433, HB⟩ := hcut
  cases kq with
  | zero => exact absurd HA.out (by simp [spec_ActOk.j0])
  | succ kj1 =>
   have H := HA.out
   clear HA
   simp only [spec_ActOk.j0] at H
   by_cases c24 : x44_1 = true
   ·
    subst c24
    rw [if_pos rfl] at H
    obtain rfl := Option.some.inj H
    go_wp2
    go_ret
    exact ⟨z13_6, z13_2⟩
   replace c24 := Bool.eq_false_iff.mpr c24
   subst c24
   rw [if_neg (show ¬ (false = true) by decide)] at H
   by_cases c25 : a0_4 = 7
   ·
    rw [if_pos c25] at H
    have c25b0 : (a0_4 == 7) = true := beq_iff_eq.mpr c25
    have c25b1 : (a0_4 != 7) = false := bne_eq_false_iff_eq.mpr c25
    clear c25
    replace H := Option.bind_eq_some_iff.mp H
    obtain ⟨t439, A260, H⟩ := H
    (try dsimp only at H)
    have A26 := Aside0.mk A260
    clear A260
    obtain rfl := Option.some.inj H
    have hcz27 := bc10 BK433.out
    go_wp2_with (first | ((with_reducible refine gate_callee (f := 45) rfl ?_); refine goesL_ (some 53) rfl rfl Try.func45 z13_3 rfl #[.slice A0_3 l0_3.length c0_3, .agg #[.int .i64 a0_8, .int .i64 a0_9]] rfl z13_5 ?_; (with_reducible refine (spec_Knows.calls kj1 _ _ l0_3 a0_8 a0_9 t439 _ ?side1 ?side2 A26.out).mono ?_); (case side1 => exact z13_11); (case side2 => exact HC0_3.out); rintro e w28 ⟨rfl, hb⟩; refine ⟨_, rfl, ?_⟩; replace BK433 := bb_ BK433 z13_4 hb; replace HB := Aside0.mk (below_step z13_2 hb)))
    go_ret
    exact ⟨z13_6, z13_2⟩
   rw [if_neg c25] at H
   have c25b0 : (a0_4 == 7) = false := beq_eq_false_iff_ne.mpr c25
   have c25b1 : (a0_4 != 7) = true := bne_iff_ne.mpr c25
   by_cases c29 : a0_4 = 6
   rotate_left
   ·
    rw [if_neg c29] at H
    have c29b0 : (a0_4 == 6) = false := beq_eq_false_iff_ne.mpr c29
    have c29b1 : (a0_4 != 6) = true := bne_iff_ne.mpr c29
    obtain rfl := Option.some.inj H
    have hcz35 := bc10 BK433.out
    go_wp2
    go_ret
    exact ⟨z13_6, z13_2⟩
   rw [if_pos c29] at H
   have c29b0 : (a0_4 == 6) = true := beq_iff_eq.mpr c29
   have c29b1 : (a0_4 != 6) = false := bne_eq_false_iff_eq.mpr c29
   clear c29
   by_cases c30 : (a0_8 == 0 && (a0_9 == 0)) = true
   ·
    rw [if_pos c30] at H
    have c30b0 : (a0_8 == 0 && (a0_9 == 0)) = true := c30
    (try (have c30b1 : decide (a0_8 = 0 && (a0_9 == 0)) = true := by simpa using c30))
    (try (have c30b2 : (a0_8 == 0 && (a0_9 == 0)) = true := by simpa using c30))
    clear c30
    obtain rfl := Option.some.inj H
    have hcz31 := bc10 BK433.out
    go_wp2
    go_ret
    exact ⟨z13_6, z13_2⟩
   rw [if_neg c30] at H
   have c30b0 : (a0_8 == 0 && (a0_9 == 0)) = false := by simpa using c30
   (try (have c30b1 : decide (a0_8 = 0 && (a0_9 == 0)) = false := by simpa using c30))
   (try (have c30b2 : (a0_8 == 0 && (a0_9 == 0)) = false := by simpa using c30))
   (try (have c30b3 : ¬ (a0_8 = 0 && (a0_9 == 0)) := by simpa using c30))
   clear c30
   replace H := Option.bind_eq_some_iff.mp H
   obtain ⟨t440, A320, H⟩ := H
   (try dsimp only at H)
   have A32 := Aside0.mk A320
   clear A320
   obtain rfl := Option.some.inj H
   have hcz33 := bc10 BK433.out
   go_wp2_with (first | (go_at_call 45; (with_reducible refine (spec_Knows.calls kj1 _ _ l0_3 a0_8 a0_9 t440 _ ?side1 ?side2 A32.out).mono ?_); (case side1 => exact z13_11); (case side2 => exact HC0_3.out); rintro e w34 ⟨rfl, hb⟩; replace BK433 := bb_ BK433 z13_4 hb; replace HB := Aside0.mk (below_step z13_2 hb)))
   go_ret
   exact ⟨z13_6, z13_2⟩
end Go.Proofs.Ythajpckfodhhpaa.QRA
