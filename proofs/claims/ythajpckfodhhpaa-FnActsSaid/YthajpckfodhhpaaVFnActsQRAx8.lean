/- What the functions behind RA compute, and that the program's calls come to just that. Written by a program of this session on the base of the kit's print. No condition. -/
import Derived.Test.YthajpckfodhhpaaVFnActsShort
import Derived.Test.YthajpckfodhhpaaVFnActsQRAx0
import Derived.Test.YthajpckfodhhpaaVFnActsQRAx1
import Derived.Test.YthajpckfodhhpaaVFnActsQRAx5
import Derived.Test.YthajpckfodhhpaaVFnActsQRAx6
import Derived.Test.YthajpckfodhhpaaVFnActsQRAx7
namespace Go.Proofs.Ythajpckfodhhpaa.QRA
open Go.RowKit Go.Proofs.Ythajpckfodhhpaa.Short Go.Proofs.YthajpckfodhhpaaW.PrintWords Go.Proofs.YthajpckfodhhpaaW.PrintLast Go.Proofs.YthajpckfodhhpaaW.PrintMore
attribute [local go_sem] max2_int min2_int max_two min_two max_three min_three max_four min_four   -- for this text's walks alone
set_option linter.unusedVariables false
set_option linter.unusedSimpArgs false
attribute [local go_sem high] eqA28
theorem z8_9 {P : Prop} (h : P := by first | rfl | (simp; done) | (simp [*]; done)) : P := h
theorem z8_8 {P : Prop} (h : P := by first | (with_reducible assumption) | assumption) : P := h
theorem z8_7 {P : Prop} (h : P := by repeat (first | (with_reducible first | exact HB.out | apply below_alloc | apply pw_below_drewN | apply below_drew1) | exact HB.out)) : P := h
theorem z8_6 {P : Prop} (h : P := by first | rfl | (simp [errW_none, errW_some] <;> rfl) | (simp [*, errW_none, errW_some] <;> rfl)) : P := h
theorem z8_5 {P : Prop} (h : P := by first | rfl | (simp only [List.map_toArray, List.map_cons, List.map_nil]; first | done | rfl)) : P := h
theorem z8_4 {P : Prop} (h : P := by kernel_rfl) : P := h
theorem z8_3 {P : Prop} (h : P := by (with_reducible repeat (first | refine blk_drewN ?_ _ | refine blk_drew ?_ | refine blk_alloc ?_ _)); exact BK306.out) : P := h
theorem z8_2 {P : Prop} (h : P := by intro w'; go_simp; with_reducible rfl) : P := h
theorem z8_1 {P : Prop} (h : P := by repeat (first | (with_reducible first | exact HB.out | apply below_alloc | apply pw_below_drewN | apply below_drew1 | refine below_set ?_ GE306.out) | exact HB.out)) : P := h
theorem z8_0 {P : Prop} (h : P := by simp only [Act.put, List.setIfInBounds_toArray, List.set_cons_zero, List.set_cons_succ, i64_w, i32_w]; rfl) : P := h
abbrev mk8_0 : Array Bool := mb 30 0
abbrev mk8_1 : Array Bool := mb 30 1
abbrev mk8_2 : Array Bool := mb 30 3
abbrev mk8_3 : Array Bool := mb 30 7
abbrev mk8_4 : Array Bool := mb 30 15
abbrev mk8_5 : Array Bool := mb 30 31
abbrev mk8_6 : Array Bool := mb 30 63
abbrev mk8_7 : Array Bool := mb 30 127
abbrev mk8_8 : Array Bool := mb 30 255
abbrev mk8_9 : Array Bool := mb 30 511
abbrev mk8_10 : Array Bool := mb 30 1023
abbrev mk8_11 : Array Bool := mb 30 2047
abbrev mk8_12 : Array Bool := mb 30 4095
abbrev mk8_13 : Array Bool := mb 30 12287
abbrev mk8_14 : Array Bool := mb 30 28671
abbrev mk8_15 : Array Bool := mb 30 290815
abbrev mk8_16 : Array Bool := mb 30 815103
abbrev mk8_17 : Array Bool := mb 30 819199
abbrev mk8_18 : Array Bool := mb 30 851967
abbrev mk8_19 : Array Bool := mb 30 917503
abbrev mk8_20 : Array Bool := mb 30 1048575
abbrev mk8_21 : Array Bool := mb 30 2097151
abbrev mk8_22 : Array Bool := mb 30 4194303
abbrev mk8_23 : Array Bool := mb 30 8388607
abbrev mk8_24 : Array Bool := mb 30 16777215
abbrev mk8_25 : Array Bool := mb 30 33554431
abbrev mk8_26 : Array Bool := mb 30 67108863
abbrev mk8_27 : Array Bool := mb 30 134217727
abbrev mk8_28 : Array Bool := mb 30 268435455
abbrev mk8_29 : Array Bool := mb 30 536870911
abbrev mk8_30 : Array Bool := mb 30 1073741823
abbrev mk8_31 : Array Bool := mb 30 8191
abbrev mk8_32 : Array Bool := mb 30 16383
abbrev mk8_33 : Array Bool := mb 30 32767
abbrev mk8_34 : Array Bool := mb 30 65535
abbrev mk8_35 : Array Bool := mb 30 131071
abbrev mk8_36 : Array Bool := mb 30 262143
abbrev mk8_37 : Array Bool := mb 30 524287
theorem z8_10 {P : Prop} (h : P := by repeat (first | exact (Kd.C_below HR0_3.out HB.out) | (with_reducible refine Kd.C_alloc ?_ _) | (with_reducible refine Kd.C_drewN ?_ _) | (with_reducible refine Kd.C_drew ?_))) : P := h
def impl_ActOk.j0 : Nat → Bool → Int → Int → Int → List Int → Int → ByteArray → ByteArray → Int → Int → Int → Option (Bool)
  | 0, _, _, _, _, _, _, _, _, _, _, _ => none
  | k + 1, x34, x307000, x307001, x307002, x307003, x307004, x307005, x307006, x307007, x307008, x307009 => if x34 = true then (some false) else (if x307004 = 7 then ((impl_Knows.f k x307003 x307008 x307009).bind fun t311 => (if t311 = true then ((impl_wordsOk.f k x307004 x307005 x307006 x307007).bind fun t312 => (some t312)) else (some false))) else (if x307004 = 6 then (if (x307008 == 0 && (x307009 == 0)) = true then ((impl_wordsOk.f k x307004 x307005 x307006 x307007).bind fun t313 => (some t313)) else ((impl_Knows.f k x307003 x307008 x307009).bind fun t314 => (if t314 = true then ((impl_wordsOk.f k x307004 x307005 x307006 x307007).bind fun t315 => (some t315)) else (some false)))) else (if (x307008 == 0 && (x307009 == 0)) = true then ((impl_wordsOk.f k x307004 x307005 x307006 x307007).bind fun t316 => (some t316)) else (some false))))
def impl_ActOk.f (k : Nat) (a0_0 : Int) (a0_1 : Int) (a0_2 : Int) (l0_3 : List Int) (a0_4 : Int) (a0_5 : ByteArray) (a0_6 : ByteArray) (a0_7 : Int) (a0_8 : Int) (a0_9 : Int) : Option (Bool) := (impl_DotOk.f a0_0 a0_1).bind fun t307 => (if t307 = true then ((impl_KnowOk.f k l0_3).bind fun t308 => (if t308 = true then (if 0 ≤ a0_0 then (if a0_0 < (l0_3.length : Int) then (if (rd l0_3 a0_0) = (wrap64 (a0_1 - 1)) then ((impl_within.f a0_2 1 10000).bind fun t310 => (impl_ActOk.j0 k (!t310) a0_0 a0_1 a0_2 l0_3 a0_4 a0_5 a0_6 a0_7 a0_8 a0_9)) else (impl_ActOk.j0 k true a0_0 a0_1 a0_2 l0_3 a0_4 a0_5 a0_6 a0_7 a0_8 a0_9)) else (none)) else (none)) else (impl_ActOk.j0 k true a0_0 a0_1 a0_2 l0_3 a0_4 a0_5 a0_6 a0_7 a0_8 a0_9))) else (impl_ActOk.j0 k true a0_0 a0_1 a0_2 l0_3 a0_4 a0_5 a0_6 a0_7 a0_8 a0_9))
def impl_ActOk.T1 : Bool × List (List Nat × List Nat) := (true, [([], []), ([0], [0]), ([1], [1]), ([2], [2]), ([3, 2], [3]), ([4], [4]), ([5, 4], [4, 5]), ([6, 4, 4], [4, 6]), ([7, 4], [4, 7]), ([4, 8], [4, 8]), ([9, 7], [9]), ([10], [10]), ([11, 10], [10, 11]), ([10], [10]), ([13, 10], [10, 13]), ([14, 10], [10, 14]), ([12, 15, 10], [10, 12, 15]), ([16, 10], [10, 16]), ([10], [10]), ([18, 10], [10, 18]), ([19, 10], [10, 19]), ([20, 10], [10, 20]), ([17, 21, 10], [10, 17, 21]), ([10, 22], [10, 22]), ([23, 10], [23]), ([24], [24]), ([25, 24], [24, 25]), ([26, 24, 24], [24, 26]), ([27, 24], [24, 27]), ([24, 28], [24, 28])])
def impl_ActOk.B1 : List Nat := [0, 1, 3, 7, 15, 31, 63, 127, 255, 511, 1023, 2047, 4095, 2047, 10239, 26623, 65535, 131071, 2047, 264191, 788479, 1837055, 4194303, 8388607, 16777215, 33554431, 67108863, 134217727, 268435455, 536870911]
theorem impl_ActOk.tab1 : rtab .any (opsOf Try.f17 1) = impl_ActOk.T1 := by kernel_rfl
theorem impl_ActOk.bits1 : waitsOk impl_ActOk.T1.2 impl_ActOk.B1 = true := by kernel_rfl
set_option maxHeartbeats 8000000 in
set_option maxRecDepth 100000 in
theorem impl_ActOk.calls (k : Nat) (a0_0 : Int) (a0_1 : Int) (a0_2 : Int) (A0_3 : Option Addr) (c0_3 : Nat) (l0_3 : List Int) (a0_4 : Int) (a0_5 : ByteArray) (a0_6 : ByteArray) (a0_7 : Int) (a0_8 : Int) (a0_9 : Int) (r : Bool) (w : World) (hr0_3 : Kd.C (Kd.int .i64) w A0_3 l0_3.length l0_3) (hc0_3 : l0_3.length ≤ c0_3) (h : impl_ActOk.f k a0_0 a0_1 a0_2 l0_3 a0_4 a0_5 a0_6 a0_7 a0_8 a0_9 = some r) :
  Calls Try.prog 17 #[.agg #[.int .i64 a0_0, .int .i64 a0_1, .int .i64 a0_2, .slice A0_3 l0_3.length c0_3, .int .i64 a0_4, .string a0_5, .string a0_6, .int .i64 a0_7, .int .i64 a0_8, .int .i64 a0_9]] w fun e w' => e = .returned (.bool r) ∧ Below w.heap.size w w' := by
 have hu31 := Try.underlying31
 have hu28 := Try.underlying28
 have HR0_3 := Aside0.mk hr0_3
 have HC0_3 := Aside0.mk hc0_3
 clear hr0_3 hc0_3
 have HB := Aside0.mk (Below.refl w.heap.size w)
 have H := h
 unfold impl_ActOk.f at H
 clear h
 have HC2 := Aside0.mk H
 clear H
 go_enter Try.func17, Try.ntmps17
 go_upto_region 1 with (first | ((with_reducible refine gate_dst (N := 1) rfl ?_); refine box_event ?hg (N := 1) ?hd (cs := #[.int .i64 a0_0, .int .i64 a0_1, .int .i64 a0_2, .slice A0_3 l0_3.length c0_3, .int .i64 a0_4, .string a0_5, .string a0_6, .int .i64 a0_7, .int .i64 a0_8, .int .i64 a0_9]) (t := 31) ?hr ?_; (case hd => rfl); (case hg => rfl); (case hr => first | (go_simp; done) | (go_simp; rfl)); intro gb306 hg w3 hbox hb; have BK306 := Aside0.mk (hbox); have GW306 := gw_ w z8_7 hg; have GE306 := gw_ w z8_7 hg; replace HB := Aside0.mk (below_step z8_7 hb); clear hb hbox hg))
 (try simp only [Act.put, List.setIfInBounds_toArray, List.set_cons_zero, List.set_cons_succ])
 go_cut [34] (fun v34 wc => ∃ (kq : Nat) (x34_1 : Bool), v34 = .bool x34_1 ∧ Aside0 (impl_ActOk.j0 kq x34_1 a0_0 a0_1 a0_2 l0_3 a0_4 a0_5 a0_6 a0_7 a0_8 a0_9 = some r) ∧ Aside0 (kq ≤ k) ∧ Aside0 (wc.heap[gb306]? = some (.cells #[.int .i64 a0_0, .int .i64 a0_1, .int .i64 a0_2, (.slice A0_3 l0_3.length c0_3), .int .i64 a0_4, .string a0_5, .string a0_6, .int .i64 a0_7, .int .i64 a0_8, .int .i64 a0_9] 31 (0, 0))) ∧ Aside0 (Below w.heap.size w wc))
 case first =>
  have H := HC2.out
  clear HC2
  replace H := Option.bind_eq_some_iff.mp H
  obtain ⟨t307, A40, H⟩ := H
  (try dsimp only at H)
  have A4 := Aside0.mk A40
  clear A40
  by_cases c5 : t307 = true
  rotate_left
  ·
   replace c5 := Bool.eq_false_iff.mpr c5
   subst c5
   rw [if_neg (show ¬ (false = true) by decide)] at H
   have H' := Aside0.mk H
   clear H
   try go_wp2
   replace BK306 := Aside0.mk (blk_drew BK306.out)
   replace HB := Aside0.mk (below_drew1 HB.out)
   refine start_ (n := 30) (S := fun w' => w'.cell? ⟨gb306, 0, none⟩ = some (.int .i64 a0_0) ∧ w'.cell? ⟨gb306, 1, none⟩ = some (.int .i64 a0_1) ∧ w'.cell? ⟨gb306, 2, none⟩ = some (.int .i64 a0_2) ∧ w'.cell? ⟨gb306, 3, none⟩ = some (.slice A0_3 l0_3.length c0_3) ∧ w'.cell? ⟨gb306, 4, none⟩ = some (.int .i64 a0_4) ∧ w'.cell? ⟨gb306, 5, none⟩ = some (.string a0_5) ∧ w'.cell? ⟨gb306, 6, none⟩ = some (.string a0_6) ∧ w'.cell? ⟨gb306, 7, none⟩ = some (.int .i64 a0_7) ∧ w'.cell? ⟨gb306, 8, none⟩ = some (.int .i64 a0_8) ∧ w'.cell? ⟨gb306, 9, none⟩ = some (.int .i64 a0_9)) (ds := []) mk8_0 z8_4 rfl rfl (ln10 BK306) (fun hHeld => ?_); refine with_tabW impl_ActOk.tab1 impl_ActOk.bits1 (fun HT_ HW_ => ?_)
   generalize w3.drew = w18 at BK306 HB hHeld ⊢
   refine p_ (i := 0) (N := some 5) mk8_1 ?_ (hv := z8_2) (ha := z8_0)
   refine t_ (i := 1) (N := some 6) mk8_2 hHeld ?_ (ha := z8_0)
   refine o_ (i := 2) (N := some 7) mk8_3 (fun K hK => ?_)
   refine goes_ Try.func46 z8_4 rfl #[.agg #[.int .i64 a0_0, .int .i64 a0_1]] (by rfl) rfl rfl z8_5 ?_
   with_reducible refine (impl_DotOk.calls a0_0 a0_1 false _ A4.out).mono ?_
   rintro e w19 ⟨rfl, hb⟩
   refine ⟨_, rfl, ?_⟩
   replace BK306 := bb_ BK306 z8_3 hb
   replace HB := Aside0.mk (below_step z8_1 hb)
   (try clear hb)
   (try clear hb2)
   (try clear hk)
   (try clear hi)
   refine hK.out _ _ (ln10 BK306) (fun hHeld => ?_)
   clear hK K
   refine n_ ?_
   refine p_ (i := 3) (N := some 8) mk8_4 ?_ (hv := z8_2) (ha := z8_0)
   refine p_ (i := 4) (N := some 9) mk8_5 ?_ (hv := z8_2) (ha := z8_0)
   refine u_ (i := 5) (N := some 10) mk8_6 ?_ (ha := z8_0)
   refine u_ (i := 6) (N := some 11) mk8_7 ?_ (ha := z8_0)
   refine u_ (i := 7) (N := some 12) mk8_8 ?_ (ha := z8_0)
   refine u_ (i := 8) (N := some 13) mk8_9 ?_ (ha := z8_0)
   refine p_ (i := 9) (N := some 14) mk8_10 ?_ (hv := z8_2) (ha := z8_0)
   refine p_ (i := 10) (N := some 15) mk8_11 ?_ (hv := z8_2) (ha := z8_0)
   refine u_ (i := 11) (N := some 16) mk8_12 ?_ (ha := z8_0)
   refine u_ (i := 12) (N := some 17) mk8_31 ?_ (ha := z8_0)
   refine u_ (i := 13) (N := some 18) mk8_32 ?_ (ha := z8_0)
   refine u_ (i := 14) (N := some 19) mk8_33 ?_ (ha := z8_0)
   refine u_ (i := 15) (N := some 20) mk8_34 ?_ (ha := z8_0)
   refine u_ (i := 16) (N := some 21) mk8_35 ?_ (ha := z8_0)
   refine u_ (i := 17) (N := some 22) mk8_36 ?_ (ha := z8_0)
   refine u_ (i := 18) (N := some 23) mk8_37 ?_ (ha := z8_0)
   refine u_ (i := 19) (N := some 24) mk8_20 ?_ (ha := z8_0)
   refine u_ (i := 20) (N := some 25) mk8_21 ?_ (ha := z8_0)
   refine u_ (i := 21) (N := some 26) mk8_22 ?_ (ha := z8_0)
   refine u_ (i := 22) (N := some 27) mk8_23 ?_ (ha := z8_0)
   refine p_ (i := 23) (N := some 28) mk8_24 ?_ (hv := z8_2) (ha := z8_0)
   refine p_ (i := 24) (N := some 29) mk8_25 ?_ (hv := z8_2) (ha := z8_0)
   refine u_ (i := 25) (N := some 30) mk8_26 ?_ (ha := z8_0)
   refine u_ (i := 26) (N := some 31) mk8_27 ?_ (ha := z8_0)
   refine u_ (i := 27) (N := some 32) mk8_28 ?_ (ha := z8_0)
   refine u_ (i := 28) (N := some 33) mk8_29 ?_ (ha := z8_0)
   refine p_ (i := 29) (N := some 34) mk8_30 ?_ (hv := z8_2) (ha := z8_0)
   refine done_ (done_of HT_.out z8_4) ?_
   try go_wp2
   go_meet
   case rel => exact ⟨_, (true), z8_9, H', ⟨by first | omega | exact Nat.le_refl _⟩, ⟨z8_3⟩, ⟨z8_1⟩⟩
  subst c5
  rw [if_pos rfl] at H
  replace H := Option.bind_eq_some_iff.mp H
  obtain ⟨t308, A60, H⟩ := H
  (try dsimp only at H)
  have A6 := Aside0.mk A60
  clear A60
  by_cases c7 : t308 = true
  rotate_left
  ·
   replace c7 := Bool.eq_false_iff.mpr c7
   subst c7
   rw [if_neg (show ¬ (false = true) by decide)] at H
   have H' := Aside0.mk H
   clear H
   try go_wp2
   replace BK306 := Aside0.mk (blk_drew BK306.out)
   replace HB := Aside0.mk (below_drew1 HB.out)
   refine start_ (n := 30) (S := fun w' => w'.cell? ⟨gb306, 0, none⟩ = some (.int .i64 a0_0) ∧ w'.cell? ⟨gb306, 1, none⟩ = some (.int .i64 a0_1) ∧ w'.cell? ⟨gb306, 2, none⟩ = some (.int .i64 a0_2) ∧ w'.cell? ⟨gb306, 3, none⟩ = some (.slice A0_3 l0_3.length c0_3) ∧ w'.cell? ⟨gb306, 4, none⟩ = some (.int .i64 a0_4) ∧ w'.cell? ⟨gb306, 5, none⟩ = some (.string a0_5) ∧ w'.cell? ⟨gb306, 6, none⟩ = some (.string a0_6) ∧ w'.cell? ⟨gb306, 7, none⟩ = some (.int .i64 a0_7) ∧ w'.cell? ⟨gb306, 8, none⟩ = some (.int .i64 a0_8) ∧ w'.cell? ⟨gb306, 9, none⟩ = some (.int .i64 a0_9)) (ds := []) mk8_0 z8_4 rfl rfl (ln10 BK306) (fun hHeld => ?_); refine with_tabW impl_ActOk.tab1 impl_ActOk.bits1 (fun HT_ HW_ => ?_)
   generalize w3.drew = w16 at BK306 HB hHeld ⊢
   refine p_ (i := 0) (N := some 5) mk8_1 ?_ (hv := z8_2) (ha := z8_0)
   refine t_ (i := 1) (N := some 6) mk8_2 hHeld ?_ (ha := z8_0)
   refine o_ (i := 2) (N := some 7) mk8_3 (fun K hK => ?_)
   refine goes_ Try.func46 z8_4 rfl #[.agg #[.int .i64 a0_0, .int .i64 a0_1]] (by rfl) rfl rfl z8_5 ?_
   with_reducible refine (impl_DotOk.calls a0_0 a0_1 true _ A4.out).mono ?_
   rintro e w17 ⟨rfl, hb⟩
   refine ⟨_, rfl, ?_⟩
   replace BK306 := bb_ BK306 z8_3 hb
   replace HB := Aside0.mk (below_step z8_1 hb)
   (try clear hb)
   (try clear hb2)
   (try clear hk)
   (try clear hi)
   refine hK.out _ _ (ln10 BK306) (fun hHeld => ?_)
   clear hK K
   refine n_ ?_
   refine p_ (i := 3) (N := some 8) mk8_4 ?_ (hv := z8_2) (ha := z8_0)
   refine p_ (i := 4) (N := some 9) mk8_5 ?_ (hv := z8_2) (ha := z8_0)
   refine p_ (i := 5) (N := some 10) mk8_6 ?_ (hv := z8_2) (ha := z8_0)
   refine t_ (i := 6) (N := some 11) mk8_7 hHeld ?_ (ha := z8_0)
   refine o_ (i := 7) (N := some 12) mk8_8 (fun K hK => ?_)
   refine goes_ Try.func47 z8_4 rfl #[.slice A0_3 l0_3.length c0_3] (by rfl) rfl rfl z8_5 ?_
   with_reducible refine (impl_KnowOk.calls k _ _ l0_3 false _ ?side1 ?side2 A6.out).mono ?_
   (case side1 => exact z8_10)
   (case side2 => exact HC0_3.out)
   rintro e w' ⟨rfl, ⟨nd, rfl⟩⟩
   refine ⟨_, rfl, ?_⟩
   refine hK.out _ _ (ln10 BK306) (fun hHeld => ?_)
   clear hK K
   refine n_ ?_
   refine p_ (i := 8) (N := some 13) mk8_9 ?_ (hv := z8_2) (ha := z8_0)
   refine p_ (i := 9) (N := some 14) mk8_10 ?_ (hv := z8_2) (ha := z8_0)
   refine p_ (i := 10) (N := some 15) mk8_11 ?_ (hv := z8_2) (ha := z8_0)
   refine u_ (i := 11) (N := some 16) mk8_12 ?_ (ha := z8_0)
   refine u_ (i := 12) (N := some 17) mk8_31 ?_ (ha := z8_0)
   refine u_ (i := 13) (N := some 18) mk8_32 ?_ (ha := z8_0)
   refine u_ (i := 14) (N := some 19) mk8_33 ?_ (ha := z8_0)
   refine u_ (i := 15) (N := some 20) mk8_34 ?_ (ha := z8_0)
   refine u_ (i := 16) (N := some 21) mk8_35 ?_ (ha := z8_0)
   refine u_ (i := 17) (N := some 22) mk8_36 ?_ (ha := z8_0)
   refine u_ (i := 18) (N := some 23) mk8_37 ?_ (ha := z8_0)
   refine u_ (i := 19) (N := some 24) mk8_20 ?_ (ha := z8_0)
   refine u_ (i := 20) (N := some 25) mk8_21 ?_ (ha := z8_0)
   refine u_ (i := 21) (N := some 26) mk8_22 ?_ (ha := z8_0)
   refine u_ (i := 22) (N := some 27) mk8_23 ?_ (ha := z8_0)
   refine p_ (i := 23) (N := some 28) mk8_24 ?_ (hv := z8_2) (ha := z8_0)
   refine p_ (i := 24) (N := some 29) mk8_25 ?_ (hv := z8_2) (ha := z8_0)
   refine u_ (i := 25) (N := some 30) mk8_26 ?_ (ha := z8_0)
   refine u_ (i := 26) (N := some 31) mk8_27 ?_ (ha := z8_0)
   refine u_ (i := 27) (N := some 32) mk8_28 ?_ (ha := z8_0)
   refine u_ (i := 28) (N := some 33) mk8_29 ?_ (ha := z8_0)
   refine p_ (i := 29) (N := some 34) mk8_30 ?_ (hv := z8_2) (ha := z8_0)
   refine done_ (done_of HT_.out z8_4) ?_
   try go_wp2
   go_meet
   case rel => exact ⟨_, (true), z8_9, H', ⟨by first | omega | exact Nat.le_refl _⟩, ⟨z8_3⟩, ⟨z8_1⟩⟩
  subst c7
  rw [if_pos rfl] at H
  by_cases c8 : 0 ≤ a0_0
  rotate_left
  ·
   rw [if_neg c8] at H
   exact absurd H (by simp)
  rw [if_pos c8] at H
  have c8b0 : decide (0 ≤ a0_0) = true := decide_eq_true c8
  clear c8
  (first | rw [c8b0] | (simp only [i64_w, i32_w]; rw [c8b0]) | skip)
  by_cases c9 : a0_0 < (l0_3.length : Int)
  rotate_left
  ·
   rw [if_neg c9] at H
   exact absurd H (by simp)
  rw [if_pos c9] at H
  have c9b0 : decide (a0_0 < (l0_3.length : Int)) = true := decide_eq_true c9
  clear c9
  by_cases c10 : (rd l0_3 a0_0) = (wrap64 (a0_1 - 1))
  rotate_left
  ·
   rw [if_neg c10] at H
   have c10b0 : ((rd l0_3 a0_0) == (wrap64 (a0_1 - 1))) = false := beq_eq_false_iff_ne.mpr c10
   have c10b1 : ((rd l0_3 a0_0) != (wrap64 (a0_1 - 1))) = true := bne_iff_ne.mpr c10
   have H' := Aside0.mk H
   clear H
   try go_wp2
   replace BK306 := Aside0.mk (blk_drew BK306.out)
   replace HB := Aside0.mk (below_drew1 HB.out)
   have p309 : 0 ≤ (a0_0 : Int) := of_decide_eq_true z8_8
   have q309 : a0_0 < (l0_3.length : Int) := of_decide_eq_true z8_8
   obtain ⟨ad309, e309, hx309_0⟩ := Kd.at_int HR0_3.out a0_0 p309 q309
   have hw309_0 := hx309_0
   cases e309
   replace hx309_0 := cb_ HB hx309_0
   replace p309 := eq_true p309
   replace q309 := eq_true q309
   refine start_ (n := 30) (S := fun w' => w'.cell? ⟨gb306, 0, none⟩ = some (.int .i64 a0_0) ∧ w'.cell? ⟨gb306, 1, none⟩ = some (.int .i64 a0_1) ∧ w'.cell? ⟨gb306, 2, none⟩ = some (.int .i64 a0_2) ∧ w'.cell? ⟨gb306, 3, none⟩ = some (.slice (some ad309) l0_3.length c0_3) ∧ w'.cell? ⟨gb306, 4, none⟩ = some (.int .i64 a0_4) ∧ w'.cell? ⟨gb306, 5, none⟩ = some (.string a0_5) ∧ w'.cell? ⟨gb306, 6, none⟩ = some (.string a0_6) ∧ w'.cell? ⟨gb306, 7, none⟩ = some (.int .i64 a0_7) ∧ w'.cell? ⟨gb306, 8, none⟩ = some (.int .i64 a0_8) ∧ w'.cell? ⟨gb306, 9, none⟩ = some (.int .i64 a0_9) ∧ w'.cell? (ad309.add (a0_0).toNat) = some (.int .i64 (rd l0_3 a0_0))) (ds := []) mk8_0 z8_4 rfl rfl (jn10 BK306 (cb_ HB hw309_0)) (fun hHeld => ?_); refine with_tabW impl_ActOk.tab1 impl_ActOk.bits1 (fun HT_ HW_ => ?_)
   generalize w3.drew = w14 at BK306 HB hx309_0 hHeld ⊢
   refine p_ (i := 0) (N := some 5) mk8_1 ?_ (hv := z8_2) (ha := z8_0)
   refine t_ (i := 1) (N := some 6) mk8_2 hHeld ?_ (ha := z8_0)
   refine o_ (i := 2) (N := some 7) mk8_3 (fun K hK => ?_)
   refine goes_ Try.func46 z8_4 rfl #[.agg #[.int .i64 a0_0, .int .i64 a0_1]] (by rfl) rfl rfl z8_5 ?_
   with_reducible refine (impl_DotOk.calls a0_0 a0_1 true _ A4.out).mono ?_
   rintro e w15 ⟨rfl, hb⟩
   refine ⟨_, rfl, ?_⟩
   replace BK306 := bb_ BK306 z8_3 hb
   replace HB := Aside0.mk (below_step z8_1 hb)
   (try clear hb)
   (try clear hb2)
   (try clear hk)
   (try clear hi)
   refine hK.out _ _ (jn10 BK306 (cb_ HB hw309_0)) (fun hHeld => ?_)
   clear hK K
   refine n_ ?_
   refine p_ (i := 3) (N := some 8) mk8_4 ?_ (hv := z8_2) (ha := z8_0)
   refine p_ (i := 4) (N := some 9) mk8_5 ?_ (hv := z8_2) (ha := z8_0)
   refine p_ (i := 5) (N := some 10) mk8_6 ?_ (hv := z8_2) (ha := z8_0)
   refine t_ (i := 6) (N := some 11) mk8_7 hHeld ?_ (ha := z8_0)
   refine o_ (i := 7) (N := some 12) mk8_8 (fun K hK => ?_)
   refine goes_ Try.func47 z8_4 rfl #[.slice (some ad309) l0_3.length c0_3] (by rfl) rfl rfl z8_5 ?_
   with_reducible refine (impl_KnowOk.calls k _ _ l0_3 true _ ?side1 ?side2 A6.out).mono ?_
   (case side1 => exact z8_10)
   (case side2 => exact HC0_3.out)
   rintro e w' ⟨rfl, ⟨nd, rfl⟩⟩
   refine ⟨_, rfl, ?_⟩
   refine hK.out _ _ (jn10 BK306 (cb_ HB hw309_0)) (fun hHeld => ?_)
   clear hK K
   refine n_ ?_
   refine p_ (i := 8) (N := some 13) mk8_9 ?_ (hv := z8_2) (ha := z8_0)
   refine p_ (i := 9) (N := some 14) mk8_10 ?_ (hv := z8_2) (ha := z8_0)
   refine p_ (i := 10) (N := some 15) mk8_11 ?_ (hv := z8_2) (ha := z8_0)
   refine p_ (i := 11) (N := some 16) mk8_12 ?_ (hv := z8_2) (ha := z8_0)
   refine p_ (i := 13) (N := some 18) mk8_13 ?_ (hv := z8_2) (ha := z8_0)
   refine p_ (i := 14) (N := some 19) mk8_14 ?_ (hv := z8_2) (ha := z8_0)
   refine p_ (i := 18) (N := some 23) mk8_15 ?_ (hv := z8_2) (ha := z8_0)
   refine p_ (i := 19) (N := some 24) mk8_16 ?_ (hv := z8_2) (ha := z8_0)
   refine t_ (i := 12) (N := some 17) mk8_17 hHeld ?_ (ha := z8_0)
   refine t_ (i := 15) (N := some 20) mk8_18 hHeld ?_ (ha := z8_0)
   refine p_ (i := 16) (N := some 21) mk8_19 ?_ (hv := z8_2) (ha := z8_0)
   refine t_ (i := 17) (N := some 22) mk8_20 hHeld ?_ (ha := z8_0)
   refine t_ (i := 20) (N := some 25) mk8_21 hHeld ?_ (ha := z8_0)
   refine p_ (i := 21) (N := some 26) mk8_22 ?_ (hv := z8_2) (ha := z8_0)
   refine p_ (i := 22) (N := some 27) mk8_23 ?_ (hv := z8_2) (ha := z8_0)
   refine p_ (i := 23) (N := some 28) mk8_24 ?_ (hv := z8_2) (ha := z8_0)
   refine p_ (i := 24) (N := some 29) mk8_25 ?_ (hv := z8_2) (ha := z8_0)
   refine u_ (i := 25) (N := some 30) mk8_26 ?_ (ha := z8_0)
   refine u_ (i := 26) (N := some 31) mk8_27 ?_ (ha := z8_0)
   refine u_ (i := 27) (N := some 32) mk8_28 ?_ (ha := z8_0)
   refine u_ (i := 28) (N := some 33) mk8_29 ?_ (ha := z8_0)
   refine p_ (i := 29) (N := some 34) mk8_30 ?_ (hv := z8_2) (ha := z8_0)
   refine done_ (done_of HT_.out z8_4) ?_
   try go_wp2
   go_meet
   case rel => exact ⟨_, (true), z8_9, H', ⟨by first | omega | exact Nat.le_refl _⟩, ⟨z8_3⟩, ⟨z8_1⟩⟩
  rw [if_pos c10] at H
  have c10b0 : ((rd l0_3 a0_0) == (wrap64 (a0_1 - 1))) = true := beq_iff_eq.mpr c10
  have c10b1 : ((rd l0_3 a0_0) != (wrap64 (a0_1 - 1))) = false := bne_eq_false_iff_eq.mpr c10
  clear c10
  replace H := Option.bind_eq_some_iff.mp H
  obtain ⟨t310, A110, H⟩ := H
  (try dsimp only at H)
  have A11 := Aside0.mk A110
  clear A110
  have H' := Aside0.mk H
  clear H
  try go_wp2
  replace BK306 := Aside0.mk (blk_drew BK306.out)
  replace HB := Aside0.mk (below_drew1 HB.out)
  have p309 : 0 ≤ (a0_0 : Int) := of_decide_eq_true z8_8
  have q309 : a0_0 < (l0_3.length : Int) := of_decide_eq_true z8_8
  obtain ⟨ad309, e309, hx309_0⟩ := Kd.at_int HR0_3.out a0_0 p309 q309
  have hw309_0 := hx309_0
  cases e309
  replace hx309_0 := cb_ HB hx309_0
  replace p309 := eq_true p309
  replace q309 := eq_true q309
  refine start_ (n := 30) (S := fun w' => w'.cell? ⟨gb306, 0, none⟩ = some (.int .i64 a0_0) ∧ w'.cell? ⟨gb306, 1, none⟩ = some (.int .i64 a0_1) ∧ w'.cell? ⟨gb306, 2, none⟩ = some (.int .i64 a0_2) ∧ w'.cell? ⟨gb306, 3, none⟩ = some (.slice (some ad309) l0_3.length c0_3) ∧ w'.cell? ⟨gb306, 4, none⟩ = some (.int .i64 a0_4) ∧ w'.cell? ⟨gb306, 5, none⟩ = some (.string a0_5) ∧ w'.cell? ⟨gb306, 6, none⟩ = some (.string a0_6) ∧ w'.cell? ⟨gb306, 7, none⟩ = some (.int .i64 a0_7) ∧ w'.cell? ⟨gb306, 8, none⟩ = some (.int .i64 a0_8) ∧ w'.cell? ⟨gb306, 9, none⟩ = some (.int .i64 a0_9) ∧ w'.cell? (ad309.add (a0_0).toNat) = some (.int .i64 (rd l0_3 a0_0))) (ds := []) mk8_0 z8_4 rfl rfl (jn10 BK306 (cb_ HB hw309_0)) (fun hHeld => ?_); refine with_tabW impl_ActOk.tab1 impl_ActOk.bits1 (fun HT_ HW_ => ?_)
  generalize w3.drew = w12 at BK306 HB hx309_0 hHeld ⊢
  refine p_ (i := 0) (N := some 5) mk8_1 ?_ (hv := z8_2) (ha := z8_0)
  refine t_ (i := 1) (N := some 6) mk8_2 hHeld ?_ (ha := z8_0)
  refine o_ (i := 2) (N := some 7) mk8_3 (fun K hK => ?_)
  refine goes_ Try.func46 z8_4 rfl #[.agg #[.int .i64 a0_0, .int .i64 a0_1]] (by rfl) rfl rfl z8_5 ?_
  with_reducible refine (impl_DotOk.calls a0_0 a0_1 true _ A4.out).mono ?_
  rintro e w13 ⟨rfl, hb⟩
  refine ⟨_, rfl, ?_⟩
  replace BK306 := bb_ BK306 z8_3 hb
  replace HB := Aside0.mk (below_step z8_1 hb)
  (try clear hb)
  (try clear hb2)
  (try clear hk)
  (try clear hi)
  refine hK.out _ _ (jn10 BK306 (cb_ HB hw309_0)) (fun hHeld => ?_)
  clear hK K
  refine n_ ?_
  refine p_ (i := 3) (N := some 8) mk8_4 ?_ (hv := z8_2) (ha := z8_0)
  refine p_ (i := 4) (N := some 9) mk8_5 ?_ (hv := z8_2) (ha := z8_0)
  refine p_ (i := 5) (N := some 10) mk8_6 ?_ (hv := z8_2) (ha := z8_0)
  refine t_ (i := 6) (N := some 11) mk8_7 hHeld ?_ (ha := z8_0)
  refine o_ (i := 7) (N := some 12) mk8_8 (fun K hK => ?_)
  refine goes_ Try.func47 z8_4 rfl #[.slice (some ad309) l0_3.length c0_3] (by rfl) rfl rfl z8_5 ?_
  with_reducible refine (impl_KnowOk.calls k _ _ l0_3 true _ ?side1 ?side2 A6.out).mono ?_
  (case side1 => exact z8_10)
  (case side2 => exact HC0_3.out)
  rintro e w' ⟨rfl, ⟨nd, rfl⟩⟩
  refine ⟨_, rfl, ?_⟩
  refine hK.out _ _ (jn10 BK306 (cb_ HB hw309_0)) (fun hHeld => ?_)
  clear hK K
  refine n_ ?_
  refine p_ (i := 8) (N := some 13) mk8_9 ?_ (hv := z8_2) (ha := z8_0)
  refine p_ (i := 9) (N := some 14) mk8_10 ?_ (hv := z8_2) (ha := z8_0)
  refine p_ (i := 10) (N := some 15) mk8_11 ?_ (hv := z8_2) (ha := z8_0)
  refine p_ (i := 11) (N := some 16) mk8_12 ?_ (hv := z8_2) (ha := z8_0)
  refine p_ (i := 13) (N := some 18) mk8_13 ?_ (hv := z8_2) (ha := z8_0)
  refine p_ (i := 14) (N := some 19) mk8_14 ?_ (hv := z8_2) (ha := z8_0)
  refine p_ (i := 18) (N := some 23) mk8_15 ?_ (hv := z8_2) (ha := z8_0)
  refine p_ (i := 19) (N := some 24) mk8_16 ?_ (hv := z8_2) (ha := z8_0)
  refine t_ (i := 12) (N := some 17) mk8_17 hHeld ?_ (ha := z8_0)
  refine t_ (i := 15) (N := some 20) mk8_18 hHeld ?_ (ha := z8_0)
  refine p_ (i := 16) (N := some 21) mk8_19 ?_ (hv := z8_2) (ha := z8_0)
  refine t_ (i := 17) (N := some 22) mk8_20 hHeld ?_ (ha := z8_0)
  refine t_ (i := 20) (N := some 25) mk8_21 hHeld ?_ (ha := z8_0)
  refine p_ (i := 21) (N := some 26) mk8_22 ?_ (hv := z8_2) (ha := z8_0)
  refine p_ (i := 22) (N := some 27) mk8_23 ?_ (hv := z8_2) (ha := z8_0)
  refine p_ (i := 23) (N := some 28) mk8_24 ?_ (hv := z8_2) (ha := z8_0)
  refine p_ (i := 24) (N := some 29) mk8_25 ?_ (hv := z8_2) (ha := z8_0)
  refine p_ (i := 25) (N := some 30) mk8_26 ?_ (hv := z8_2) (ha := z8_0)
  refine t_ (i := 26) (N := some 31) mk8_27 hHeld ?_ (ha := z8_0)
  refine o_ (i := 27) (N := some 32) mk8_28 (fun K hK => ?_)
  refine goes_ Try.func48 z8_4 rfl #[.int .i64 a0_2, .int .i64 1, .int .i64 10000] (by rfl) rfl rfl z8_5 ?_
  with_reducible refine (impl_within.calls a0_2 1 10000 t310 _ A11.out).mono ?_
  rintro e w' ⟨rfl, ⟨nd, rfl⟩⟩
  refine ⟨_, rfl, ?_⟩
  refine hK.out _ _ (jn10 BK306 (cb_ HB hw309_0)) (fun hHeld => ?_)
  clear hK K
  refine n_ ?_
  refine p_ (i := 28) (N := some 33) mk8_29 ?_ (hv := z8_2) (ha := z8_0)
  refine p_ (i := 29) (N := some 34) mk8_30 ?_ (hv := z8_2) (ha := z8_0)
  refine done_ (done_of HT_.out z8_4) ?_
  try go_wp2
  go_meet
  case rel => exact ⟨_, (!t310), z8_9, H', ⟨by first | omega | exact Nat.le_refl _⟩, ⟨z8_3⟩, ⟨z8_1⟩⟩
 case rest =>
  clear HC2
  try clear p2
  try clear c4
  try clear c5
  try clear c7
  try clear c8
  try clear c9
  obtain ⟨kq, x34_1, rfl, HA, HJ1, BK306, HB⟩ := hcut
  cases kq with
  | zero => exact absurd HA.out (by simp [impl_ActOk.j0])
  | succ kj1 =>
   have H := HA.out
   clear HA
   simp only [impl_ActOk.j0] at H
   by_cases c20 : x34_1 = true
   ·
    subst c20
    rw [if_pos rfl] at H
    obtain rfl := Option.some.inj H
    go_wp2
    go_ret
    exact ⟨z8_6, z8_1⟩
   replace c20 := Bool.eq_false_iff.mpr c20
   subst c20
   rw [if_neg (show ¬ (false = true) by decide)] at H
   by_cases c21 : a0_4 = 7
   ·
    rw [if_pos c21] at H
    have c21b0 : (a0_4 == 7) = true := beq_iff_eq.mpr c21
    have c21b1 : (a0_4 != 7) = false := bne_eq_false_iff_eq.mpr c21
    clear c21
    replace H := Option.bind_eq_some_iff.mp H
    obtain ⟨t311, A220, H⟩ := H
    (try dsimp only at H)
    have A22 := Aside0.mk A220
    clear A220
    by_cases c23 : t311 = true
    rotate_left
    ·
     replace c23 := Bool.eq_false_iff.mpr c23
     subst c23
     rw [if_neg (show ¬ (false = true) by decide)] at H
     obtain rfl := Option.some.inj H
     have hcz28 := bc10 BK306.out
     go_wp2_with (first | ((with_reducible refine gate_callee (f := 49) rfl ?_); refine goesL_ (some 48) rfl rfl Try.func49 z8_4 rfl #[.slice A0_3 l0_3.length c0_3, .agg #[.int .i64 a0_8, .int .i64 a0_9]] rfl z8_5 ?_; (with_reducible refine (impl_Knows.calls kj1 _ _ l0_3 a0_8 a0_9 false _ ?side1 ?side2 A22.out).mono ?_); (case side1 => exact z8_10); (case side2 => exact HC0_3.out); rintro e w29 ⟨rfl, hb⟩; refine ⟨_, rfl, ?_⟩; replace BK306 := bb_ BK306 z8_3 hb; replace HB := Aside0.mk (below_step z8_1 hb)))
     go_ret
     exact ⟨z8_6, z8_1⟩
    subst c23
    rw [if_pos rfl] at H
    replace H := Option.bind_eq_some_iff.mp H
    obtain ⟨t312, A240, H⟩ := H
    (try dsimp only at H)
    have A24 := Aside0.mk A240
    clear A240
    obtain rfl := Option.some.inj H
    have hcz25 := bc10 BK306.out
    go_wp2_with (first | ((with_reducible refine gate_callee (f := 49) rfl ?_); refine goesL_ (some 48) rfl rfl Try.func49 z8_4 rfl #[.slice A0_3 l0_3.length c0_3, .agg #[.int .i64 a0_8, .int .i64 a0_9]] rfl z8_5 ?_; (with_reducible refine (impl_Knows.calls kj1 _ _ l0_3 a0_8 a0_9 true _ ?side1 ?side2 A22.out).mono ?_); (case side1 => exact z8_10); (case side2 => exact HC0_3.out); rintro e w26 ⟨rfl, hb⟩; refine ⟨_, rfl, ?_⟩; replace BK306 := bb_ BK306 z8_3 hb; replace HB := Aside0.mk (below_step z8_1 hb); have hcz27 := bc10 BK306.out) | (go_at_call 50; (with_reducible refine (impl_wordsOk.calls kj1 a0_4 a0_5 a0_6 a0_7 t312 _ A24.out).mono ?_); rintro e w' ⟨rfl, ⟨nd, rfl⟩⟩))
    go_ret
    exact ⟨z8_6, z8_1⟩
   rw [if_neg c21] at H
   have c21b0 : (a0_4 == 7) = false := beq_eq_false_iff_ne.mpr c21
   have c21b1 : (a0_4 != 7) = true := bne_iff_ne.mpr c21
   by_cases c30 : a0_4 = 6
   rotate_left
   ·
    rw [if_neg c30] at H
    have c30b0 : (a0_4 == 6) = false := beq_eq_false_iff_ne.mpr c30
    have c30b1 : (a0_4 != 6) = true := bne_iff_ne.mpr c30
    by_cases c42 : (a0_8 == 0 && (a0_9 == 0)) = true
    rotate_left
    ·
     rw [if_neg c42] at H
     have c42b0 : (a0_8 == 0 && (a0_9 == 0)) = false := by simpa using c42
     (try (have c42b1 : decide (a0_8 = 0 && (a0_9 == 0)) = false := by simpa using c42))
     (try (have c42b2 : (a0_8 == 0 && (a0_9 == 0)) = false := by simpa using c42))
     (try (have c42b3 : ¬ (a0_8 = 0 && (a0_9 == 0)) := by simpa using c42))
     clear c42
     obtain rfl := Option.some.inj H
     have hcz45 := bc10 BK306.out
     go_wp2
     go_ret
     exact ⟨z8_6, z8_1⟩
    rw [if_pos c42] at H
    have c42b0 : (a0_8 == 0 && (a0_9 == 0)) = true := c42
    (try (have c42b1 : decide (a0_8 = 0 && (a0_9 == 0)) = true := by simpa using c42))
    (try (have c42b2 : (a0_8 == 0 && (a0_9 == 0)) = true := by simpa using c42))
    clear c42
    replace H := Option.bind_eq_some_iff.mp H
    obtain ⟨t316, A430, H⟩ := H
    (try dsimp only at H)
    have A43 := Aside0.mk A430
    clear A430
    obtain rfl := Option.some.inj H
    have hcz44 := bc10 BK306.out
    go_wp2_with (first | (go_at_call 50; (with_reducible refine (impl_wordsOk.calls kj1 a0_4 a0_5 a0_6 a0_7 t316 _ A43.out).mono ?_); rintro e w' ⟨rfl, ⟨nd, rfl⟩⟩))
    go_ret
    exact ⟨z8_6, z8_1⟩
   rw [if_pos c30] at H
   have c30b0 : (a0_4 == 6) = true := beq_iff_eq.mpr c30
   have c30b1 : (a0_4 != 6) = false := bne_eq_false_iff_eq.mpr c30
   clear c30
   by_cases c31 : (a0_8 == 0 && (a0_9 == 0)) = true
   ·
    rw [if_pos c31] at H
    have c31b0 : (a0_8 == 0 && (a0_9 == 0)) = true := c31
    (try (have c31b1 : decide (a0_8 = 0 && (a0_9 == 0)) = true := by simpa using c31))
    (try (have c31b2 : (a0_8 == 0 && (a0_9 == 0)) = true := by simpa using c31))
    clear c31
    replace H := Option.bind_eq_some_iff.mp H
    obtain ⟨t313, A320, H⟩ := H
    (try dsimp only at H)
    have A32 := Aside0.mk A320
    clear A320
    obtain rfl := Option.some.inj H
    have hcz33 := bc10 BK306.out
    go_wp2_with (first | (go_at_call 50; (with_reducible refine (impl_wordsOk.calls kj1 a0_4 a0_5 a0_6 a0_7 t313 _ A32.out).mono ?_); rintro e w' ⟨rfl, ⟨nd, rfl⟩⟩))
    go_ret
    exact ⟨z8_6, z8_1⟩
   rw [if_neg c31] at H
   have c31b0 : (a0_8 == 0 && (a0_9 == 0)) = false := by simpa using c31
   (try (have c31b1 : decide (a0_8 = 0 && (a0_9 == 0)) = false := by simpa using c31))
   (try (have c31b2 : (a0_8 == 0 && (a0_9 == 0)) = false := by simpa using c31))
   (try (have c31b3 : ¬ (a0_8 = 0 && (a0_9 == 0)) := by simpa using c31))
   clear c31
   replace H := Option.bind_eq_some_iff.mp H
   obtain ⟨t314, A340, H⟩ := H
   (try dsimp only at H)
   have A34 := Aside0.mk A340
   clear A340
   by_cases c35 : t314 = true
   rotate_left
   ·
    replace c35 := Bool.eq_false_iff.mpr c35
    subst c35
    rw [if_neg (show ¬ (false = true) by decide)] at H
    obtain rfl := Option.some.inj H
    have hcz40 := bc10 BK306.out
    go_wp2_with (first | (go_at_call 49; (with_reducible refine (impl_Knows.calls kj1 _ _ l0_3 a0_8 a0_9 false _ ?side1 ?side2 A34.out).mono ?_); (case side1 => exact z8_10); (case side2 => exact HC0_3.out); rintro e w41 ⟨rfl, hb⟩; replace BK306 := bb_ BK306 z8_3 hb; replace HB := Aside0.mk (below_step z8_1 hb)))
    go_ret
    exact ⟨z8_6, z8_1⟩
   subst c35
   rw [if_pos rfl] at H
   replace H := Option.bind_eq_some_iff.mp H
   obtain ⟨t315, A360, H⟩ := H
   (try dsimp only at H)
   have A36 := Aside0.mk A360
   clear A360
   obtain rfl := Option.some.inj H
   have hcz37 := bc10 BK306.out
   go_wp2_with (first | (go_at_call 49; (with_reducible refine (impl_Knows.calls kj1 _ _ l0_3 a0_8 a0_9 true _ ?side1 ?side2 A34.out).mono ?_); (case side1 => exact z8_10); (case side2 => exact HC0_3.out); rintro e w38 ⟨rfl, hb⟩; replace BK306 := bb_ BK306 z8_3 hb; replace HB := Aside0.mk (below_step z8_1 hb); have hcz39 := bc10 BK306.out) | (go_at_call 50; (with_reducible refine (impl_wordsOk.calls kj1 a0_4 a0_5 a0_6 a0_7 t315 _ A36.out).mono ?_); rintro e w' ⟨rfl, ⟨nd, rfl⟩⟩))
   go_ret
   exact ⟨z8_6, z8_1⟩
end Go.Proofs.Ythajpckfodhhpaa.QRA
