/- What the functions behind RA compute, and that the program's calls come to just that. Written by a program of this session on the base of the kit's print. No condition. -/
import Derived.Test.YthajpckfodhhpaaVFnActsShort
import Derived.Test.YthajpckfodhhpaaVFnActsQRAx0
import Derived.Test.YthajpckfodhhpaaVFnActsQRAx2
import Derived.Test.YthajpckfodhhpaaVFnActsQRAx13
import Derived.Test.YthajpckfodhhpaaVFnActsQRAx14
namespace Go.Proofs.Ythajpckfodhhpaa.QRA
open Go.RowKit Go.Proofs.Ythajpckfodhhpaa.Short Go.Proofs.YthajpckfodhhpaaW.PrintWords Go.Proofs.YthajpckfodhhpaaW.PrintLast Go.Proofs.YthajpckfodhhpaaW.PrintMore
attribute [local go_sem] max2_int min2_int max_two min_two max_three min_three max_four min_four   -- for this text's walks alone
set_option linter.unusedVariables false
set_option linter.unusedSimpArgs false
theorem z15_11 {P : Prop} (h : P := by first | rfl | (simp; done) | (simp [*]; done)) : P := h
theorem z15_10 {P : Prop} (h : P := by first | rfl | (simp [errW_none, errW_some] <;> rfl) | (simp [*, errW_none, errW_some] <;> rfl)) : P := h
theorem z15_9 {P : Prop} (h : P := by kernel_rfl) : P := h
theorem z15_8 {P : Prop} (h : P := by intro w'; go_simp; with_reducible rfl) : P := h
theorem z15_7 {P : Prop} (h : P := by repeat (first | (with_reducible first | exact HB.out | apply below_alloc | apply pw_below_drewN | apply below_drew1) | exact HB.out)) : P := h
theorem z15_6 {P : Prop} (h : P := by first | rfl | (simp only [List.map_toArray, List.map_cons, List.map_nil]; first | done | rfl)) : P := h
theorem z15_5 {P : Prop} (h : P := by repeat (first | (with_reducible first | exact HI0.out | apply IsS74.alloc | apply IsS74.drewN | apply IsS74.drew | apply IsS74.set_1 | apply IsS74.set_2) | exact HI0.out)) : P := h
theorem z15_4 {P : Prop} (h : P := by repeat (first | (with_reducible first | exact HB.out | apply below_alloc | apply pw_below_drewN | apply below_drew1 | refine below_set ?_ (IsS74.ge HI0.out)) | exact HB.out)) : P := h
theorem z15_3 {P : Prop} (h : P := by (with_reducible repeat (first | refine blk_drewN ?_ _ | refine blk_drew ?_ | refine blk_alloc ?_ _)); exact BK456.out) : P := h
theorem z15_2 {P : Prop} (h : P := by repeat (first | (with_reducible first | exact HK.out | apply KeepBut.set_ | apply keep_drewN | apply keep_drew | apply keep_alloc) | exact HK.out)) : P := h
theorem z15_1 {P : Prop} (h : P := by repeat (first | (with_reducible first | exact HB.out | apply below_alloc | apply pw_below_drewN | apply below_drew1 | refine below_set ?_ GE456.out) | exact HB.out)) : P := h
theorem z15_0 {P : Prop} (h : P := by simp only [Act.put, List.setIfInBounds_toArray, List.set_cons_zero, List.set_cons_succ, i64_w, i32_w]; rfl) : P := h
abbrev mk15_0 : Array Bool := mb 33 0
abbrev mk15_1 : Array Bool := mb 33 1
abbrev mk15_2 : Array Bool := mb 33 9
abbrev mk15_3 : Array Bool := mb 33 137
abbrev mk15_4 : Array Bool := mb 33 2185
abbrev mk15_5 : Array Bool := mb 33 34953
abbrev mk15_6 : Array Bool := mb 33 559241
abbrev mk15_7 : Array Bool := mb 33 8947849
abbrev mk15_8 : Array Bool := mb 33 143165577
abbrev mk15_9 : Array Bool := mb 33 143165579
abbrev mk15_10 : Array Bool := mb 33 143165595
abbrev mk15_11 : Array Bool := mb 33 143165851
abbrev mk15_12 : Array Bool := mb 33 143169947
abbrev mk15_13 : Array Bool := mb 33 143235483
abbrev mk15_14 : Array Bool := mb 33 144284059
abbrev mk15_15 : Array Bool := mb 33 161061275
abbrev mk15_16 : Array Bool := mb 33 429496731
abbrev mk15_17 : Array Bool := mb 33 429496735
abbrev mk15_18 : Array Bool := mb 33 429496767
abbrev mk15_19 : Array Bool := mb 33 429496831
abbrev mk15_20 : Array Bool := mb 33 429497343
abbrev mk15_21 : Array Bool := mb 33 429498367
abbrev mk15_22 : Array Bool := mb 33 429506559
abbrev mk15_23 : Array Bool := mb 33 429522943
abbrev mk15_24 : Array Bool := mb 33 429654015
abbrev mk15_25 : Array Bool := mb 33 429916159
abbrev mk15_26 : Array Bool := mb 33 432013311
abbrev mk15_27 : Array Bool := mb 33 436207615
abbrev mk15_28 : Array Bool := mb 33 469762047
abbrev mk15_29 : Array Bool := mb 33 536870911
abbrev mk15_30 : Array Bool := mb 33 1073741823
abbrev mk15_31 : Array Bool := mb 33 2147483647
abbrev mk15_32 : Array Bool := mb 33 4294967295
abbrev mk15_33 : Array Bool := mb 33 8589934591
theorem z15_12 {P : Prop} (h : P := by repeat (first | exact (Kd.C_below HR0_3.out HB.out) | (with_reducible refine Kd.C_alloc ?_ _) | (with_reducible refine Kd.C_drewN ?_ _) | (with_reducible refine Kd.C_drew ?_))) : P := h
def spec_ActText.f (k : Nat) (a0_0 : Int) (a0_1 : Int) (a0_2 : Int) (l0_3 : List Int) (a0_4 : Int) (a0_5 : ByteArray) (a0_6 : ByteArray) (a0_7 : Int) (a0_8 : Int) (a0_9 : Int) : Option (ByteArray × Bool) := (spec_ActOk.f k a0_0 a0_1 a0_2 l0_3 a0_4 a0_5 a0_6 a0_7 a0_8 a0_9).bind fun t457 => (if t457 = true then ((spec_l05Dot.f k a0_0 a0_1).bind fun t458 => ((spec_l01Var.f k a0_2).bind fun t459 => (if t458.size + t459.size ≤ 9223372036854775807 then ((spec_l05Know.f k l0_3).bind fun t460 => (if (t458 ++ t459).size + t460.size ≤ 9223372036854775807 then ((spec_l01Var.f k a0_4).bind fun t461 => (if ((t458 ++ t459) ++ t460).size + t461.size ≤ 9223372036854775807 then ((spec_l05Short.f k a0_5).bind fun t462 => (if (((t458 ++ t459) ++ t460) ++ t461).size + t462.size ≤ 9223372036854775807 then ((spec_l05Short.f k a0_6).bind fun t463 => (if ((((t458 ++ t459) ++ t460) ++ t461) ++ t462).size + t463.size ≤ 9223372036854775807 then ((spec_l01Var.f k a0_7).bind fun t464 => (if (((((t458 ++ t459) ++ t460) ++ t461) ++ t462) ++ t463).size + t464.size ≤ 9223372036854775807 then ((spec_l05Dot.f k a0_8 a0_9).bind fun t465 => (if ((((((t458 ++ t459) ++ t460) ++ t461) ++ t462) ++ t463) ++ t464).size + t465.size ≤ 9223372036854775807 then (some (((((((t458 ++ t459) ++ t460) ++ t461) ++ t462) ++ t463) ++ t464) ++ t465, true)) else (none))) else (none))) else (none))) else (none))) else (none))) else (none))) else (none)))) else (some ((⟨#[]⟩ : ByteArray), false)))
def spec_ActText.T3 : Bool × List (List Nat × List Nat) := (true, [([], []), ([0], [0]), ([1], [1]), ([], []), ([3], [3]), ([4, 2], [4]), ([2, 5], [2, 5]), ([], []), ([7], [7]), ([8, 5], [8]), ([6, 9], [6, 9]), ([], []), ([11], [11]), ([12, 9], [12]), ([10, 13], [10, 13]), ([], []), ([15], [15]), ([16, 13], [16]), ([14, 17], [14, 17]), ([], []), ([19], [19]), ([20, 17], [20]), ([18, 21], [18, 21]), ([], []), ([23], [23]), ([24, 21], [24]), ([22, 25], [22, 25]), ([], []), ([27], [27]), ([28, 25], [28]), ([26, 29], [26, 29]), ([30, 29, 0, 1, 2, 3, 4, 5, 6, 7, 8, 9, 10, 11, 12, 13, 14, 15, 16, 17, 18, 19, 20, 21, 22, 23, 24, 25, 26, 27, 28, 29, 30], [30]), ([31, 0, 1, 2, 3, 4, 5, 6, 7, 8, 9, 10, 11, 12, 13, 14, 15, 16, 17, 18, 19, 20, 21, 22, 23, 24, 25, 26, 27, 28, 29, 30, 31], [])])
def spec_ActText.B3 : List Nat := [0, 1, 3, 0, 8, 31, 63, 0, 128, 447, 1023, 0, 2048, 7103, 16383, 0, 32768, 113599, 262143, 0, 524288, 1817535, 4194303, 0, 8388608, 29080511, 67108863, 0, 134217728, 465288127, 1073741823, 2147483647, 4294967295]
theorem spec_ActText.tab3 : rtab .any (opsOf Try.f35 3) = spec_ActText.T3 := by kernel_rfl
theorem spec_ActText.bits3 : waitsOk spec_ActText.T3.2 spec_ActText.B3 = true := by kernel_rfl
set_option maxHeartbeats 8000000 in
set_option maxRecDepth 100000 in
theorem spec_ActText.calls (k : Nat) (a0_0 : Int) (a0_1 : Int) (a0_2 : Int) (A0_3 : Option Addr) (c0_3 : Nat) (l0_3 : List Int) (a0_4 : Int) (a0_5 : ByteArray) (a0_6 : ByteArray) (a0_7 : Int) (a0_8 : Int) (a0_9 : Int) (r1 : ByteArray) (r2 : Bool) (w : World) (hr0_3 : Kd.C (Kd.int .i64) w A0_3 l0_3.length l0_3) (hc0_3 : l0_3.length ≤ c0_3) (h : spec_ActText.f k a0_0 a0_1 a0_2 l0_3 a0_4 a0_5 a0_6 a0_7 a0_8 a0_9 = some (r1, r2)) :
  Calls Try.prog 35 #[.agg #[.int .i64 a0_0, .int .i64 a0_1, .int .i64 a0_2, .slice A0_3 l0_3.length c0_3, .int .i64 a0_4, .string a0_5, .string a0_6, .int .i64 a0_7, .int .i64 a0_8, .int .i64 a0_9]] w fun e w' => e = .returned (.tuple #[.string r1, .bool r2]) ∧ Below w.heap.size w w' := by
 have hu31 := Try.underlying31
 have hu28 := Try.underlying28
 have HR0_3 := Aside0.mk hr0_3
 have HC0_3 := Aside0.mk hc0_3
 clear hr0_3 hc0_3
 have HB := Aside0.mk (Below.refl w.heap.size w)
 have H := h
 unfold spec_ActText.f at H
 clear h
 replace H := Option.bind_eq_some_iff.mp H
 obtain ⟨t457, A20, H⟩ := H
 (try dsimp only at H)
 have A2 := Aside0.mk A20
 clear A20
 by_cases c3 : t457 = true
 rotate_left
 ·
  replace c3 := Bool.eq_false_iff.mpr c3
  subst c3
  rw [if_neg (show ¬ (false = true) by decide)] at H
  simp only [Option.some.injEq, Prod.mk.injEq] at H
  obtain ⟨rfl, rfl⟩ := H
  go_enter Try.func35, Try.ntmps35
  go_wp2_with (first | ((with_reducible refine gate_dst (N := 1) rfl ?_); refine box_event ?hg (N := 1) ?hd (cs := #[.int .i64 a0_0, .int .i64 a0_1, .int .i64 a0_2, .slice A0_3 l0_3.length c0_3, .int .i64 a0_4, .string a0_5, .string a0_6, .int .i64 a0_7, .int .i64 a0_8, .int .i64 a0_9]) (t := 31) ?hr ?_; (case hd => rfl); (case hg => rfl); (case hr => first | (go_simp; done) | (go_simp; rfl)); intro gb456 hg w31 hbox hb; have BK456 := Aside0.mk (hbox); have GW456 := gw_ w z15_7 hg; have GE456 := gw_ w z15_7 hg; replace HB := Aside0.mk (below_step z15_7 hb); clear hb hbox hg; have hcz32 := bc10 BK456.out) | ((with_reducible refine gate_callee (f := 16) rfl ?_); refine goesL_ (some 5) rfl rfl Try.func16 z15_9 rfl #[.agg #[.int .i64 a0_0, .int .i64 a0_1, .int .i64 a0_2, .slice A0_3 l0_3.length c0_3, .int .i64 a0_4, .string a0_5, .string a0_6, .int .i64 a0_7, .int .i64 a0_8, .int .i64 a0_9]] rfl z15_6 ?_; (with_reducible refine (spec_ActOk.calls k a0_0 a0_1 a0_2 _ _ l0_3 a0_4 a0_5 a0_6 a0_7 a0_8 a0_9 false _ ?side1 ?side2 A2.out).mono ?_); (case side1 => exact z15_12); (case side2 => exact HC0_3.out); rintro e w33 ⟨rfl, hb⟩; refine ⟨_, rfl, ?_⟩; replace BK456 := bb_ BK456 z15_3 hb; replace HB := Aside0.mk (below_step z15_1 hb)))
  go_ret2
  exact ⟨z15_10, z15_1⟩
 subst c3
 rw [if_pos rfl] at H
 replace H := Option.bind_eq_some_iff.mp H
 obtain ⟨t458, A40, H⟩ := H
 (try dsimp only at H)
 have A4 := Aside0.mk A40
 clear A40
 replace H := Option.bind_eq_some_iff.mp H
 obtain ⟨t459, A50, H⟩ := H
 (try dsimp only at H)
 have A5 := Aside0.mk A50
 clear A50
 by_cases c6 : t458.size + t459.size ≤ 9223372036854775807
 rotate_left
 ·
  rw [if_neg c6] at H
  exact absurd H (by simp)
 rw [if_pos c6] at H
 have c6b0 := eq_true c6
 have c6b1 : decide (t458.size + t459.size ≤ 9223372036854775807) = true := decide_eq_true c6
 try have c6b2 : (9223372036854775807 < t458.size + t459.size) = False := eq_false (Nat.not_lt.2 c6)
 replace H := Option.bind_eq_some_iff.mp H
 obtain ⟨t460, A70, H⟩ := H
 (try dsimp only at H)
 have A7 := Aside0.mk A70
 clear A70
 by_cases c8 : (t458 ++ t459).size + t460.size ≤ 9223372036854775807
 rotate_left
 ·
  rw [if_neg c8] at H
  exact absurd H (by simp)
 rw [if_pos c8] at H
 have c8b0 := eq_true c8
 have c8b1 : decide ((t458 ++ t459).size + t460.size ≤ 9223372036854775807) = true := decide_eq_true c8
 try have c8b2 : (9223372036854775807 < (t458 ++ t459).size + t460.size) = False := eq_false (Nat.not_lt.2 c8)
 try have c8b3 := c8b2
 try simp only [ByteArray.size_append] at c8b3
 replace H := Option.bind_eq_some_iff.mp H
 obtain ⟨t461, A90, H⟩ := H
 (try dsimp only at H)
 have A9 := Aside0.mk A90
 clear A90
 by_cases c10 : ((t458 ++ t459) ++ t460).size + t461.size ≤ 9223372036854775807
 rotate_left
 ·
  rw [if_neg c10] at H
  exact absurd H (by simp)
 rw [if_pos c10] at H
 have c10b0 := eq_true c10
 have c10b1 : decide (((t458 ++ t459) ++ t460).size + t461.size ≤ 9223372036854775807) = true := decide_eq_true c10
 try have c10b2 : (9223372036854775807 < ((t458 ++ t459) ++ t460).size + t461.size) = False := eq_false (Nat.not_lt.2 c10)
 try have c10b3 := c10b2
 try simp only [ByteArray.size_append] at c10b3
 replace H := Option.bind_eq_some_iff.mp H
 obtain ⟨t462, A110, H⟩ := H
 (try dsimp only at H)
 have A11 := Aside0.mk A110
 clear A110
 by_cases c12 : (((t458 ++ t459) ++ t460) ++ t461).size + t462.size ≤ 9223372036854775807
 rotate_left
 ·
  rw [if_neg c12] at H
  exact absurd H (by simp)
 rw [if_pos c12] at H
 have c12b0 := eq_true c12
 have c12b1 : decide ((((t458 ++ t459) ++ t460) ++ t461).size + t462.size ≤ 9223372036854775807) = true := decide_eq_true c12
 try have c12b2 : (9223372036854775807 < (((t458 ++ t459) ++ t460) ++ t461).size + t462.size) = False := eq_false (Nat.not_lt.2 c12)
 try have c12b3 := c12b2
 try simp only [ByteArray.size_append] at c12b3
 replace H := Option.bind_eq_some_iff.mp H
 obtain ⟨t463, A130, H⟩ := H
 (try dsimp only at H)
 have A13 := Aside0.mk A130
 clear A130
 by_cases c14 : ((((t458 ++ t459) ++ t460) ++ t461) ++ t462).size + t463.size ≤ 9223372036854775807
 rotate_left
 ·
  rw [if_neg c14] at H
  exact absurd H (by simp)
 rw [if_pos c14] at H
 have c14b0 := eq_true c14
 have c14b1 : decide (((((t458 ++ t459) ++ t460) ++ t461) ++ t462).size + t463.size ≤ 9223372036854775807) = true := decide_eq_true c14
 try have c14b2 : (9223372036854775807 < ((((t458 ++ t459) ++ t460) ++ t461) ++ t462).size + t463.size) = False := eq_false (Nat.not_lt.2 c14)
 try have c14b3 := c14b2
 try simp only [ByteArray.size_append] at c14b3
 replace H := Option.bind_eq_some_iff.mp H
 obtain ⟨t464, A150, H⟩ := H
 (try dsimp only at H)
 have A15 := Aside0.mk A150
 clear A150
 by_cases c16 : (((((t458 ++ t459) ++ t460) ++ t461) ++ t462) ++ t463).size + t464.size ≤ 9223372036854775807
 rotate_left
 ·
  rw [if_neg c16] at H
  exact absurd H (by simp)
 rw [if_pos c16] at H
 have c16b0 := eq_true c16
 have c16b1 : decide ((((((t458 ++ t459) ++ t460) ++ t461) ++ t462) ++ t463).size + t464.size ≤ 9223372036854775807) = true := decide_eq_true c16
 try have c16b2 : (9223372036854775807 < (((((t458 ++ t459) ++ t460) ++ t461) ++ t462) ++ t463).size + t464.size) = False := eq_false (Nat.not_lt.2 c16)
 try have c16b3 := c16b2
 try simp only [ByteArray.size_append] at c16b3
 replace H := Option.bind_eq_some_iff.mp H
 obtain ⟨t465, A170, H⟩ := H
 (try dsimp only at H)
 have A17 := Aside0.mk A170
 clear A170
 by_cases c18 : ((((((t458 ++ t459) ++ t460) ++ t461) ++ t462) ++ t463) ++ t464).size + t465.size ≤ 9223372036854775807
 rotate_left
 ·
  rw [if_neg c18] at H
  exact absurd H (by simp)
 rw [if_pos c18] at H
 have c18b0 := eq_true c18
 have c18b1 : decide (((((((t458 ++ t459) ++ t460) ++ t461) ++ t462) ++ t463) ++ t464).size + t465.size ≤ 9223372036854775807) = true := decide_eq_true c18
 try have c18b2 : (9223372036854775807 < ((((((t458 ++ t459) ++ t460) ++ t461) ++ t462) ++ t463) ++ t464).size + t465.size) = False := eq_false (Nat.not_lt.2 c18)
 try have c18b3 := c18b2
 try simp only [ByteArray.size_append] at c18b3
 simp only [Option.some.injEq, Prod.mk.injEq] at H
 obtain ⟨rfl, rfl⟩ := H
 go_enter Try.func35, Try.ntmps35
 try go_wp2_with (first | ((with_reducible refine gate_dst (N := 1) rfl ?_); refine box_event ?hg (N := 1) ?hd (cs := #[.int .i64 a0_0, .int .i64 a0_1, .int .i64 a0_2, .slice A0_3 l0_3.length c0_3, .int .i64 a0_4, .string a0_5, .string a0_6, .int .i64 a0_7, .int .i64 a0_8, .int .i64 a0_9]) (t := 31) ?hr ?_; (case hd => rfl); (case hg => rfl); (case hr => first | (go_simp; done) | (go_simp; rfl)); intro gb456 hg w19 hbox hb; have BK456 := Aside0.mk (hbox); have GW456 := gw_ w z15_7 hg; have GE456 := gw_ w z15_7 hg; replace HB := Aside0.mk (below_step z15_7 hb); clear hb hbox hg; have hcz20 := bc10 BK456.out) | ((with_reducible refine gate_callee (f := 16) rfl ?_); refine goesL_ (some 5) rfl rfl Try.func16 z15_9 rfl #[.agg #[.int .i64 a0_0, .int .i64 a0_1, .int .i64 a0_2, .slice A0_3 l0_3.length c0_3, .int .i64 a0_4, .string a0_5, .string a0_6, .int .i64 a0_7, .int .i64 a0_8, .int .i64 a0_9]] rfl z15_6 ?_; (with_reducible refine (spec_ActOk.calls k a0_0 a0_1 a0_2 _ _ l0_3 a0_4 a0_5 a0_6 a0_7 a0_8 a0_9 true _ ?side1 ?side2 A2.out).mono ?_); (case side1 => exact z15_12); (case side2 => exact HC0_3.out); rintro e w21 ⟨rfl, hb⟩; refine ⟨_, rfl, ?_⟩; replace BK456 := bb_ BK456 z15_3 hb; replace HB := Aside0.mk (below_step z15_1 hb)))
 replace BK456 := Aside0.mk (blk_drew BK456.out)
 replace HB := Aside0.mk (below_drew1 HB.out)
 refine start_ (n := 33) (S := fun w' => w'.cell? ⟨gb456, 0, none⟩ = some (.int .i64 a0_0) ∧ w'.cell? ⟨gb456, 1, none⟩ = some (.int .i64 a0_1) ∧ w'.cell? ⟨gb456, 2, none⟩ = some (.int .i64 a0_2) ∧ w'.cell? ⟨gb456, 3, none⟩ = some (.slice A0_3 l0_3.length c0_3) ∧ w'.cell? ⟨gb456, 4, none⟩ = some (.int .i64 a0_4) ∧ w'.cell? ⟨gb456, 5, none⟩ = some (.string a0_5) ∧ w'.cell? ⟨gb456, 6, none⟩ = some (.string a0_6) ∧ w'.cell? ⟨gb456, 7, none⟩ = some (.int .i64 a0_7) ∧ w'.cell? ⟨gb456, 8, none⟩ = some (.int .i64 a0_8) ∧ w'.cell? ⟨gb456, 9, none⟩ = some (.int .i64 a0_9)) (ds := []) mk15_0 z15_9 rfl rfl (ln10 BK456) (fun hHeld => ?_); refine with_tabW spec_ActText.tab3 spec_ActText.bits3 (fun HT_ HW_ => ?_)
 generalize w21.drew = w22 at BK456 HB hHeld ⊢
 refine p_ (i := 0) (N := some 7) mk15_1 ?_ (hv := z15_8) (ha := z15_0)
 refine p_ (i := 3) (N := some 10) mk15_2 ?_ (hv := z15_8) (ha := z15_0)
 refine p_ (i := 7) (N := some 14) mk15_3 ?_ (hv := z15_8) (ha := z15_0)
 refine p_ (i := 11) (N := some 18) mk15_4 ?_ (hv := z15_8) (ha := z15_0)
 refine p_ (i := 15) (N := some 22) mk15_5 ?_ (hv := z15_8) (ha := z15_0)
 refine p_ (i := 19) (N := some 26) mk15_6 ?_ (hv := z15_8) (ha := z15_0)
 refine p_ (i := 23) (N := some 30) mk15_7 ?_ (hv := z15_8) (ha := z15_0)
 refine p_ (i := 27) (N := some 34) mk15_8 ?_ (hv := z15_8) (ha := z15_0)
 refine t_ (i := 1) (N := some 8) mk15_9 hHeld ?_ (ha := z15_0)
 refine t_ (i := 4) (N := some 11) mk15_10 hHeld ?_ (ha := z15_0)
 refine t_ (i := 8) (N := some 15) mk15_11 hHeld ?_ (ha := z15_0)
 refine t_ (i := 12) (N := some 19) mk15_12 hHeld ?_ (ha := z15_0)
 refine t_ (i := 16) (N := some 23) mk15_13 hHeld ?_ (ha := z15_0)
 refine t_ (i := 20) (N := some 27) mk15_14 hHeld ?_ (ha := z15_0)
 refine t_ (i := 24) (N := some 31) mk15_15 hHeld ?_ (ha := z15_0)
 refine t_ (i := 28) (N := some 35) mk15_16 hHeld ?_ (ha := z15_0)
 refine o_ (i := 2) (N := some 9) mk15_17 (fun K hK => ?_)
 refine goes_ Try.func60 z15_9 rfl #[.agg #[.int .i64 a0_0, .int .i64 a0_1]] (by rfl) rfl rfl z15_6 ?_
 with_reducible refine (spec_l05Dot.calls k a0_0 a0_1 t458 _ A4.out).mono ?_
 rintro e w23 ⟨rfl, hb⟩
 refine ⟨_, rfl, ?_⟩
 replace BK456 := bb_ BK456 z15_3 hb
 replace HB := Aside0.mk (below_step z15_1 hb)
 (try clear hb)
 (try clear hb2)
 (try clear hk)
 (try clear hi)
 refine hK.out _ _ (ln10 BK456) (fun hHeld => ?_)
 clear hK K
 refine n_ ?_
 refine o_ (i := 5) (N := some 12) mk15_18 (fun K hK => ?_)
 refine goes_ Try.func61 z15_9 rfl #[.int .i64 a0_2] (by rfl) rfl rfl z15_6 ?_
 with_reducible refine (spec_l01Var.calls k a0_2 t459 _ A5.out).mono ?_
 rintro e w24 ⟨rfl, hb⟩
 refine ⟨_, rfl, ?_⟩
 replace BK456 := bb_ BK456 z15_3 hb
 replace HB := Aside0.mk (below_step z15_1 hb)
 (try clear hb)
 (try clear hb2)
 (try clear hk)
 (try clear hi)
 refine hK.out _ _ (ln10 BK456) (fun hHeld => ?_)
 clear hK K
 refine n_ ?_
 refine p_ (i := 6) (N := some 13) mk15_19 ?_ (hv := z15_8) (ha := z15_0)
 refine o_ (i := 9) (N := some 16) mk15_20 (fun K hK => ?_)
 refine goes_ Try.func62 z15_9 rfl #[.slice A0_3 l0_3.length c0_3] (by rfl) rfl rfl z15_6 ?_
 with_reducible refine (spec_l05Know.calls k _ _ l0_3 t460 _ ?side1 ?side2 A7.out).mono ?_
 (case side1 => exact z15_12)
 (case side2 => exact HC0_3.out)
 rintro e w25 ⟨rfl, hb⟩
 refine ⟨_, rfl, ?_⟩
 replace BK456 := bb_ BK456 z15_3 hb
 replace HB := Aside0.mk (below_step z15_1 hb)
 (try clear hb)
 (try clear hb2)
 (try clear hk)
 (try clear hi)
 refine hK.out _ _ (ln10 BK456) (fun hHeld => ?_)
 clear hK K
 refine n_ ?_
 refine p_ (i := 10) (N := some 17) mk15_21 ?_ (hv := z15_8) (ha := z15_0)
 refine o_ (i := 13) (N := some 20) mk15_22 (fun K hK => ?_)
 refine goes_ Try.func61 z15_9 rfl #[.int .i64 a0_4] (by rfl) rfl rfl z15_6 ?_
 with_reducible refine (spec_l01Var.calls k a0_4 t461 _ A9.out).mono ?_
 rintro e w26 ⟨rfl, hb⟩
 refine ⟨_, rfl, ?_⟩
 replace BK456 := bb_ BK456 z15_3 hb
 replace HB := Aside0.mk (below_step z15_1 hb)
 (try clear hb)
 (try clear hb2)
 (try clear hk)
 (try clear hi)
 refine hK.out _ _ (ln10 BK456) (fun hHeld => ?_)
 clear hK K
 refine n_ ?_
 refine p_ (i := 14) (N := some 21) mk15_23 ?_ (hv := z15_8) (ha := z15_0)
 refine o_ (i := 17) (N := some 24) mk15_24 (fun K hK => ?_)
 refine goes_ Try.func63 z15_9 rfl #[.string a0_5] (by rfl) rfl rfl z15_6 ?_
 with_reducible refine (spec_l05Short.calls k a0_5 t462 _ A11.out).mono ?_
 rintro e w27 ⟨rfl, hb⟩
 refine ⟨_, rfl, ?_⟩
 replace BK456 := bb_ BK456 z15_3 hb
 replace HB := Aside0.mk (below_step z15_1 hb)
 (try clear hb)
 (try clear hb2)
 (try clear hk)
 (try clear hi)
 refine hK.out _ _ (ln10 BK456) (fun hHeld => ?_)
 clear hK K
 refine n_ ?_
 refine p_ (i := 18) (N := some 25) mk15_25 ?_ (hv := z15_8) (ha := z15_0)
 refine o_ (i := 21) (N := some 28) mk15_26 (fun K hK => ?_)
 refine goes_ Try.func63 z15_9 rfl #[.string a0_6] (by rfl) rfl rfl z15_6 ?_
 with_reducible refine (spec_l05Short.calls k a0_6 t463 _ A13.out).mono ?_
 rintro e w28 ⟨rfl, hb⟩
 refine ⟨_, rfl, ?_⟩
 replace BK456 := bb_ BK456 z15_3 hb
 replace HB := Aside0.mk (below_step z15_1 hb)
 (try clear hb)
 (try clear hb2)
 (try clear hk)
 (try clear hi)
 refine hK.out _ _ (ln10 BK456) (fun hHeld => ?_)
 clear hK K
 refine n_ ?_
 refine p_ (i := 22) (N := some 29) mk15_27 ?_ (hv := z15_8) (ha := z15_0)
 refine o_ (i := 25) (N := some 32) mk15_28 (fun K hK => ?_)
 refine goes_ Try.func61 z15_9 rfl #[.int .i64 a0_7] (by rfl) rfl rfl z15_6 ?_
 with_reducible refine (spec_l01Var.calls k a0_7 t464 _ A15.out).mono ?_
 rintro e w29 ⟨rfl, hb⟩
 refine ⟨_, rfl, ?_⟩
 replace BK456 := bb_ BK456 z15_3 hb
 replace HB := Aside0.mk (below_step z15_1 hb)
 (try clear hb)
 (try clear hb2)
 (try clear hk)
 (try clear hi)
 refine hK.out _ _ (ln10 BK456) (fun hHeld => ?_)
 clear hK K
 refine n_ ?_
 refine p_ (i := 26) (N := some 33) mk15_29 ?_ (hv := z15_8) (ha := z15_0)
 refine o_ (i := 29) (N := some 36) mk15_30 (fun K hK => ?_)
 refine goes_ Try.func60 z15_9 rfl #[.agg #[.int .i64 a0_8, .int .i64 a0_9]] (by rfl) rfl rfl z15_6 ?_
 with_reducible refine (spec_l05Dot.calls k a0_8 a0_9 t465 _ A17.out).mono ?_
 rintro e w30 ⟨rfl, hb⟩
 refine ⟨_, rfl, ?_⟩
 replace BK456 := bb_ BK456 z15_3 hb
 replace HB := Aside0.mk (below_step z15_1 hb)
 (try clear hb)
 (try clear hb2)
 (try clear hk)
 (try clear hi)
 refine hK.out _ _ (ln10 BK456) (fun hHeld => ?_)
 clear hK K
 refine n_ ?_
 refine p_ (i := 30) (N := some 37) mk15_31 ?_ (hv := z15_8) (ha := z15_0)
 refine p_ (i := 31) (N := some 2) mk15_32 ?_ (hv := z15_8) (ha := z15_0)
 refine p_ (i := 32) (N := some 3) mk15_33 ?_ (hv := z15_8) (ha := z15_0)
 refine done_ (done_of HT_.out z15_9) ?_
 try go_wp2
 go_ret2
 exact ⟨z15_10, z15_1⟩
mutual
def spec_l01Text.j0 : Nat → Int → List Int → Int → Int → Option (ByteArray × Int × Int)
  | 0, _, _, _, _ => none
  | k + 1, x1, x1000, x1001, x1002 => spec_l01Text.l0 k x1 (([] : List Int)) 0 x1000 x1001 x1002
def spec_l01Text.l0 : Nat → Int → List Int → Int → List Int → Int → Int → Option (ByteArray × Int × Int)
  | 0, _, _, _, _, _, _ => none
  | k + 1, x1, x5, x6, x1000, x1001, x1002 => if x6 < x1 then ((spec_l01Byte.f x1000 x1001 x1002).bind fun bt469 => (if x5.length < 140737488355328 then (spec_l01Text.l0 k x1 (x5 ++ [(bt469.1) % 256]) (wrap64 (x6 + 1)) x1000 bt469.2.1 bt469.2.2) else (none))) else (some (strOfNums x5, x1001, x1002))
end


def spec_l01Text.f (k : Nat) (s0_0 : List Int) (s0_1 : Int) (s0_2 : Int) (a1 : Int) : Option (ByteArray × Int × Int) := if a1 > 5000 then (spec_l01Text.j0 k 5000 s0_0 s0_1 s0_2) else (spec_l01Text.j0 k a1 s0_0 s0_1 s0_2)
set_option maxHeartbeats 8000000 in
set_option maxRecDepth 100000 in
theorem spec_l01Text.calls (k : Nat) (g : Nat) (s0_0 : List Int) (s0_1 : Int) (s0_2 : Int) (a1 : Int) (r1 : ByteArray) (r2 : Int) (r3 : Int) (w0 w : World) (hI : IsS74 w0 w g s0_0 s0_1 s0_2) (hB : Below w0.heap.size w0 w) (h : spec_l01Text.f k s0_0 s0_1 s0_2 a1 = some (r1, r2, r3)) :
  Calls Try.prog 64 #[.pointer (some ⟨g, 0, none⟩), .int .i64 a1] w fun e w' => e = .returned (.string r1) ∧ IsS74 w0 w' g s0_0 r2 r3 ∧ Below w0.heap.size w0 w' ∧ KeepBut w w' g none := by
 have HI0 := Aside0.mk hI
 have HK := Aside0.mk (KeepBut.refl w g none)
 have HL := Aside0.mk hB.size
 clear hI
 have HW0 := Aside0.mk hB.size
 have HB := Aside0.mk hB
 clear hB
 have H := h
 unfold spec_l01Text.f at H
 clear h
 have HC3 := Aside0.mk H
 clear H
 go_enter Try.func64, Try.ntmps64
 go_upto_if 8 with (fail)
 go_cut [1] (fun v1 wc => ∃ (kq : Nat) (x1_2 : Int), v1 = .int .i64 x1_2 ∧ Aside0 (spec_l01Text.j0 kq x1_2 s0_0 s0_1 s0_2 = some (r1, r2, r3)) ∧ Aside0 (kq ≤ k) ∧ Aside0 (IsS74 w0 wc g s0_0 s0_1 s0_2) ∧ Aside0 (KeepBut w wc g none) ∧ Aside0 (Below w0.heap.size w0 wc))
 case first =>
  have H := HC3.out
  clear HC3
  by_cases c4 : a1 > 5000
  ·
   rw [if_pos c4] at H
   have c4b0 : decide (5000 < a1) = true := decide_eq_true c4
   clear c4
   (first | rw [c4b0] | (simp only [i64_w, i32_w]; rw [c4b0]) | skip)
   have H' := Aside0.mk H
   clear H
   go_wp2
   go_meet
   case rel => exact ⟨_, (5000), z15_11, H', ⟨by first | omega | exact Nat.le_refl _⟩, ⟨z15_5⟩, ⟨z15_2⟩, ⟨z15_4⟩⟩
  rw [if_neg c4] at H
  have c4b0 : decide (5000 < a1) = false := decide_eq_false c4
  clear c4
  (first | rw [c4b0] | (simp only [i64_w, i32_w]; rw [c4b0]) | skip)
  have H' := Aside0.mk H
  clear H
  go_wp2
  go_meet
  case rel => exact ⟨_, (a1), z15_11, H', ⟨by first | omega | exact Nat.le_refl _⟩, ⟨z15_5⟩, ⟨z15_2⟩, ⟨z15_4⟩⟩
 case rest =>
  clear HC3
  try clear p2
  try clear c4
  try clear c4b0
  obtain ⟨kq, x1_2, rfl, HA, HJ2, HI0, HK, HB⟩ := hcut
  cases kq with
  | zero => exact absurd HA.out (by simp [spec_l01Text.j0])
  | succ kj2 =>
   have H := HA.out
   clear HA
   simp only [spec_l01Text.j0] at H
   obtain ⟨y466, hy466⟩ : ∃ y_ : List Int, y_ = (([] : List Int)) := ⟨_, rfl⟩
   replace H : (spec_l01Text.l0 kj2 x1_2 y466 0 s0_0 s0_1 s0_2) = some (r1, r2, r3) := by first | (rw [hy466]; with_reducible exact H) | (have H2_ := (Option.bind_some _ _).symm.trans H; rw [hy466]; with_reducible exact H2_) | (have H2_ := (Option.bind_some _ _).symm.trans H; with_reducible exact H2_) | with_reducible exact H | (rw [hy466]; exact H) | exact H
   have Ny466 := Aside0.mk hy466
   clear hy466
   have H' := Aside0.mk H
   clear H
   go_wp2_with (first | ((with_reducible refine gate_dst (N := 9) rfl ?_); refine Kd.R_lit (Kd.int .u8) _ 5 ?hg (N := 9) ?hd (xs := ([] : List Int)) (inner := []) (ok := fun _ => True) (okp := fun _ => True) ?hr ?hp (fun _ hk => hk) trivial (Below.refl _ _) (Nat.le_refl _) (by simp) ?_; (case hd => rfl); (case hg => rfl); (case hr => first | (go_simp; done) | (go_simp; rfl)); (case hp => exact (Reps.none _ _)); intro v467 w5 ho6 hb hg_ hnew_; clear hg_ hnew_; (first | rw [← Ny466.out] at ho6 | (simp only [Int.reduceToNat] at ho6; rw [← Ny466.out] at ho6)); have HO468 := Aside0.mk (Kd.R_lower ho6 (keep_size (w := w) (g := g) (row := none) z15_2)); replace HK := Aside0.mk (KeepBut.trans z15_2 (KeepBut.of_below hb g none) (.inl rfl)); replace HB := Aside0.mk (below_step z15_4 hb); replace HI0 := Aside0.mk (IsS74.below z15_5 hb); clear hb ho6))
   go_loopg [5, 6] kj2 (fun kq v5 v6 w' => ∃ (x5_2 : List Int) (x6_2 : Int) (x1001_2 : Int) (x1002_2 : Int), v6 = .int .i64 x6_2 ∧ Aside0 (spec_l01Text.l0 kq x1_2 x5_2 x6_2 s0_0 x1001_2 x1002_2 = some (r1, r2, r3)) ∧ Aside0 (kq ≤ kj2) ∧ Aside0 (Kd.R (Kd.int .u8) 5 w' w.heap.size (fun _ => True) v5 x5_2) ∧ Aside0 (IsS74 w0 w' g s0_0 x1001_2 x1002_2) ∧ Aside0 (KeepBut w w' g none) ∧ Aside0 (Below w0.heap.size w0 w'))
   case atStart => exact ⟨(y466), (0), (s0_1), (s0_2), z15_11, H', ⟨Nat.le_refl _⟩, ⟨by (with_reducible repeat (first | apply Kd.R_alloc | apply Kd.R_drewN | apply Kd.R_drew)); exact HO468.out⟩, ⟨z15_5⟩, ⟨z15_2⟩, ⟨z15_4⟩⟩
   case round =>
    clear H'
    try clear p2
    try clear c4
    try clear c4b0
    try clear c6
    try clear p2
    obtain ⟨x5_2, x6_2, x1001_2, x1002_2, rfl, HA, HK2, HO_5, HI0, HK, HB⟩ := hrel
    cases gk with
    | zero => exact absurd HA.out (by simp [spec_l01Text.l0])
    | succ k2 =>
     have H := HA.out
     clear HA
     simp only [spec_l01Text.l0] at H
     by_cases c7 : x6_2 < x1_2
     rotate_left
     ·
      rw [if_neg c7] at H
      have c7b0 : decide (x6_2 < x1_2) = false := decide_eq_false c7
      clear c7
      simp only [Option.some.injEq, Prod.mk.injEq] at H
      obtain ⟨rfl, rfl, rfl⟩ := H
      have hcv12 := own_string (P := Try.prog) Try.underlying25 Try.underlying5 Try.underlying9 (Kd.own_of_R HO_5.out)
      go_wp2
      go_ret
      exact ⟨z15_10, z15_5, z15_4, z15_2⟩
     rw [if_pos c7] at H
     have c7b0 : decide (x6_2 < x1_2) = true := decide_eq_true c7
     clear c7
     replace H := Option.bind_eq_some_iff.mp H
     obtain ⟨⟨t469, t470, t471⟩, A80, H⟩ := H
     (try dsimp only at H)
     have A8 := Aside0.mk A80
     clear A80
     by_cases c9 : x5_2.length < 140737488355328
     rotate_left
     ·
      rw [if_neg c9] at H
      exact absurd H (by simp)
     rw [if_pos c9] at H
     have LMc9 := Aside0.mk c9
     clear c9
     obtain ⟨y472, hy472⟩ : ∃ y_ : List Int, y_ = (x5_2 ++ [(t469) % 256]) := ⟨_, rfl⟩
     replace H : (spec_l01Text.l0 k2 x1_2 y472 (wrap64 (x6_2 + 1)) s0_0 t470 t471) = some (r1, r2, r3) := by first | (rw [hy472]; with_reducible exact H) | (have H2_ := (Option.bind_some _ _).symm.trans H; rw [hy472]; with_reducible exact H2_) | (have H2_ := (Option.bind_some _ _).symm.trans H; with_reducible exact H2_) | with_reducible exact H | (rw [hy472]; exact H) | exact H
     have Ny472 := Aside0.mk hy472
     clear hy472
     have H' := Aside0.mk H
     clear H
     go_wp2_with (first | ((with_reducible refine gate_callee (f := 59) rfl ?_); refine goesL_ (some 17) rfl rfl Try.func59 z15_9 rfl #[.pointer (some ⟨g, 0, none⟩)] rfl z15_6 ?_; (with_reducible refine (spec_l01Byte.calls g s0_0 x1001_2 x1002_2 t469 t470 t471 w0 _ ?side1 ?side2 A8.out).mono ?_); (case side1 => repeat (first | (with_reducible first | exact HI0.out | apply IsS74.alloc | apply IsS74.drewN | apply IsS74.drew | apply IsS74.set_1 | apply IsS74.set_2) | exact HI0.out)); (case side2 => repeat (first | (with_reducible first | exact HB.out | apply below_alloc | apply pw_below_drewN | apply below_drew1 | refine below_set ?_ (IsS74.ge HI0.out)) | exact HB.out)); rintro e w10 ⟨rfl, hi, hb, hk⟩; refine ⟨_, rfl, ?_⟩; replace HO_5 := Aside0.mk (Kd.R_mono (Kd.R_keep (IsS74.apart (show IsS74 w0 _ g s0_0 x1001_2 x1002_2 from by repeat (first | (with_reducible first | exact HI0.out | apply IsS74.alloc | apply IsS74.drewN | apply IsS74.drew | apply IsS74.set_1 | apply IsS74.set_2) | exact HI0.out)) (by (with_reducible repeat (first | apply Kd.R_alloc | apply Kd.R_drewN | apply Kd.R_drew)); exact HO_5.out) (by decide)) hk (fun _ h => h.2)) (fun _ h => h.1)); replace HK := Aside0.mk (KeepBut.trans z15_2 hk (.inl rfl)); replace HB := Aside0.mk (hb); replace HI0 := Aside0.mk (hi)) | ((with_reducible refine gate_builtin (b := .append) (xs := #[.tmp 15, .tmp 19]) rfl ?_); at_builtin; refine Kd.R_append (Kd.int .u8) w.heap.size rfl (.tmp 15) (.tmp 19) 25 5 (.int .u8 0) 1 rfl Try.underlying25 info5 rfl (by decide) (by omega) u5 x5_2 ((t469) % 256) [.int .u8 ((t469) % 256)] (fun _ => True) (fun _ => False) rfl rfl ?aP (fun _ hk => hk.elim) ?aF ?aO (Below.refl _ _) ?aS ?aL ?_; (case aP => exact rfl); (case aF => exact (fun _ _ => trivial)); (case aO => exact (by (with_reducible repeat (first | apply Kd.R_alloc | apply Kd.R_drewN | apply Kd.R_drew)); exact HO_5.out)); (case aS => exact (keep_size (w := w) (g := g) (row := none) z15_2)); (case aL => have := LMc9.out; omega); intro v473 w11 ho hb hg hat; rw [← Ny472.out] at ho; replace HB := Aside0.mk (below_weaken z15_4 HL.out hb); replace HI0 := Aside0.mk (IsS74.grown z15_5 hg (IsS74.own_ne HI0.out HO_5.out (by decide))); replace HK := Aside0.mk (KeepBut.trans z15_2 (KeepBut.of_grown hg g) (Kd.R_base2 HO_5.out)); have HO474 := Aside0.mk (ho); clear HO_5; clear ho hb hg hat))
     go_roundg k2
     case measure => have := HJ2.out; have := HK2.out; omega
     case rel => exact ⟨(y472), (wrap64 (x6_2 + 1)), (t470), (t471), z15_11, H', ⟨by have := HJ2.out; have := HK2.out; omega⟩, ⟨by (with_reducible repeat (first | apply Kd.R_alloc | apply Kd.R_drewN | apply Kd.R_drew)); exact HO474.out⟩, ⟨z15_5⟩, ⟨z15_2⟩, ⟨z15_4⟩⟩
end Go.Proofs.Ythajpckfodhhpaa.QRA
