/- What the functions behind RA compute, and that the program's calls come to just that. Written by a program of this session on the base of the kit's print. No condition. -/
import Derived.Test.YthajpckfodhhpaaVFnActsShort
import Derived.Test.YthajpckfodhhpaaVFnActsQRAx0
import Derived.Test.YthajpckfodhhpaaVFnActsQRAx8
import Derived.Test.YthajpckfodhhpaaVFnActsQRAx9
namespace Go.Proofs.Ythajpckfodhhpaa.QRA
open Go.RowKit Go.Proofs.Ythajpckfodhhpaa.Short Go.Proofs.YthajpckfodhhpaaW.PrintWords Go.Proofs.YthajpckfodhhpaaW.PrintLast Go.Proofs.YthajpckfodhhpaaW.PrintMore
attribute [local go_sem] max2_int min2_int max_two min_two max_three min_three max_four min_four   -- for this text's walks alone
set_option linter.unusedVariables false
set_option linter.unusedSimpArgs false
theorem z10_13 {P : Prop} (h : P := by (with_reducible repeat (first | apply Kd.R_alloc | apply Kd.R_drewN | apply Kd.R_drew)); exact Kd.R_mono HO339.out (fun _ hk => by first | exact hk.2 | trivial)) : P := h
theorem z10_12 {P : Prop} (h : P := by first | rfl | (simp only [List.map_toArray, List.map_cons, List.map_nil]; first | done | rfl)) : P := h
theorem z10_11 {P : Prop} (h : P := by (with_reducible repeat (first | apply Kd.R_alloc | apply Kd.R_drewN | apply Kd.R_drew)); exact (Q_HO344 h0_)) : P := h
theorem z10_10 {P : Prop} (h : P := by (with_reducible repeat (first | apply Kd.R_alloc | apply Kd.R_drewN | apply Kd.R_drew)); exact HO348.out) : P := h
theorem z10_9 {P : Prop} (h : P := by (with_reducible repeat (first | apply Kd.R_alloc | apply Kd.R_drewN | apply Kd.R_drew)); exact HO344.out) : P := h
theorem z10_8 {P : Prop} (h : P := by (with_reducible repeat (first | apply Kd.R_alloc | apply Kd.R_drewN | apply Kd.R_drew)); exact (Q_HO348 h0_)) : P := h
theorem z10_7 {P : Prop} (h : P := by intro w'; go_simp; with_reducible rfl) : P := h
theorem z10_6 {P : Prop} (h : P := by repeat (first | (with_reducible first | exact HB.out | apply below_alloc | apply pw_below_drewN | apply below_drew1) | exact HB.out)) : P := h
theorem z10_5 {P : Prop} (h : P := by (with_reducible repeat (first | apply Kd.R_alloc | apply Kd.R_drewN | apply Kd.R_drew)); exact (Q_HO352 h0_)) : P := h
theorem z10_4 {P : Prop} (h : P := by kernel_rfl) : P := h
theorem z10_3 {P : Prop} (h : P := by (with_reducible repeat (first | apply Kd.R_alloc | apply Kd.R_drewN | apply Kd.R_drew)); exact HO339.out) : P := h
theorem z10_2 {P : Prop} (h : P := by (with_reducible repeat (first | refine blk_drewN ?_ _ | refine blk_drew ?_ | refine blk_alloc ?_ _)); exact BK335.out) : P := h
theorem z10_1 {P : Prop} (h : P := by simp only [Act.put, List.setIfInBounds_toArray, List.set_cons_zero, List.set_cons_succ, i64_w, i32_w]; rfl) : P := h
theorem z10_0 {P : Prop} (h : P := by repeat (first | (with_reducible first | exact HB.out | apply below_alloc | apply pw_below_drewN | apply below_drew1 | refine below_set ?_ GE335.out) | exact HB.out)) : P := h
abbrev mk10_0 : Array Bool := mb 15 0
abbrev mk10_1 : Array Bool := mb 15 1
abbrev mk10_2 : Array Bool := mb 15 3
abbrev mk10_3 : Array Bool := mb 15 11
abbrev mk10_4 : Array Bool := mb 15 27
abbrev mk10_5 : Array Bool := mb 15 91
abbrev mk10_6 : Array Bool := mb 15 1115
abbrev mk10_7 : Array Bool := mb 15 1119
abbrev mk10_8 : Array Bool := mb 15 1151
abbrev mk10_9 : Array Bool := mb 15 1279
abbrev mk10_10 : Array Bool := mb 15 3327
abbrev mk10_11 : Array Bool := mb 15 3583
abbrev mk10_12 : Array Bool := mb 15 4095
abbrev mk10_13 : Array Bool := mb 15 8191
abbrev mk10_14 : Array Bool := mb 15 16383
abbrev mk10_15 : Array Bool := mb 15 32767
abbrev mk10_16 : Array Bool := mb 26 0
abbrev mk10_17 : Array Bool := mb 26 1
abbrev mk10_18 : Array Bool := mb 26 3
abbrev mk10_19 : Array Bool := mb 26 67
abbrev mk10_20 : Array Bool := mb 26 323
abbrev mk10_21 : Array Bool := mb 26 8515
abbrev mk10_22 : Array Bool := mb 26 41283
abbrev mk10_23 : Array Bool := mb 26 106819
abbrev mk10_24 : Array Bool := mb 26 368963
abbrev mk10_25 : Array Bool := mb 26 893251
theorem z10_14 {P : Prop} (h : P := by repeat (first | exact (Kd.C_below HR0_3.out HB.out) | (with_reducible refine Kd.C_alloc ?_ _) | (with_reducible refine Kd.C_drewN ?_ _) | (with_reducible refine Kd.C_drew ?_))) : P := h
def impl_ActText.f (k : Nat) (a0_0 : Int) (a0_1 : Int) (a0_2 : Int) (l0_3 : List Int) (a0_4 : Int) (a0_5 : ByteArray) (a0_6 : ByteArray) (a0_7 : Int) (a0_8 : Int) (a0_9 : Int) : Option (ByteArray × Bool) := (impl_ActOk.f k a0_0 a0_1 a0_2 l0_3 a0_4 a0_5 a0_6 a0_7 a0_8 a0_9).bind fun t336 => (if t336 = true then ((impl_varTexts.f k (([a0_0, a0_1, a0_2] : List Int))).bind fun t340 => ((impl_varTexts.f k l0_3).bind fun t341 => (if t340.size + t341.size ≤ 9223372036854775807 then ((impl_varTexts.f k (([a0_4] : List Int))).bind fun t345 => (if (t340 ++ t341).size + t345.size ≤ 9223372036854775807 then ((impl_shortTexts.f k (([a0_5, a0_6] : List ByteArray))).bind fun t349 => (if ((t340 ++ t341) ++ t345).size + t349.size ≤ 9223372036854775807 then ((impl_varTexts.f k (([a0_7, a0_8, a0_9] : List Int))).bind fun t353 => (if (((t340 ++ t341) ++ t345) ++ t349).size + t353.size ≤ 9223372036854775807 then (some ((((t340 ++ t341) ++ t345) ++ t349) ++ t353, true)) else (none))) else (none))) else (none))) else (none)))) else (some ((⟨#[]⟩ : ByteArray), false)))
def impl_ActText.T3 : Bool × List (List Nat × List Nat) := (true, [([], []), ([0], [0]), ([1], [1]), ([], []), ([3], [3]), ([4], [4]), ([], []), ([6], [6]), ([2, 5, 7], [2, 5, 7]), ([8], [8]), ([], []), ([10], [10]), ([11, 9], [11]), ([9, 12], [9, 12]), ([13, 12, 0, 1, 2, 3, 4, 5, 6, 7, 8, 9, 10, 11, 12, 13], [13])])
def impl_ActText.B3 : List Nat := [0, 1, 3, 0, 8, 24, 0, 64, 255, 511, 0, 1024, 4095, 8191, 16383]
theorem impl_ActText.tab3 : rtab .any (opsOf Try.f9 3) = impl_ActText.T3 := by kernel_rfl
theorem impl_ActText.bits3 : waitsOk impl_ActText.T3.2 impl_ActText.B3 = true := by kernel_rfl
def impl_ActText.T4 : Bool × List (List Nat × List Nat) := (true, [([], []), ([], []), ([1], [1]), ([2], [2]), ([3], [3]), ([0, 4], [0, 4]), ([], []), ([6], [6]), ([], []), ([8], [8]), ([7, 9], [7, 9]), ([10, 4], [10]), ([5, 11], [5, 11]), ([], []), ([13], [13]), ([], []), ([15], [15]), ([16], [16]), ([], []), ([18], [18]), ([19], [19]), ([14, 17, 20], [14, 17, 20]), ([21, 11], [21]), ([12, 22], [12, 22]), ([23, 22, 0, 1, 2, 3, 4, 5, 6, 7, 8, 9, 10, 11, 12, 13, 14, 15, 16, 17, 18, 19, 20, 21, 22, 23], [23]), ([24, 0, 1, 2, 3, 4, 5, 6, 7, 8, 9, 10, 11, 12, 13, 14, 15, 16, 17, 18, 19, 20, 21, 22, 23, 24], [])])
def impl_ActText.B4 : List Nat := [0, 0, 2, 6, 14, 31, 0, 64, 0, 256, 960, 2014, 4095, 0, 8192, 0, 32768, 98304, 0, 262144, 786432, 2088960, 4190174, 8388607, 16777215, 33554431]
theorem impl_ActText.tab4 : rtab .any (opsOf Try.f9 4) = impl_ActText.T4 := by kernel_rfl
theorem impl_ActText.bits4 : waitsOk impl_ActText.T4.2 impl_ActText.B4 = true := by kernel_rfl
set_option maxHeartbeats 8000000 in
set_option maxRecDepth 100000 in
theorem impl_ActText.calls (k : Nat) (a0_0 : Int) (a0_1 : Int) (a0_2 : Int) (A0_3 : Option Addr) (c0_3 : Nat) (l0_3 : List Int) (a0_4 : Int) (a0_5 : ByteArray) (a0_6 : ByteArray) (a0_7 : Int) (a0_8 : Int) (a0_9 : Int) (r1 : ByteArray) (r2 : Bool) (w : World) (hr0_3 : Kd.C (Kd.int .i64) w A0_3 l0_3.length l0_3) (hc0_3 : l0_3.length ≤ c0_3) (h : impl_ActText.f k a0_0 a0_1 a0_2 l0_3 a0_4 a0_5 a0_6 a0_7 a0_8 a0_9 = some (r1, r2)) :
  Calls Try.prog 9 #[.agg #[.int .i64 a0_0, .int .i64 a0_1, .int .i64 a0_2, .slice A0_3 l0_3.length c0_3, .int .i64 a0_4, .string a0_5, .string a0_6, .int .i64 a0_7, .int .i64 a0_8, .int .i64 a0_9]] w fun e w' => e = .returned (.tuple #[.string r1, .bool r2]) ∧ Below w.heap.size w w' := by
 have hu31 := Try.underlying31
 have HR0_3 := Aside0.mk hr0_3
 have HC0_3 := Aside0.mk hc0_3
 clear hr0_3 hc0_3
 have HB := Aside0.mk (Below.refl w.heap.size w)
 have H := h
 unfold impl_ActText.f at H
 clear h
 replace H := Option.bind_eq_some_iff.mp H
 obtain ⟨t336, A20, H⟩ := H
 (try dsimp only at H)
 have A2 := Aside0.mk A20
 clear A20
 by_cases c3 : t336 = true
 rotate_left
 ·
  replace c3 := Bool.eq_false_iff.mpr c3
  subst c3
  rw [if_neg (show ¬ (false = true) by decide)] at H
  simp only [Option.some.injEq, Prod.mk.injEq] at H
  obtain ⟨rfl, rfl⟩ := H
  go_enter Try.func9, Try.ntmps9
  go_wp2_with (first | ((with_reducible refine gate_dst (N := 1) rfl ?_); refine box_event ?hg (N := 1) ?hd (cs := #[.int .i64 a0_0, .int .i64 a0_1, .int .i64 a0_2, .slice A0_3 l0_3.length c0_3, .int .i64 a0_4, .string a0_5, .string a0_6, .int .i64 a0_7, .int .i64 a0_8, .int .i64 a0_9]) (t := 31) ?hr ?_; (case hd => rfl); (case hg => rfl); (case hr => first | (go_simp; done) | (go_simp; rfl)); intro gb335 hg w36 hbox hb; have BK335 := Aside0.mk (hbox); have GW335 := gw_ w z10_6 hg; have GE335 := gw_ w z10_6 hg; replace HB := Aside0.mk (below_step z10_6 hb); clear hb hbox hg; have hcz37 := bc10 BK335.out) | ((with_reducible refine gate_callee (f := 17) rfl ?_); refine goesL_ (some 6) rfl rfl Try.func17 z10_4 rfl #[.agg #[.int .i64 a0_0, .int .i64 a0_1, .int .i64 a0_2, .slice A0_3 l0_3.length c0_3, .int .i64 a0_4, .string a0_5, .string a0_6, .int .i64 a0_7, .int .i64 a0_8, .int .i64 a0_9]] rfl z10_12 ?_; (with_reducible refine (impl_ActOk.calls k a0_0 a0_1 a0_2 _ _ l0_3 a0_4 a0_5 a0_6 a0_7 a0_8 a0_9 false _ ?side1 ?side2 A2.out).mono ?_); (case side1 => exact z10_14); (case side2 => exact HC0_3.out); rintro e w38 ⟨rfl, hb⟩; refine ⟨_, rfl, ?_⟩; replace BK335 := bb_ BK335 z10_2 hb; replace HB := Aside0.mk (below_step z10_0 hb)))
  go_ret2
  exact ⟨by first | rfl | (simp [errW_none, errW_some] <;> rfl) | (simp [*, errW_none, errW_some] <;> rfl), z10_0⟩
 subst c3
 rw [if_pos rfl] at H
 obtain ⟨y337, hy337⟩ : ∃ y_ : List Int, y_ = (([a0_0, a0_1, a0_2] : List Int)) := ⟨_, rfl⟩
 replace H : ((impl_varTexts.f k y337).bind fun t340 => ((impl_varTexts.f k l0_3).bind fun t341 => (if t340.size + t341.size ≤ 9223372036854775807 then ((impl_varTexts.f k (([a0_4] : List Int))).bind fun t345 => (if (t340 ++ t341).size + t345.size ≤ 9223372036854775807 then ((impl_shortTexts.f k (([a0_5, a0_6] : List ByteArray))).bind fun t349 => (if ((t340 ++ t341) ++ t345).size + t349.size ≤ 9223372036854775807 then ((impl_varTexts.f k (([a0_7, a0_8, a0_9] : List Int))).bind fun t353 => (if (((t340 ++ t341) ++ t345) ++ t349).size + t353.size ≤ 9223372036854775807 then (some ((((t340 ++ t341) ++ t345) ++ t349) ++ t353, true)) else (none))) else (none))) else (none))) else (none)))) = some (r1, r2) := by first | (rw [hy337]; with_reducible exact H) | (have H2_ := (Option.bind_some _ _).symm.trans H; rw [hy337]; with_reducible exact H2_) | (have H2_ := (Option.bind_some _ _).symm.trans H; with_reducible exact H2_) | with_reducible exact H | (rw [hy337]; exact H) | exact H
 have Ny337 := Aside0.mk hy337
 clear hy337
 replace H := Option.bind_eq_some_iff.mp H
 obtain ⟨t340, A40, H⟩ := H
 (try dsimp only at H)
 have A4 := Aside0.mk A40
 clear A40
 replace H := Option.bind_eq_some_iff.mp H
 obtain ⟨t341, A50, H⟩ := H
 (try dsimp only at H)
 have A5 := Aside0.mk A50
 clear A50
 by_cases c6 : t340.size + t341.size ≤ 9223372036854775807
 rotate_left
 ·
  rw [if_neg c6] at H
  exact absurd H (by simp)
 rw [if_pos c6] at H
 have c6b0 := eq_true c6
 have c6b1 : decide (t340.size + t341.size ≤ 9223372036854775807) = true := decide_eq_true c6
 try have c6b2 : (9223372036854775807 < t340.size + t341.size) = False := eq_false (Nat.not_lt.2 c6)
 obtain ⟨y342, hy342⟩ : ∃ y_ : List Int, y_ = (([a0_4] : List Int)) := ⟨_, rfl⟩
 replace H : ((impl_varTexts.f k y342).bind fun t345 => (if (t340 ++ t341).size + t345.size ≤ 9223372036854775807 then ((impl_shortTexts.f k (([a0_5, a0_6] : List ByteArray))).bind fun t349 => (if ((t340 ++ t341) ++ t345).size + t349.size ≤ 9223372036854775807 then ((impl_varTexts.f k (([a0_7, a0_8, a0_9] : List Int))).bind fun t353 => (if (((t340 ++ t341) ++ t345) ++ t349).size + t353.size ≤ 9223372036854775807 then (some ((((t340 ++ t341) ++ t345) ++ t349) ++ t353, true)) else (none))) else (none))) else (none))) = some (r1, r2) := by first | (rw [hy342]; with_reducible exact H) | (have H2_ := (Option.bind_some _ _).symm.trans H; rw [hy342]; with_reducible exact H2_) | (have H2_ := (Option.bind_some _ _).symm.trans H; with_reducible exact H2_) | with_reducible exact H | (rw [hy342]; exact H) | exact H
 have Ny342 := Aside0.mk hy342
 clear hy342
 replace H := Option.bind_eq_some_iff.mp H
 obtain ⟨t345, A70, H⟩ := H
 (try dsimp only at H)
 have A7 := Aside0.mk A70
 clear A70
 by_cases c8 : (t340 ++ t341).size + t345.size ≤ 9223372036854775807
 rotate_left
 ·
  rw [if_neg c8] at H
  exact absurd H (by simp)
 rw [if_pos c8] at H
 have c8b0 := eq_true c8
 have c8b1 : decide ((t340 ++ t341).size + t345.size ≤ 9223372036854775807) = true := decide_eq_true c8
 try have c8b2 : (9223372036854775807 < (t340 ++ t341).size + t345.size) = False := eq_false (Nat.not_lt.2 c8)
 try have c8b3 := c8b2
 try simp only [ByteArray.size_append] at c8b3
 obtain ⟨y346, hy346⟩ : ∃ y_ : List ByteArray, y_ = (([a0_5, a0_6] : List ByteArray)) := ⟨_, rfl⟩
 replace H : ((impl_shortTexts.f k y346).bind fun t349 => (if ((t340 ++ t341) ++ t345).size + t349.size ≤ 9223372036854775807 then ((impl_varTexts.f k (([a0_7, a0_8, a0_9] : List Int))).bind fun t353 => (if (((t340 ++ t341) ++ t345) ++ t349).size + t353.size ≤ 9223372036854775807 then (some ((((t340 ++ t341) ++ t345) ++ t349) ++ t353, true)) else (none))) else (none))) = some (r1, r2) := by first | (rw [hy346]; with_reducible exact H) | (have H2_ := (Option.bind_some _ _).symm.trans H; rw [hy346]; with_reducible exact H2_) | (have H2_ := (Option.bind_some _ _).symm.trans H; with_reducible exact H2_) | with_reducible exact H | (rw [hy346]; exact H) | exact H
 have Ny346 := Aside0.mk hy346
 clear hy346
 replace H := Option.bind_eq_some_iff.mp H
 obtain ⟨t349, A90, H⟩ := H
 (try dsimp only at H)
 have A9 := Aside0.mk A90
 clear A90
 by_cases c10 : ((t340 ++ t341) ++ t345).size + t349.size ≤ 9223372036854775807
 rotate_left
 ·
  rw [if_neg c10] at H
  exact absurd H (by simp)
 rw [if_pos c10] at H
 have c10b0 := eq_true c10
 have c10b1 : decide (((t340 ++ t341) ++ t345).size + t349.size ≤ 9223372036854775807) = true := decide_eq_true c10
 try have c10b2 : (9223372036854775807 < ((t340 ++ t341) ++ t345).size + t349.size) = False := eq_false (Nat.not_lt.2 c10)
 try have c10b3 := c10b2
 try simp only [ByteArray.size_append] at c10b3
 obtain ⟨y350, hy350⟩ : ∃ y_ : List Int, y_ = (([a0_7, a0_8, a0_9] : List Int)) := ⟨_, rfl⟩
 replace H : ((impl_varTexts.f k y350).bind fun t353 => (if (((t340 ++ t341) ++ t345) ++ t349).size + t353.size ≤ 9223372036854775807 then (some ((((t340 ++ t341) ++ t345) ++ t349) ++ t353, true)) else (none))) = some (r1, r2) := by first | (rw [hy350]; with_reducible exact H) | (have H2_ := (Option.bind_some _ _).symm.trans H; rw [hy350]; with_reducible exact H2_) | (have H2_ := (Option.bind_some _ _).symm.trans H; with_reducible exact H2_) | with_reducible exact H | (rw [hy350]; exact H) | exact H
 have Ny350 := Aside0.mk hy350
 clear hy350
 replace H := Option.bind_eq_some_iff.mp H
 obtain ⟨t353, A110, H⟩ := H
 (try dsimp only at H)
 have A11 := Aside0.mk A110
 clear A110
 by_cases c12 : (((t340 ++ t341) ++ t345) ++ t349).size + t353.size ≤ 9223372036854775807
 rotate_left
 ·
  rw [if_neg c12] at H
  exact absurd H (by simp)
 rw [if_pos c12] at H
 have c12b0 := eq_true c12
 have c12b1 : decide ((((t340 ++ t341) ++ t345) ++ t349).size + t353.size ≤ 9223372036854775807) = true := decide_eq_true c12
 try have c12b2 : (9223372036854775807 < (((t340 ++ t341) ++ t345) ++ t349).size + t353.size) = False := eq_false (Nat.not_lt.2 c12)
 try have c12b3 := c12b2
 try simp only [ByteArray.size_append] at c12b3
 simp only [Option.some.injEq, Prod.mk.injEq] at H
 obtain ⟨rfl, rfl⟩ := H
 go_enter Try.func9, Try.ntmps9
 try go_wp2_with (first | ((with_reducible refine gate_dst (N := 1) rfl ?_); refine box_event ?hg (N := 1) ?hd (cs := #[.int .i64 a0_0, .int .i64 a0_1, .int .i64 a0_2, .slice A0_3 l0_3.length c0_3, .int .i64 a0_4, .string a0_5, .string a0_6, .int .i64 a0_7, .int .i64 a0_8, .int .i64 a0_9]) (t := 31) ?hr ?_; (case hd => rfl); (case hg => rfl); (case hr => first | (go_simp; done) | (go_simp; rfl)); intro gb335 hg w13 hbox hb; have BK335 := Aside0.mk (hbox); have GW335 := gw_ w z10_6 hg; have GE335 := gw_ w z10_6 hg; replace HB := Aside0.mk (below_step z10_6 hb); clear hb hbox hg; have hcz14 := bc10 BK335.out) | ((with_reducible refine gate_callee (f := 17) rfl ?_); refine goesL_ (some 6) rfl rfl Try.func17 z10_4 rfl #[.agg #[.int .i64 a0_0, .int .i64 a0_1, .int .i64 a0_2, .slice A0_3 l0_3.length c0_3, .int .i64 a0_4, .string a0_5, .string a0_6, .int .i64 a0_7, .int .i64 a0_8, .int .i64 a0_9]] rfl z10_12 ?_; (with_reducible refine (impl_ActOk.calls k a0_0 a0_1 a0_2 _ _ l0_3 a0_4 a0_5 a0_6 a0_7 a0_8 a0_9 true _ ?side1 ?side2 A2.out).mono ?_); (case side1 => exact z10_14); (case side2 => exact HC0_3.out); rintro e w15 ⟨rfl, hb⟩; refine ⟨_, rfl, ?_⟩; replace BK335 := bb_ BK335 z10_2 hb; replace HB := Aside0.mk (below_step z10_0 hb)))
 replace BK335 := Aside0.mk (blk_drew BK335.out)
 replace HB := Aside0.mk (below_drew1 HB.out)
 refine start_ (n := 15) (S := fun w' => w'.cell? ⟨gb335, 0, none⟩ = some (.int .i64 a0_0) ∧ w'.cell? ⟨gb335, 1, none⟩ = some (.int .i64 a0_1) ∧ w'.cell? ⟨gb335, 2, none⟩ = some (.int .i64 a0_2) ∧ w'.cell? ⟨gb335, 3, none⟩ = some (.slice A0_3 l0_3.length c0_3) ∧ w'.cell? ⟨gb335, 4, none⟩ = some (.int .i64 a0_4) ∧ w'.cell? ⟨gb335, 5, none⟩ = some (.string a0_5) ∧ w'.cell? ⟨gb335, 6, none⟩ = some (.string a0_6) ∧ w'.cell? ⟨gb335, 7, none⟩ = some (.int .i64 a0_7) ∧ w'.cell? ⟨gb335, 8, none⟩ = some (.int .i64 a0_8) ∧ w'.cell? ⟨gb335, 9, none⟩ = some (.int .i64 a0_9)) (ds := []) mk10_0 z10_4 rfl rfl (ln10 BK335) (fun hHeld => ?_); refine with_tabW impl_ActText.tab3 impl_ActText.bits3 (fun HT_ HW_ => ?_)
 generalize w15.drew = w16 at BK335 HB hHeld ⊢
 refine p_ (i := 0) (N := some 8) mk10_1 ?_ (hv := z10_7) (ha := z10_1)
 refine p_ (i := 1) (N := some 9) mk10_2 ?_ (hv := z10_7) (ha := z10_1)
 refine p_ (i := 3) (N := some 11) mk10_3 ?_ (hv := z10_7) (ha := z10_1)
 refine p_ (i := 4) (N := some 12) mk10_4 ?_ (hv := z10_7) (ha := z10_1)
 refine p_ (i := 6) (N := some 14) mk10_5 ?_ (hv := z10_7) (ha := z10_1)
 refine p_ (i := 10) (N := some 18) mk10_6 ?_ (hv := z10_7) (ha := z10_1)
 refine t_ (i := 2) (N := some 10) mk10_7 hHeld ?_ (ha := z10_1)
 refine t_ (i := 5) (N := some 13) mk10_8 hHeld ?_ (ha := z10_1)
 refine t_ (i := 7) (N := some 15) mk10_9 hHeld ?_ (ha := z10_1)
 refine t_ (i := 11) (N := some 19) mk10_10 hHeld ?_ (ha := z10_1)
 refine o_ (i := 8) (N := some 16) mk10_11 (fun K hK => ?_)
 refine Kd.R_lit_step (Kd.int .i64) _ 3 ?hg (N := 16) ?hd (xs := ([a0_0, a0_1, a0_2] : List Int)) (inner := [.int .i64 a0_0, .int .i64 a0_1, .int .i64 a0_2]) (ok := fun _ => True) (okp := fun _ => True) ?hr ?hp (fun _ hk => hk) trivial (Below.refl _ _) (Nat.le_refl _) (by simp) ?_; (case hd => rfl); (case hg => rfl); (case hr => first | (go_simp; done) | (go_simp; rfl)); (case hp => exact (Reps.one (show Kd.M (Kd.int .i64) _ _ _ a0_0 [.int .i64 a0_0] from rfl) (Reps.one (show Kd.M (Kd.int .i64) _ _ _ a0_1 [.int .i64 a0_1] from rfl) (Reps.one (show Kd.M (Kd.int .i64) _ _ _ a0_2 [.int .i64 a0_2] from rfl) (Reps.none _ _)))))
 intro v338 w17 ho18 hb hg_ hnew_
 clear hg_ hnew_
 (first | rw [← Ny337.out] at ho18 | (simp only [Int.reduceToNat] at ho18; rw [← Ny337.out] at ho18))
 have HO339 := Aside0.mk (Kd.R_lower ho18 (below_size z10_0))
 replace BK335 := bb_ BK335 z10_2 hb
 replace HB := Aside0.mk (below_step z10_0 hb)
 clear hb ho18
 obtain ⟨Ao19, co19, eo19⟩ := Kd.R_slice HO339.out
 (first | subst eo19 | (injection eo19 with f1_ f2_ f3_; have f4_ := f1_.symm; have f5_ := f3_.symm; clear f1_ f2_ f3_; subst f4_; subst f5_))
 refine hK.out _ _ (ln10 BK335) (fun hHeld => ?_)
 clear hK K
 refine n_ (N := some 16) ?_
 refine o_ (i := 9) (N := some 17) mk10_12 (fun K hK => ?_)
 refine goes_ Try.func28 z10_4 rfl #[.slice Ao19 y337.length co19] (by rfl) rfl rfl z10_12 ?_
 with_reducible refine (impl_varTexts.calls k _ _ y337 t340 _ ?side1 ?side2 A4.out).mono ?_
 (case side1 => repeat (first | exact (Kd.R_reads' HO339.out).2.2 | (with_reducible refine Kd.C_alloc ?_ _) | (with_reducible refine Kd.C_drewN ?_ _) | (with_reducible refine Kd.C_drew ?_)))
 (case side2 => exact (Kd.R_reads' HO339.out).2.1)
 rintro e w20 ⟨rfl, hb⟩
 refine ⟨_, rfl, ?_⟩
 replace HO339 := Aside0.mk (Kd.R_below z10_3 hb)
 replace BK335 := bb_ BK335 z10_2 hb
 replace HB := Aside0.mk (below_step z10_0 hb)
 (try clear hb)
 (try clear hb2)
 (try clear hk)
 (try clear hi)
 refine hK.out _ _ (ln10 BK335) (fun hHeld => ?_)
 clear hK K
 refine n_ (N := some 17) ?_
 refine o_ (i := 12) (N := some 20) mk10_13 (fun K hK => ?_)
 refine goes_ Try.func28 z10_4 rfl #[.slice A0_3 l0_3.length c0_3] (by rfl) rfl rfl z10_12 ?_
 with_reducible refine (impl_varTexts.calls k _ _ l0_3 t341 _ ?side1 ?side2 A5.out).mono ?_
 (case side1 => exact z10_14)
 (case side2 => exact HC0_3.out)
 rintro e w21 ⟨rfl, hb⟩
 refine ⟨_, rfl, ?_⟩
 replace HO339 := Aside0.mk (Kd.R_below z10_3 hb)
 replace BK335 := bb_ BK335 z10_2 hb
 replace HB := Aside0.mk (below_step z10_0 hb)
 (try clear hb)
 (try clear hb2)
 (try clear hk)
 (try clear hi)
 refine hK.out _ _ (ln10 BK335) (fun hHeld => ?_)
 clear hK K
 refine n_ (N := some 20) ?_
 refine p_ (i := 13) (N := some 21) mk10_14 ?_ (hv := z10_7) (ha := z10_1)
 refine p_ (i := 14) (N := some 4) mk10_15 ?_ (hv := z10_7) (ha := z10_1)
 refine done_ (done_of HT_.out z10_4) ?_
 try go_wp2
 replace HO339 := Aside0.mk (Kd.R_drew HO339.out)
 replace BK335 := Aside0.mk (blk_drew BK335.out)
 replace HB := Aside0.mk (below_drew1 HB.out)
 refine start_ (n := 26) (S := fun w' => True) (ds := []) mk10_16 z10_4 rfl rfl trivial (fun hHeld => ?_); refine with_tabW impl_ActText.tab4 impl_ActText.bits4 (fun HT_ HW_ => ?_)
 generalize w21.drew = w22 at HO339 BK335 HB hHeld ⊢
 refine p_ (i := 0) (N := some 22) mk10_17 ?_ (hv := z10_7) (ha := z10_1)
 refine p_ (i := 1) (N := some 23) mk10_18 ?_ (hv := z10_7) (ha := z10_1)
 refine p_ (i := 6) (N := some 28) mk10_19 ?_ (hv := z10_7) (ha := z10_1)
 refine p_ (i := 8) (N := some 30) mk10_20 ?_ (hv := z10_7) (ha := z10_1)
 refine p_ (i := 13) (N := some 35) mk10_21 ?_ (hv := z10_7) (ha := z10_1)
 refine p_ (i := 15) (N := some 37) mk10_22 ?_ (hv := z10_7) (ha := z10_1)
 refine p_ (i := 16) (N := some 38) mk10_23 ?_ (hv := z10_7) (ha := z10_1)
 refine p_ (i := 18) (N := some 40) mk10_24 ?_ (hv := z10_7) (ha := z10_1)
 refine p_ (i := 19) (N := some 41) mk10_25 ?_ (hv := z10_7) (ha := z10_1)
 refine inv_at [2, 3, 4, 5, 7, 9, 10, 11, 12, 14, 17, 20, 21, 22, 23, 24, 25] (fun a0_ b a w' => ∃ (v343 : Value) (v347 : Value) (v351 : Value), a = putSel a0_ b [(2, 24, .int .i64 a0_4), (3, 25, v343), (4, 26, .string t345), (5, 27, .string ((t340 ++ t341) ++ t345)), (7, 29, .string a0_5), (9, 31, .string a0_6), (10, 32, v347), (11, 33, .string t349), (12, 34, .string (((t340 ++ t341) ++ t345) ++ t349)), (14, 36, .int .i64 a0_7), (17, 39, .int .i64 a0_8), (20, 42, .int .i64 a0_9), (21, 43, v351), (22, 44, .string t353), (23, 45, .string ((((t340 ++ t341) ++ t345) ++ t349) ++ t353)), (24, 2, .string ((((t340 ++ t341) ++ t345) ++ t349) ++ t353)), (25, 3, .bool true)] ∧ (Kd.R (Kd.int .i64) 3 w' w.heap.size (fun _ => True) (.slice Ao19 y337.length co19) y337) ∧ (w'.heap[gb335]? = some (.cells #[.int .i64 a0_0, .int .i64 a0_1, .int .i64 a0_2, .slice A0_3 l0_3.length c0_3, .int .i64 a0_4, .string a0_5, .string a0_6, .int .i64 a0_7, .int .i64 a0_8, .int .i64 a0_9] 31 (0, 0))) ∧ (Below w.heap.size w w') ∧ (b 3 = true → Kd.R (Kd.int .i64) 3 w' w.heap.size (fun k_ => some k_ ≠ (.slice Ao19 y337.length co19 : Value).ownBlock) v343 y342) ∧ (b 10 = true → Kd.R Kd.string 9 w' w.heap.size (fun _ => True) v347 y346) ∧ (b 21 = true → Kd.R (Kd.int .i64) 3 w' w.heap.size (fun k_ => some k_ ≠ (.slice Ao19 y337.length co19 : Value).ownBlock) v351 y350)) HT_.out HW_.out z10_4 z10_4 ?_ ?_ ?_
 ·
  exact ⟨.bool false, .bool false, .bool false, by simp only [putSel, Bool.false_eq_true, if_false], HO339.out, BK335.out, HB.out, fun h_ => absurd h_ (by decide), fun h_ => absurd h_ (by decide), fun h_ => absurd h_ (by decide)⟩
 ·
  skip
  clear BK335 HB HO339
  refine steps_cons ?_ ?_
  ·
   rintro b a w' ⟨v343, v347, v351, ha, Q_HO339, Q_BK335, Q_HB, Q_HO344, Q_HO348, Q_HO352⟩ hb_ hon hoff
   refine ⟨_, rfl, fun K hK => ?_⟩
   have e23 : a.tmps[23]? = some (.pointer (some ⟨gb335, 4, none⟩)) := by rw [ha]; exact (putSel_off rfl).trans rfl
   replace ha := Aside0.mk ha
   have HO339 := Aside0.mk Q_HO339
   have BK335 := Aside0.mk Q_BK335
   have HB := Aside0.mk Q_HB
   have hc0_ : w'.cell? ⟨gb335, 0, none⟩ = some (.int .i64 a0_0) := bc_ BK335 0
   have hc1_ : w'.cell? ⟨gb335, 1, none⟩ = some (.int .i64 a0_1) := bc_ BK335 1
   have hc2_ : w'.cell? ⟨gb335, 2, none⟩ = some (.int .i64 a0_2) := bc_ BK335 2
   have hc3_ : w'.cell? ⟨gb335, 3, none⟩ = some (.slice A0_3 l0_3.length c0_3) := bc_ BK335 3
   have hc4_ : w'.cell? ⟨gb335, 4, none⟩ = some (.int .i64 a0_4) := bc_ BK335 4
   have hc5_ : w'.cell? ⟨gb335, 5, none⟩ = some (.string a0_5) := bc_ BK335 5
   have hc6_ : w'.cell? ⟨gb335, 6, none⟩ = some (.string a0_6) := bc_ BK335 6
   have hc7_ : w'.cell? ⟨gb335, 7, none⟩ = some (.int .i64 a0_7) := bc_ BK335 7
   have hc8_ : w'.cell? ⟨gb335, 8, none⟩ = some (.int .i64 a0_8) := bc_ BK335 8
   have hc9_ : w'.cell? ⟨gb335, 9, none⟩ = some (.int .i64 a0_9) := bc_ BK335 9
   refine value_ (w1 := w') (v := .int .i64 a0_4) (by rfl) rfl ?_ ?_
   ·
    go_simp
    (try simp only [i64_w])
    try rfl
   refine hK.out _ _ ⟨v343, v347, v351, (by rw [ha.out]; exact putSel_upk 0 hb_ rfl rfl rfl), Q_HO339, Q_BK335, Q_HB, fun h0_ => absurd ((hoff 3 z10_4).symm.trans h0_) (by decide), Q_HO348, Q_HO352⟩
  refine steps_cons ?_ ?_
  ·
   rintro b a w' ⟨v343, v347, v351, ha, Q_HO339, Q_BK335, Q_HB, Q_HO344, Q_HO348, Q_HO352⟩ hb_ hon hoff
   refine ⟨_, rfl, fun K hK => ?_⟩
   have e24 : a.tmps[24]? = some (.int .i64 a0_4) := by rw [ha]; exact putSel_on (e := (2, 24, .int .i64 a0_4)) 0 rfl rfl (hon 2 z10_4) rfl
   replace ha := Aside0.mk ha
   have HO339 := Aside0.mk Q_HO339
   have BK335 := Aside0.mk Q_BK335
   have HB := Aside0.mk Q_HB
   refine Kd.R_lit_step (Kd.int .i64) _ 3 ?hg (N := 25) ?hd (xs := ([a0_4] : List Int)) (inner := [.int .i64 a0_4]) (ok := fun _ => True) (okp := fun _ => True) ?hr ?hp (fun _ hk => hk) trivial (Below.refl _ _) (Nat.le_refl _) (by simp) ?_; (case hd => rfl); (case hg => rfl); (case hr => first | (go_simp; done) | (go_simp; rfl)); (case hp => exact (Reps.one (show Kd.M (Kd.int .i64) _ _ _ a0_4 [.int .i64 a0_4] from rfl) (Reps.none _ _)))
   intro v343 w23 ho24 hb hg_ hnew_
   clear hg_ hnew_
   (first | rw [← Ny342.out] at ho24 | (simp only [Int.reduceToNat] at ho24; rw [← Ny342.out] at ho24))
   have n0_ := Aside0.mk (Kd.R_elder' z10_3 (Kd.R_base ho24) hb)
   have n1_ := Aside0.mk (Kd.R_lower (Kd.R_new' ho24 (Kd.R_lt z10_3)) (below_size z10_0))
   have n2_ := Aside0.mk (blk_below (g := gb335) (o := .cells #[.int .i64 a0_0, .int .i64 a0_1, .int .i64 a0_2, .slice A0_3 l0_3.length c0_3, .int .i64 a0_4, .string a0_5, .string a0_6, .int .i64 a0_7, .int .i64 a0_8, .int .i64 a0_9] 31 (0, 0)) z10_2 hb)
   have n3_ := Aside0.mk (below_step z10_0 hb)
   have z_HO348 := fun (h0_ : b 10 = true) => (show Kd.R Kd.string 9 w23 w.heap.size (fun _ => True) v347 y346 from by first | exact (Kd.R_below z10_8 hb) | exact Kd.R_mono (Kd.R_below z10_8 hb) (fun _ h_ => by first | trivial | exact h_ | exact h_.1))
   have z_HO352 := fun (h0_ : b 21 = true) => (show Kd.R (Kd.int .i64) 3 w23 w.heap.size (fun k_ => some k_ ≠ (.slice Ao19 y337.length co19 : Value).ownBlock) v351 y350 from by first | exact (Kd.R_elder' z10_5 (Kd.R_base ho24) hb) | exact Kd.R_mono (Kd.R_elder' z10_5 (Kd.R_base ho24) hb) (fun _ h_ => by first | trivial | exact h_ | exact h_.1))
   clear HO339
   clear BK335
   clear HB
   have HO339 := n0_
   have HO344 := n1_
   have BK335 := n2_
   have HB := n3_
   clear n0_ n1_ n2_ n3_
   clear hb ho24
   refine hK.out _ _ ⟨v343, v347, v351, (by rw [ha.out]; exact putSel_upk 1 hb_ rfl rfl rfl), z10_13, z10_2, z10_0, fun _ => (by (with_reducible repeat (first | apply Kd.R_alloc | apply Kd.R_drewN | apply Kd.R_drew)); exact Kd.R_mono HO344.out (fun _ hk => by first | exact hk.2 | trivial)), z_HO348, z_HO352⟩
  refine steps_cons ?_ ?_
  ·
   rintro b a w' ⟨v343, v347, v351, ha, Q_HO339, Q_BK335, Q_HB, Q_HO344, Q_HO348, Q_HO352⟩ hb_ hon hoff
   refine ⟨_, rfl, fun K hK => ?_⟩
   have e25 : a.tmps[25]? = some (v343) := by rw [ha]; exact putSel_on (e := (3, 25, v343)) 1 rfl rfl (hon 3 z10_4) rfl
   replace ha := Aside0.mk ha
   have HO339 := Aside0.mk Q_HO339
   have BK335 := Aside0.mk Q_BK335
   have HB := Aside0.mk Q_HB
   have HO344 := Aside0.mk (Q_HO344 (hon 3 z10_4))
   obtain ⟨Ao26, co26, eo26⟩ := Kd.R_slice HO344.out
   (first | subst eo26 | (injection eo26 with f1_ f2_ f3_; have f4_ := f1_.symm; have f5_ := f3_.symm; clear f1_ f2_ f3_; subst f4_; subst f5_))
   refine goes_ Try.func28 z10_4 rfl #[.slice Ao26 y342.length co26] (by rfl) rfl rfl (by first | (simp only [List.map_toArray, List.map_cons, List.map_nil, Act.eval, Array.getD_eq_getD_getElem?, Option.getD_some, e25]; done) | (simp only [List.map_toArray, List.map_cons, List.map_nil, Act.eval, Array.getD_eq_getD_getElem?, Option.getD_some, e25]; rfl)) ?_
   with_reducible refine (impl_varTexts.calls k _ _ y342 t345 _ ?side1 ?side2 A7.out).mono ?_
   (case side1 => repeat (first | exact (Kd.R_reads' HO344.out).2.2 | (with_reducible refine Kd.C_alloc ?_ _) | (with_reducible refine Kd.C_drewN ?_ _) | (with_reducible refine Kd.C_drew ?_)))
   (case side2 => exact (Kd.R_reads' HO344.out).2.1)
   rintro e w27 ⟨rfl, hb⟩
   refine ⟨_, rfl, ?_⟩
   have n0_ := Aside0.mk (Kd.R_below z10_3 hb)
   have n1_ := Aside0.mk (Kd.R_below z10_9 hb)
   have n2_ := Aside0.mk (blk_below (g := gb335) (o := .cells #[.int .i64 a0_0, .int .i64 a0_1, .int .i64 a0_2, .slice A0_3 l0_3.length c0_3, .int .i64 a0_4, .string a0_5, .string a0_6, .int .i64 a0_7, .int .i64 a0_8, .int .i64 a0_9] 31 (0, 0)) z10_2 hb)
   have n3_ := Aside0.mk (below_step z10_0 hb)
   have z_HO348 := fun (h0_ : b 10 = true) => (show Kd.R Kd.string 9 w27 w.heap.size (fun _ => True) v347 y346 from by first | exact (Kd.R_below z10_8 hb) | exact Kd.R_mono (Kd.R_below z10_8 hb) (fun _ h_ => by first | trivial | exact h_ | exact h_.1))
   have z_HO352 := fun (h0_ : b 21 = true) => (show Kd.R (Kd.int .i64) 3 w27 w.heap.size (fun k_ => some k_ ≠ (.slice Ao19 y337.length co19 : Value).ownBlock) v351 y350 from by first | exact (Kd.R_below z10_5 hb) | exact Kd.R_mono (Kd.R_below z10_5 hb) (fun _ h_ => by first | trivial | exact h_ | exact h_.1))
   clear HO339
   clear HO344
   clear BK335
   clear HB
   have HO339 := n0_
   have HO344 := n1_
   have BK335 := n2_
   have HB := n3_
   clear n0_ n1_ n2_ n3_
   (try clear hb)
   (try clear hb2)
   (try clear hk)
   (try clear hi)
   refine hK.out _ _ ⟨.slice Ao26 y342.length co26, v347, v351, (by rw [ha.out]; exact putSel_upk 2 hb_ rfl rfl rfl), z10_3, z10_2, z10_0, fun _ => z10_9, z_HO348, z_HO352⟩
  refine steps_cons ?_ ?_
  ·
   rintro b a w' ⟨v343, v347, v351, ha, Q_HO339, Q_BK335, Q_HB, Q_HO344, Q_HO348, Q_HO352⟩ hb_ hon hoff
   refine ⟨_, rfl, fun K hK => ?_⟩
   have e22 : a.tmps[22]? = some (.string (t340 ++ t341)) := by rw [ha]; exact (putSel_off rfl).trans rfl
   have e26 : a.tmps[26]? = some (.string t345) := by rw [ha]; exact putSel_on (e := (4, 26, .string t345)) 2 rfl rfl (hon 4 z10_4) rfl
   replace ha := Aside0.mk ha
   have HO339 := Aside0.mk Q_HO339
   have BK335 := Aside0.mk Q_BK335
   have HB := Aside0.mk Q_HB
   have HO344 := Aside0.mk (Q_HO344 (hon 3 z10_4))
   refine value_ (w1 := w') (v := .string ((t340 ++ t341) ++ t345)) (by rfl) rfl ?_ ?_
   ·
    go_simp
    (try simp only [i64_w])
    try rfl
   refine hK.out _ _ ⟨v343, v347, v351, (by rw [ha.out]; exact putSel_upk 3 hb_ rfl rfl rfl), Q_HO339, Q_BK335, Q_HB, Q_HO344, Q_HO348, Q_HO352⟩
  refine steps_cons ?_ ?_
  ·
   rintro b a w' ⟨v343, v347, v351, ha, Q_HO339, Q_BK335, Q_HB, Q_HO344, Q_HO348, Q_HO352⟩ hb_ hon hoff
   refine ⟨_, rfl, fun K hK => ?_⟩
   have e28 : a.tmps[28]? = some (.pointer (some ⟨gb335, 5, none⟩)) := by rw [ha]; exact (putSel_off rfl).trans rfl
   replace ha := Aside0.mk ha
   have HO339 := Aside0.mk Q_HO339
   have BK335 := Aside0.mk Q_BK335
   have HB := Aside0.mk Q_HB
   have hc0_ : w'.cell? ⟨gb335, 0, none⟩ = some (.int .i64 a0_0) := bc_ BK335 0
   have hc1_ : w'.cell? ⟨gb335, 1, none⟩ = some (.int .i64 a0_1) := bc_ BK335 1
   have hc2_ : w'.cell? ⟨gb335, 2, none⟩ = some (.int .i64 a0_2) := bc_ BK335 2
   have hc3_ : w'.cell? ⟨gb335, 3, none⟩ = some (.slice A0_3 l0_3.length c0_3) := bc_ BK335 3
   have hc4_ : w'.cell? ⟨gb335, 4, none⟩ = some (.int .i64 a0_4) := bc_ BK335 4
   have hc5_ : w'.cell? ⟨gb335, 5, none⟩ = some (.string a0_5) := bc_ BK335 5
   have hc6_ : w'.cell? ⟨gb335, 6, none⟩ = some (.string a0_6) := bc_ BK335 6
   have hc7_ : w'.cell? ⟨gb335, 7, none⟩ = some (.int .i64 a0_7) := bc_ BK335 7
   have hc8_ : w'.cell? ⟨gb335, 8, none⟩ = some (.int .i64 a0_8) := bc_ BK335 8
   have hc9_ : w'.cell? ⟨gb335, 9, none⟩ = some (.int .i64 a0_9) := bc_ BK335 9
   refine value_ (w1 := w') (v := .string a0_5) (by rfl) rfl ?_ ?_
   ·
    go_simp
    (try simp only [i64_w])
    try rfl
   refine hK.out _ _ ⟨v343, v347, v351, (by rw [ha.out]; exact putSel_upk 4 hb_ rfl rfl rfl), Q_HO339, Q_BK335, Q_HB, Q_HO344, fun h0_ => absurd ((hoff 10 z10_4).symm.trans h0_) (by decide), Q_HO352⟩
  refine steps_cons ?_ ?_
  ·
   rintro b a w' ⟨v343, v347, v351, ha, Q_HO339, Q_BK335, Q_HB, Q_HO344, Q_HO348, Q_HO352⟩ hb_ hon hoff
   refine ⟨_, rfl, fun K hK => ?_⟩
   have e30 : a.tmps[30]? = some (.pointer (some ⟨gb335, 6, none⟩)) := by rw [ha]; exact (putSel_off rfl).trans rfl
   replace ha := Aside0.mk ha
   have HO339 := Aside0.mk Q_HO339
   have BK335 := Aside0.mk Q_BK335
   have HB := Aside0.mk Q_HB
   have hc0_ : w'.cell? ⟨gb335, 0, none⟩ = some (.int .i64 a0_0) := bc_ BK335 0
   have hc1_ : w'.cell? ⟨gb335, 1, none⟩ = some (.int .i64 a0_1) := bc_ BK335 1
   have hc2_ : w'.cell? ⟨gb335, 2, none⟩ = some (.int .i64 a0_2) := bc_ BK335 2
   have hc3_ : w'.cell? ⟨gb335, 3, none⟩ = some (.slice A0_3 l0_3.length c0_3) := bc_ BK335 3
   have hc4_ : w'.cell? ⟨gb335, 4, none⟩ = some (.int .i64 a0_4) := bc_ BK335 4
   have hc5_ : w'.cell? ⟨gb335, 5, none⟩ = some (.string a0_5) := bc_ BK335 5
   have hc6_ : w'.cell? ⟨gb335, 6, none⟩ = some (.string a0_6) := bc_ BK335 6
   have hc7_ : w'.cell? ⟨gb335, 7, none⟩ = some (.int .i64 a0_7) := bc_ BK335 7
   have hc8_ : w'.cell? ⟨gb335, 8, none⟩ = some (.int .i64 a0_8) := bc_ BK335 8
   have hc9_ : w'.cell? ⟨gb335, 9, none⟩ = some (.int .i64 a0_9) := bc_ BK335 9
   refine value_ (w1 := w') (v := .string a0_6) (by rfl) rfl ?_ ?_
   ·
    go_simp
    (try simp only [i64_w])
    try rfl
   refine hK.out _ _ ⟨v343, v347, v351, (by rw [ha.out]; exact putSel_upk 5 hb_ rfl rfl rfl), Q_HO339, Q_BK335, Q_HB, Q_HO344, fun h0_ => absurd ((hoff 10 z10_4).symm.trans h0_) (by decide), Q_HO352⟩
  refine steps_cons ?_ ?_
  ·
   rintro b a w' ⟨v343, v347, v351, ha, Q_HO339, Q_BK335, Q_HB, Q_HO344, Q_HO348, Q_HO352⟩ hb_ hon hoff
   refine ⟨_, rfl, fun K hK => ?_⟩
   have e29 : a.tmps[29]? = some (.string a0_5) := by rw [ha]; exact putSel_on (e := (7, 29, .string a0_5)) 4 rfl rfl (hon 7 z10_4) rfl
   have e31 : a.tmps[31]? = some (.string a0_6) := by rw [ha]; exact putSel_on (e := (9, 31, .string a0_6)) 5 rfl rfl (hon 9 z10_4) rfl
   replace ha := Aside0.mk ha
   have HO339 := Aside0.mk Q_HO339
   have BK335 := Aside0.mk Q_BK335
   have HB := Aside0.mk Q_HB
   refine Kd.R_lit_step Kd.string _ 9 ?hg (N := 32) ?hd (xs := ([a0_5, a0_6] : List ByteArray)) (inner := [.string a0_5, .string a0_6]) (ok := fun _ => True) (okp := fun _ => True) ?hr ?hp (fun _ hk => hk) trivial (Below.refl _ _) (Nat.le_refl _) (by simp) ?_; (case hd => rfl); (case hg => rfl); (case hr => first | (go_simp; done) | (go_simp; rfl)); (case hp => exact (Reps.one (show Kd.M Kd.string _ _ _ a0_5 [.string a0_5] from rfl) (Reps.one (show Kd.M Kd.string _ _ _ a0_6 [.string a0_6] from rfl) (Reps.none _ _))))
   intro v347 w23 ho24 hb hg_ hnew_
   clear hg_ hnew_
   (first | rw [← Ny346.out] at ho24 | (simp only [Int.reduceToNat] at ho24; rw [← Ny346.out] at ho24))
   have n0_ := Aside0.mk (Kd.R_below z10_3 hb)
   have n1_ := Aside0.mk (Kd.R_lower ho24 (below_size z10_0))
   have n2_ := Aside0.mk (blk_below (g := gb335) (o := .cells #[.int .i64 a0_0, .int .i64 a0_1, .int .i64 a0_2, .slice A0_3 l0_3.length c0_3, .int .i64 a0_4, .string a0_5, .string a0_6, .int .i64 a0_7, .int .i64 a0_8, .int .i64 a0_9] 31 (0, 0)) z10_2 hb)
   have n3_ := Aside0.mk (below_step z10_0 hb)
   have z_HO344 := fun (h0_ : b 3 = true) => (show Kd.R (Kd.int .i64) 3 w23 w.heap.size (fun k_ => some k_ ≠ (.slice Ao19 y337.length co19 : Value).ownBlock) v343 y342 from by first | exact (Kd.R_below z10_11 hb) | exact Kd.R_mono (Kd.R_below z10_11 hb) (fun _ h_ => by first | trivial | exact h_ | exact h_.1))
   have z_HO352 := fun (h0_ : b 21 = true) => (show Kd.R (Kd.int .i64) 3 w23 w.heap.size (fun k_ => some k_ ≠ (.slice Ao19 y337.length co19 : Value).ownBlock) v351 y350 from by first | exact (Kd.R_below z10_5 hb) | exact Kd.R_mono (Kd.R_below z10_5 hb) (fun _ h_ => by first | trivial | exact h_ | exact h_.1))
   clear HO339
   clear BK335
   clear HB
   have HO339 := n0_
   have HO348 := n1_
   have BK335 := n2_
   have HB := n3_
   clear n0_ n1_ n2_ n3_
   clear hb ho24
   refine hK.out _ _ ⟨v343, v347, v351, (by rw [ha.out]; exact putSel_upk 6 hb_ rfl rfl rfl), z10_3, z10_2, z10_0, z_HO344, fun _ => z10_10, z_HO352⟩
  refine steps_cons ?_ ?_
  ·
   rintro b a w' ⟨v343, v347, v351, ha, Q_HO339, Q_BK335, Q_HB, Q_HO344, Q_HO348, Q_HO352⟩ hb_ hon hoff
   refine ⟨_, rfl, fun K hK => ?_⟩
   have e32 : a.tmps[32]? = some (v347) := by rw [ha]; exact putSel_on (e := (10, 32, v347)) 6 rfl rfl (hon 10 z10_4) rfl
   replace ha := Aside0.mk ha
   have HO339 := Aside0.mk Q_HO339
   have BK335 := Aside0.mk Q_BK335
   have HB := Aside0.mk Q_HB
   have HO344 := Aside0.mk (Q_HO344 (hon 3 z10_4))
   have HO348 := Aside0.mk (Q_HO348 (hon 10 z10_4))
   obtain ⟨Ao30, co30, eo30⟩ := Kd.R_slice HO348.out
   (first | subst eo30 | (injection eo30 with f1_ f2_ f3_; have f4_ := f1_.symm; have f5_ := f3_.symm; clear f1_ f2_ f3_; subst f4_; subst f5_))
   refine goes_ Try.func29 z10_4 rfl #[.slice Ao30 y346.length co30] (by rfl) rfl rfl (by first | (simp only [List.map_toArray, List.map_cons, List.map_nil, Act.eval, Array.getD_eq_getD_getElem?, Option.getD_some, e32]; done) | (simp only [List.map_toArray, List.map_cons, List.map_nil, Act.eval, Array.getD_eq_getD_getElem?, Option.getD_some, e32]; rfl)) ?_
   with_reducible refine (impl_shortTexts.calls k _ _ y346 t349 _ ?side1 ?side2 A9.out).mono ?_
   (case side1 => repeat (first | exact (Kd.R_reads' HO348.out).2.2 | (with_reducible refine Kd.C_alloc ?_ _) | (with_reducible refine Kd.C_drewN ?_ _) | (with_reducible refine Kd.C_drew ?_)))
   (case side2 => exact (Kd.R_reads' HO348.out).2.1)
   rintro e w31 ⟨rfl, hb⟩
   refine ⟨_, rfl, ?_⟩
   have n0_ := Aside0.mk (Kd.R_below z10_3 hb)
   have n1_ := Aside0.mk (Kd.R_below z10_9 hb)
   have n2_ := Aside0.mk (Kd.R_below z10_10 hb)
   have n3_ := Aside0.mk (blk_below (g := gb335) (o := .cells #[.int .i64 a0_0, .int .i64 a0_1, .int .i64 a0_2, .slice A0_3 l0_3.length c0_3, .int .i64 a0_4, .string a0_5, .string a0_6, .int .i64 a0_7, .int .i64 a0_8, .int .i64 a0_9] 31 (0, 0)) z10_2 hb)
   have n4_ := Aside0.mk (below_step z10_0 hb)
   have z_HO352 := fun (h0_ : b 21 = true) => (show Kd.R (Kd.int .i64) 3 w31 w.heap.size (fun k_ => some k_ ≠ (.slice Ao19 y337.length co19 : Value).ownBlock) v351 y350 from by first | exact (Kd.R_below z10_5 hb) | exact Kd.R_mono (Kd.R_below z10_5 hb) (fun _ h_ => by first | trivial | exact h_ | exact h_.1))
   clear HO339
   clear HO344
   clear HO348
   clear BK335
   clear HB
   have HO339 := n0_
   have HO344 := n1_
   have HO348 := n2_
   have BK335 := n3_
   have HB := n4_
   clear n0_ n1_ n2_ n3_ n4_
   (try clear hb)
   (try clear hb2)
   (try clear hk)
   (try clear hi)
   refine hK.out _ _ ⟨v343, .slice Ao30 y346.length co30, v351, (by rw [ha.out]; exact putSel_upk 7 hb_ rfl rfl rfl), z10_3, z10_2, z10_0, fun _ => z10_9, fun _ => z10_10, z_HO352⟩
  refine steps_cons ?_ ?_
  ·
   rintro b a w' ⟨v343, v347, v351, ha, Q_HO339, Q_BK335, Q_HB, Q_HO344, Q_HO348, Q_HO352⟩ hb_ hon hoff
   refine ⟨_, rfl, fun K hK => ?_⟩
   have e27 : a.tmps[27]? = some (.string ((t340 ++ t341) ++ t345)) := by rw [ha]; exact putSel_on (e := (5, 27, .string ((t340 ++ t341) ++ t345))) 3 rfl rfl (hon 5 z10_4) rfl
   have e33 : a.tmps[33]? = some (.string t349) := by rw [ha]; exact putSel_on (e := (11, 33, .string t349)) 7 rfl rfl (hon 11 z10_4) rfl
   replace ha := Aside0.mk ha
   have HO339 := Aside0.mk Q_HO339
   have BK335 := Aside0.mk Q_BK335
   have HB := Aside0.mk Q_HB
   have HO344 := Aside0.mk (Q_HO344 (hon 3 z10_4))
   have HO348 := Aside0.mk (Q_HO348 (hon 10 z10_4))
   refine value_ (w1 := w') (v := .string (((t340 ++ t341) ++ t345) ++ t349)) (by rfl) rfl ?_ ?_
   ·
    go_simp
    (try simp only [i64_w])
    try rfl
   refine hK.out _ _ ⟨v343, v347, v351, (by rw [ha.out]; exact putSel_upk 8 hb_ rfl rfl rfl), Q_HO339, Q_BK335, Q_HB, Q_HO344, Q_HO348, Q_HO352⟩
  refine steps_cons ?_ ?_
  ·
   rintro b a w' ⟨v343, v347, v351, ha, Q_HO339, Q_BK335, Q_HB, Q_HO344, Q_HO348, Q_HO352⟩ hb_ hon hoff
   refine ⟨_, rfl, fun K hK => ?_⟩
   have e35 : a.tmps[35]? = some (.pointer (some ⟨gb335, 7, none⟩)) := by rw [ha]; exact (putSel_off rfl).trans rfl
   replace ha := Aside0.mk ha
   have HO339 := Aside0.mk Q_HO339
   have BK335 := Aside0.mk Q_BK335
   have HB := Aside0.mk Q_HB
   have hc0_ : w'.cell? ⟨gb335, 0, none⟩ = some (.int .i64 a0_0) := bc_ BK335 0
   have hc1_ : w'.cell? ⟨gb335, 1, none⟩ = some (.int .i64 a0_1) := bc_ BK335 1
   have hc2_ : w'.cell? ⟨gb335, 2, none⟩ = some (.int .i64 a0_2) := bc_ BK335 2
   have hc3_ : w'.cell? ⟨gb335, 3, none⟩ = some (.slice A0_3 l0_3.length c0_3) := bc_ BK335 3
   have hc4_ : w'.cell? ⟨gb335, 4, none⟩ = some (.int .i64 a0_4) := bc_ BK335 4
   have hc5_ : w'.cell? ⟨gb335, 5, none⟩ = some (.string a0_5) := bc_ BK335 5
   have hc6_ : w'.cell? ⟨gb335, 6, none⟩ = some (.string a0_6) := bc_ BK335 6
   have hc7_ : w'.cell? ⟨gb335, 7, none⟩ = some (.int .i64 a0_7) := bc_ BK335 7
   have hc8_ : w'.cell? ⟨gb335, 8, none⟩ = some (.int .i64 a0_8) := bc_ BK335 8
   have hc9_ : w'.cell? ⟨gb335, 9, none⟩ = some (.int .i64 a0_9) := bc_ BK335 9
   refine value_ (w1 := w') (v := .int .i64 a0_7) (by rfl) rfl ?_ ?_
   ·
    go_simp
    (try simp only [i64_w])
    try rfl
   refine hK.out _ _ ⟨v343, v347, v351, (by rw [ha.out]; exact putSel_upk 9 hb_ rfl rfl rfl), Q_HO339, Q_BK335, Q_HB, Q_HO344, Q_HO348, fun h0_ => absurd ((hoff 21 z10_4).symm.trans h0_) (by decide)⟩
  refine steps_cons ?_ ?_
  ·
   rintro b a w' ⟨v343, v347, v351, ha, Q_HO339, Q_BK335, Q_HB, Q_HO344, Q_HO348, Q_HO352⟩ hb_ hon hoff
   refine ⟨_, rfl, fun K hK => ?_⟩
   have e38 : a.tmps[38]? = some (.pointer (some ⟨gb335, 8, none⟩)) := by rw [ha]; exact (putSel_off rfl).trans rfl
   replace ha := Aside0.mk ha
   have HO339 := Aside0.mk Q_HO339
   have BK335 := Aside0.mk Q_BK335
   have HB := Aside0.mk Q_HB
   have hc0_ : w'.cell? ⟨gb335, 0, none⟩ = some (.int .i64 a0_0) := bc_ BK335 0
   have hc1_ : w'.cell? ⟨gb335, 1, none⟩ = some (.int .i64 a0_1) := bc_ BK335 1
   have hc2_ : w'.cell? ⟨gb335, 2, none⟩ = some (.int .i64 a0_2) := bc_ BK335 2
   have hc3_ : w'.cell? ⟨gb335, 3, none⟩ = some (.slice A0_3 l0_3.length c0_3) := bc_ BK335 3
   have hc4_ : w'.cell? ⟨gb335, 4, none⟩ = some (.int .i64 a0_4) := bc_ BK335 4
   have hc5_ : w'.cell? ⟨gb335, 5, none⟩ = some (.string a0_5) := bc_ BK335 5
   have hc6_ : w'.cell? ⟨gb335, 6, none⟩ = some (.string a0_6) := bc_ BK335 6
   have hc7_ : w'.cell? ⟨gb335, 7, none⟩ = some (.int .i64 a0_7) := bc_ BK335 7
   have hc8_ : w'.cell? ⟨gb335, 8, none⟩ = some (.int .i64 a0_8) := bc_ BK335 8
   have hc9_ : w'.cell? ⟨gb335, 9, none⟩ = some (.int .i64 a0_9) := bc_ BK335 9
   refine value_ (w1 := w') (v := .int .i64 a0_8) (by rfl) rfl ?_ ?_
   ·
    go_simp
    (try simp only [i64_w])
    try rfl
   refine hK.out _ _ ⟨v343, v347, v351, (by rw [ha.out]; exact putSel_upk 10 hb_ rfl rfl rfl), Q_HO339, Q_BK335, Q_HB, Q_HO344, Q_HO348, fun h0_ => absurd ((hoff 21 z10_4).symm.trans h0_) (by decide)⟩
  refine steps_cons ?_ ?_
  ·
   rintro b a w' ⟨v343, v347, v351, ha, Q_HO339, Q_BK335, Q_HB, Q_HO344, Q_HO348, Q_HO352⟩ hb_ hon hoff
   refine ⟨_, rfl, fun K hK => ?_⟩
   have e41 : a.tmps[41]? = some (.pointer (some ⟨gb335, 9, none⟩)) := by rw [ha]; exact (putSel_off rfl).trans rfl
   replace ha := Aside0.mk ha
   have HO339 := Aside0.mk Q_HO339
   have BK335 := Aside0.mk Q_BK335
   have HB := Aside0.mk Q_HB
   have hc0_ : w'.cell? ⟨gb335, 0, none⟩ = some (.int .i64 a0_0) := bc_ BK335 0
   have hc1_ : w'.cell? ⟨gb335, 1, none⟩ = some (.int .i64 a0_1) := bc_ BK335 1
   have hc2_ : w'.cell? ⟨gb335, 2, none⟩ = some (.int .i64 a0_2) := bc_ BK335 2
   have hc3_ : w'.cell? ⟨gb335, 3, none⟩ = some (.slice A0_3 l0_3.length c0_3) := bc_ BK335 3
   have hc4_ : w'.cell? ⟨gb335, 4, none⟩ = some (.int .i64 a0_4) := bc_ BK335 4
   have hc5_ : w'.cell? ⟨gb335, 5, none⟩ = some (.string a0_5) := bc_ BK335 5
   have hc6_ : w'.cell? ⟨gb335, 6, none⟩ = some (.string a0_6) := bc_ BK335 6
   have hc7_ : w'.cell? ⟨gb335, 7, none⟩ = some (.int .i64 a0_7) := bc_ BK335 7
   have hc8_ : w'.cell? ⟨gb335, 8, none⟩ = some (.int .i64 a0_8) := bc_ BK335 8
   have hc9_ : w'.cell? ⟨gb335, 9, none⟩ = some (.int .i64 a0_9) := bc_ BK335 9
   refine value_ (w1 := w') (v := .int .i64 a0_9) (by rfl) rfl ?_ ?_
   ·
    go_simp
    (try simp only [i64_w])
    try rfl
   refine hK.out _ _ ⟨v343, v347, v351, (by rw [ha.out]; exact putSel_upk 11 hb_ rfl rfl rfl), Q_HO339, Q_BK335, Q_HB, Q_HO344, Q_HO348, fun h0_ => absurd ((hoff 21 z10_4).symm.trans h0_) (by decide)⟩
  refine steps_cons ?_ ?_
  ·
   rintro b a w' ⟨v343, v347, v351, ha, Q_HO339, Q_BK335, Q_HB, Q_HO344, Q_HO348, Q_HO352⟩ hb_ hon hoff
   refine ⟨_, rfl, fun K hK => ?_⟩
   have e36 : a.tmps[36]? = some (.int .i64 a0_7) := by rw [ha]; exact putSel_on (e := (14, 36, .int .i64 a0_7)) 9 rfl rfl (hon 14 z10_4) rfl
   have e39 : a.tmps[39]? = some (.int .i64 a0_8) := by rw [ha]; exact putSel_on (e := (17, 39, .int .i64 a0_8)) 10 rfl rfl (hon 17 z10_4) rfl
   have e42 : a.tmps[42]? = some (.int .i64 a0_9) := by rw [ha]; exact putSel_on (e := (20, 42, .int .i64 a0_9)) 11 rfl rfl (hon 20 z10_4) rfl
   replace ha := Aside0.mk ha
   have HO339 := Aside0.mk Q_HO339
   have BK335 := Aside0.mk Q_BK335
   have HB := Aside0.mk Q_HB
   refine Kd.R_lit_step (Kd.int .i64) _ 3 ?hg (N := 43) ?hd (xs := ([a0_7, a0_8, a0_9] : List Int)) (inner := [.int .i64 a0_7, .int .i64 a0_8, .int .i64 a0_9]) (ok := fun _ => True) (okp := fun _ => True) ?hr ?hp (fun _ hk => hk) trivial (Below.refl _ _) (Nat.le_refl _) (by simp) ?_; (case hd => rfl); (case hg => rfl); (case hr => first | (go_simp; done) | (go_simp; rfl)); (case hp => exact (Reps.one (show Kd.M (Kd.int .i64) _ _ _ a0_7 [.int .i64 a0_7] from rfl) (Reps.one (show Kd.M (Kd.int .i64) _ _ _ a0_8 [.int .i64 a0_8] from rfl) (Reps.one (show Kd.M (Kd.int .i64) _ _ _ a0_9 [.int .i64 a0_9] from rfl) (Reps.none _ _)))))
   intro v351 w23 ho24 hb hg_ hnew_
   clear hg_ hnew_
   (first | rw [← Ny350.out] at ho24 | (simp only [Int.reduceToNat] at ho24; rw [← Ny350.out] at ho24))
   have n0_ := Aside0.mk (Kd.R_elder' z10_3 (Kd.R_base ho24) hb)
   have n1_ := Aside0.mk (Kd.R_lower (Kd.R_new' ho24 (Kd.R_lt z10_3)) (below_size z10_0))
   have n2_ := Aside0.mk (blk_below (g := gb335) (o := .cells #[.int .i64 a0_0, .int .i64 a0_1, .int .i64 a0_2, .slice A0_3 l0_3.length c0_3, .int .i64 a0_4, .string a0_5, .string a0_6, .int .i64 a0_7, .int .i64 a0_8, .int .i64 a0_9] 31 (0, 0)) z10_2 hb)
   have n3_ := Aside0.mk (below_step z10_0 hb)
   have z_HO344 := fun (h0_ : b 3 = true) => (show Kd.R (Kd.int .i64) 3 w23 w.heap.size (fun k_ => some k_ ≠ (.slice Ao19 y337.length co19 : Value).ownBlock) v343 y342 from by first | exact (Kd.R_elder' z10_11 (Kd.R_base ho24) hb) | exact Kd.R_mono (Kd.R_elder' z10_11 (Kd.R_base ho24) hb) (fun _ h_ => by first | trivial | exact h_ | exact h_.1))
   have z_HO348 := fun (h0_ : b 10 = true) => (show Kd.R Kd.string 9 w23 w.heap.size (fun _ => True) v347 y346 from by first | exact (Kd.R_below z10_8 hb) | exact Kd.R_mono (Kd.R_below z10_8 hb) (fun _ h_ => by first | trivial | exact h_ | exact h_.1))
   clear HO339
   clear BK335
   clear HB
   have HO339 := n0_
   have HO352 := n1_
   have BK335 := n2_
   have HB := n3_
   clear n0_ n1_ n2_ n3_
   clear hb ho24
   refine hK.out _ _ ⟨v343, v347, v351, (by rw [ha.out]; exact putSel_upk 12 hb_ rfl rfl rfl), z10_13, z10_2, z10_0, z_HO344, z_HO348, fun _ => (by (with_reducible repeat (first | apply Kd.R_alloc | apply Kd.R_drewN | apply Kd.R_drew)); exact Kd.R_mono HO352.out (fun _ hk => by first | exact hk.2 | trivial))⟩
  refine steps_cons ?_ ?_
  ·
   rintro b a w' ⟨v343, v347, v351, ha, Q_HO339, Q_BK335, Q_HB, Q_HO344, Q_HO348, Q_HO352⟩ hb_ hon hoff
   refine ⟨_, rfl, fun K hK => ?_⟩
   have e43 : a.tmps[43]? = some (v351) := by rw [ha]; exact putSel_on (e := (21, 43, v351)) 12 rfl rfl (hon 21 z10_4) rfl
   replace ha := Aside0.mk ha
   have HO339 := Aside0.mk Q_HO339
   have BK335 := Aside0.mk Q_BK335
   have HB := Aside0.mk Q_HB
   have HO344 := Aside0.mk (Q_HO344 (hon 3 z10_4))
   have HO348 := Aside0.mk (Q_HO348 (hon 10 z10_4))
   have HO352 := Aside0.mk (Q_HO352 (hon 21 z10_4))
   obtain ⟨Ao34, co34, eo34⟩ := Kd.R_slice HO352.out
   (first | subst eo34 | (injection eo34 with f1_ f2_ f3_; have f4_ := f1_.symm; have f5_ := f3_.symm; clear f1_ f2_ f3_; subst f4_; subst f5_))
   refine goes_ Try.func28 z10_4 rfl #[.slice Ao34 y350.length co34] (by rfl) rfl rfl (by first | (simp only [List.map_toArray, List.map_cons, List.map_nil, Act.eval, Array.getD_eq_getD_getElem?, Option.getD_some, e43]; done) | (simp only [List.map_toArray, List.map_cons, List.map_nil, Act.eval, Array.getD_eq_getD_getElem?, Option.getD_some, e43]; rfl)) ?_
   with_reducible refine (impl_varTexts.calls k _ _ y350 t353 _ ?side1 ?side2 A11.out).mono ?_
   (case side1 => repeat (first | exact (Kd.R_reads' HO352.out).2.2 | (with_reducible refine Kd.C_alloc ?_ _) | (with_reducible refine Kd.C_drewN ?_ _) | (with_reducible refine Kd.C_drew ?_)))
   (case side2 => exact (Kd.R_reads' HO352.out).2.1)
   rintro e w35 ⟨rfl, hb⟩
   refine ⟨_, rfl, ?_⟩
   replace HO339 := Aside0.mk (Kd.R_below z10_3 hb)
   replace HO344 := Aside0.mk (Kd.R_below z10_9 hb)
   replace HO348 := Aside0.mk (Kd.R_below z10_10 hb)
   replace HO352 := Aside0.mk (Kd.R_below (by (with_reducible repeat (first | apply Kd.R_alloc | apply Kd.R_drewN | apply Kd.R_drew)); exact HO352.out) hb)
   replace BK335 := bb_ BK335 z10_2 hb
   replace HB := Aside0.mk (below_step z10_0 hb)
   (try clear hb)
   (try clear hb2)
   (try clear hk)
   (try clear hi)
   refine hK.out _ _ ⟨v343, v347, .slice Ao34 y350.length co34, (by rw [ha.out]; exact putSel_upk 13 hb_ rfl rfl rfl), z10_3, z10_2, z10_0, fun _ => z10_9, fun _ => z10_10, fun _ => (by (with_reducible repeat (first | apply Kd.R_alloc | apply Kd.R_drewN | apply Kd.R_drew)); exact HO352.out)⟩
  refine steps_cons ?_ ?_
  ·
   rintro b a w' ⟨v343, v347, v351, ha, Q_HO339, Q_BK335, Q_HB, Q_HO344, Q_HO348, Q_HO352⟩ hb_ hon hoff
   refine ⟨_, rfl, fun K hK => ?_⟩
   have e34 : a.tmps[34]? = some (.string (((t340 ++ t341) ++ t345) ++ t349)) := by rw [ha]; exact putSel_on (e := (12, 34, .string (((t340 ++ t341) ++ t345) ++ t349))) 8 rfl rfl (hon 12 z10_4) rfl
   have e44 : a.tmps[44]? = some (.string t353) := by rw [ha]; exact putSel_on (e := (22, 44, .string t353)) 13 rfl rfl (hon 22 z10_4) rfl
   replace ha := Aside0.mk ha
   have HO339 := Aside0.mk Q_HO339
   have BK335 := Aside0.mk Q_BK335
   have HB := Aside0.mk Q_HB
   have HO344 := Aside0.mk (Q_HO344 (hon 3 z10_4))
   have HO348 := Aside0.mk (Q_HO348 (hon 10 z10_4))
   have HO352 := Aside0.mk (Q_HO352 (hon 21 z10_4))
   refine value_ (w1 := w') (v := .string ((((t340 ++ t341) ++ t345) ++ t349) ++ t353)) (by rfl) rfl ?_ ?_
   ·
    go_simp
    (try simp only [i64_w])
    try rfl
   refine hK.out _ _ ⟨v343, v347, v351, (by rw [ha.out]; exact putSel_upk 14 hb_ rfl rfl rfl), Q_HO339, Q_BK335, Q_HB, Q_HO344, Q_HO348, Q_HO352⟩
  refine steps_cons ?_ ?_
  ·
   rintro b a w' ⟨v343, v347, v351, ha, Q_HO339, Q_BK335, Q_HB, Q_HO344, Q_HO348, Q_HO352⟩ hb_ hon hoff
   refine ⟨_, rfl, fun K hK => ?_⟩
   have e45 : a.tmps[45]? = some (.string ((((t340 ++ t341) ++ t345) ++ t349) ++ t353)) := by rw [ha]; exact putSel_on (e := (23, 45, .string ((((t340 ++ t341) ++ t345) ++ t349) ++ t353))) 14 rfl rfl (hon 23 z10_4) rfl
   replace ha := Aside0.mk ha
   have HO339 := Aside0.mk Q_HO339
   have BK335 := Aside0.mk Q_BK335
   have HB := Aside0.mk Q_HB
   have HO344 := Aside0.mk (Q_HO344 (hon 3 z10_4))
   have HO348 := Aside0.mk (Q_HO348 (hon 10 z10_4))
   have HO352 := Aside0.mk (Q_HO352 (hon 21 z10_4))
   refine value_ (w1 := w') (v := .string ((((t340 ++ t341) ++ t345) ++ t349) ++ t353)) (by rfl) rfl ?_ ?_
   ·
    go_simp
    (try simp only [i64_w])
    try rfl
   refine hK.out _ _ ⟨v343, v347, v351, (by rw [ha.out]; exact putSel_upk 15 hb_ rfl rfl rfl), Q_HO339, Q_BK335, Q_HB, Q_HO344, Q_HO348, Q_HO352⟩
  refine steps_cons ?_ ?_
  ·
   rintro b a w' ⟨v343, v347, v351, ha, Q_HO339, Q_BK335, Q_HB, Q_HO344, Q_HO348, Q_HO352⟩ hb_ hon hoff
   refine ⟨_, rfl, fun K hK => ?_⟩
   replace ha := Aside0.mk ha
   have HO339 := Aside0.mk Q_HO339
   have BK335 := Aside0.mk Q_BK335
   have HB := Aside0.mk Q_HB
   have HO344 := Aside0.mk (Q_HO344 (hon 3 z10_4))
   have HO348 := Aside0.mk (Q_HO348 (hon 10 z10_4))
   have HO352 := Aside0.mk (Q_HO352 (hon 21 z10_4))
   refine value_ (w1 := w') (v := .bool true) (by rfl) rfl ?_ ?_
   ·
    go_simp
    (try simp only [i64_w])
    try rfl
   refine hK.out _ _ ⟨v343, v347, v351, (by rw [ha.out]; exact putSel_upk 16 hb_ rfl rfl rfl), Q_HO339, Q_BK335, Q_HB, Q_HO344, Q_HO348, Q_HO352⟩
  exact steps_nil
 rintro b a w35 hall ⟨v343, v347, v351, ha, Q_HO339, Q_BK335, Q_HB, Q_HO344, Q_HO348, Q_HO352⟩
 clear BK335 HB HO339
 have hb2_ := hall 2 z10_4
 have hb3_ := hall 3 z10_4
 have hb4_ := hall 4 z10_4
 have hb5_ := hall 5 z10_4
 have hb7_ := hall 7 z10_4
 have hb9_ := hall 9 z10_4
 have hb10_ := hall 10 z10_4
 have hb11_ := hall 11 z10_4
 have hb12_ := hall 12 z10_4
 have hb14_ := hall 14 z10_4
 have hb17_ := hall 17 z10_4
 have hb20_ := hall 20 z10_4
 have hb21_ := hall 21 z10_4
 have hb22_ := hall 22 z10_4
 have hb23_ := hall 23 z10_4
 have hb24_ := hall 24 z10_4
 have hb25_ := hall 25 z10_4
 subst ha
 simp only [putSel, hb2_, hb3_, hb4_, hb5_, hb7_, hb9_, hb10_, hb11_, hb12_, hb14_, hb17_, hb20_, hb21_, hb22_, hb23_, hb24_, hb25_, if_true, Act.put, List.setIfInBounds_toArray, List.set_cons_zero, List.set_cons_succ]
 have HO339 := Aside0.mk Q_HO339
 clear Q_HO339
 have BK335 := Aside0.mk Q_BK335
 clear Q_BK335
 have HB := Aside0.mk Q_HB
 clear Q_HB
 have HO344 := Aside0.mk (Q_HO344 hb3_)
 clear Q_HO344
 have HO348 := Aside0.mk (Q_HO348 hb10_)
 clear Q_HO348
 have HO352 := Aside0.mk (Q_HO352 hb21_)
 clear Q_HO352
 clear hall hb2_ hb3_ hb4_ hb5_ hb7_ hb9_ hb10_ hb11_ hb12_ hb14_ hb17_ hb20_ hb21_ hb22_ hb23_ hb24_ hb25_
 try go_wp2
 go_ret2
 exact ⟨by first | rfl | (simp [errW_none, errW_some] <;> rfl) | (simp [*, errW_none, errW_some] <;> rfl), z10_0⟩
end Go.Proofs.Ythajpckfodhhpaa.QRA
