/- What the functions behind RA compute, and that the program's calls come to just that. Written by a program of this session on the base of the kit's print. No condition. -/
import Derived.Test.YthajpckfodhhpaaVFnActsShort
import Derived.Test.YthajpckfodhhpaaVFnActsQRAx0
import Derived.Test.YthajpckfodhhpaaVFnActsQRAx2
import Derived.Test.YthajpckfodhhpaaVFnActsQRAx5
import Derived.Test.YthajpckfodhhpaaVFnActsQRAx15
namespace Go.Proofs.Ythajpckfodhhpaa.QRA
open Go.RowKit Go.Proofs.Ythajpckfodhhpaa.Short Go.Proofs.YthajpckfodhhpaaW.PrintWords Go.Proofs.YthajpckfodhhpaaW.PrintLast Go.Proofs.YthajpckfodhhpaaW.PrintMore
attribute [local go_sem] max2_int min2_int max_two min_two max_three min_three max_four min_four   -- for this text's walks alone
set_option linter.unusedVariables false
set_option linter.unusedSimpArgs false
theorem z16_10 {P : Prop} (h : P := by kernel_rfl) : P := h
theorem z16_9 {P : Prop} (h : P := by intro w'; go_simp; with_reducible rfl) : P := h
theorem z16_8 {P : Prop} (h : P := by (with_reducible repeat (first | apply Kd.R_alloc | apply Kd.R_drewN | apply Kd.R_drew)); exact HO502.out) : P := h
theorem z16_7 {P : Prop} (h : P := by repeat (first | (with_reducible first | exact HI493.out | apply IsS74.alloc | apply IsS74.drewN | apply IsS74.drew | apply IsS74.set_1 | apply IsS74.set_2) | exact HI493.out)) : P := h
theorem z16_6 {P : Prop} (h : P := by first | rfl | (simp [errW_none, errW_some] <;> rfl) | (simp [*, errW_none, errW_some] <;> rfl)) : P := h
theorem z16_5 {P : Prop} (h : P := by repeat (first | (with_reducible first | exact HI0.out | apply IsS74.alloc | apply IsS74.drewN | apply IsS74.drew | apply IsS74.set_1 | apply IsS74.set_2) | exact HI0.out)) : P := h
theorem z16_4 {P : Prop} (h : P := by repeat (first | (with_reducible first | exact HB.out | apply below_alloc | apply pw_below_drewN | apply below_drew1 | refine below_set ?_ (IsS74.ge HI0.out)) | exact HB.out)) : P := h
theorem z16_3 {P : Prop} (h : P := by simp only [Act.put, List.setIfInBounds_toArray, List.set_cons_zero, List.set_cons_succ, i64_w, i32_w]; rfl) : P := h
theorem z16_2 {P : Prop} (h : P := by repeat (first | (with_reducible first | exact HK.out | apply KeepBut.set_ | apply keep_drewN | apply keep_drew | apply keep_alloc) | exact HK.out)) : P := h
theorem z16_1 {P : Prop} (h : P := by repeat (first | (with_reducible first | exact HB.out | apply below_alloc | apply pw_below_drewN | apply below_drew1 | refine below_set ?_ (IsS74.ge HI493.out)) | exact HB.out)) : P := h
theorem z16_0 {P : Prop} (h : P := by first | rfl | (simp only [List.map_toArray, List.map_cons, List.map_nil]; first | done | rfl)) : P := h
abbrev mk16_0 : Array Bool := mb 12 0
abbrev mk16_1 : Array Bool := mb 12 1
abbrev mk16_2 : Array Bool := mb 12 3
abbrev mk16_3 : Array Bool := mb 12 7
abbrev mk16_4 : Array Bool := mb 12 15
abbrev mk16_5 : Array Bool := mb 12 79
abbrev mk16_6 : Array Bool := mb 12 207
abbrev mk16_7 : Array Bool := mb 12 463
abbrev mk16_8 : Array Bool := mb 12 975
abbrev mk16_9 : Array Bool := mb 12 991
abbrev mk16_10 : Array Bool := mb 12 1023
abbrev mk16_11 : Array Bool := mb 12 2047
abbrev mk16_12 : Array Bool := mb 12 4095
theorem z16_13 {P : Prop} (h : P := by repeat (first | (with_reducible first | exact HB.out | apply below_alloc | apply pw_below_drewN | apply below_drew1) | exact HB.out)) : P := h
theorem z16_16 {P : Prop} (h : P := by repeat (first | exact (Kd.R_reads' HO502.out).2.2 | (with_reducible refine Kd.C_alloc ?_ _) | (with_reducible refine Kd.C_drewN ?_ _) | (with_reducible refine Kd.C_drew ?_))) : P := h
def spec_l02Spoilt.j0 : Nat → ByteArray → Bool → List Int → Int → Int → Option (ByteArray × Int × Int)
  | 0, _, _, _, _, _ => none
  | k + 1, x1, x23, x1000, x1001, x1002 => if x23 = true then (if (x1.size : Int) > 0 then ((spec_l01Below.f x1000 x1001 x1002 (x1.size : Int)).bind fun bt484 => (if 0 ≤ bt484.1 then (if bt484.1 ≤ (x1.size : Int) then ((spec_l01Text.f k x1000 bt484.2.1 bt484.2.2 1).bind fun bt487 => (if (x1.extract 0 (bt484.1 : Int).toNat).size + bt487.1.size ≤ 9223372036854775807 then (if 0 ≤ (wrap64 (bt484.1 + 1)) then (if (wrap64 (bt484.1 + 1)) ≤ (x1.size : Int) then (if ((x1.extract 0 (bt484.1 : Int).toNat) ++ bt487.1).size + (x1.extract ((wrap64 (bt484.1 + 1)) : Int).toNat x1.size).size ≤ 9223372036854775807 then (some (((x1.extract 0 (bt484.1 : Int).toNat) ++ bt487.1) ++ (x1.extract ((wrap64 (bt484.1 + 1)) : Int).toNat x1.size), bt487.2.1, bt487.2.2)) else (none)) else (none)) else (none)) else (none))) else (none)) else (none))) else (some (x1, x1001, x1002))) else (some (x1, x1001, x1002))
def spec_l02Spoilt.f (k : Nat) (s0_0 : List Int) (s0_1 : Int) (s0_2 : Int) (a1 : ByteArray) : Option (ByteArray × Int × Int) := (spec_l01Below.f s0_0 s0_1 s0_2 12).bind fun bt475 => (if bt475.1 = 0 then ((spec_l01Text.f k s0_0 bt475.2.1 bt475.2.2 1).bind fun bt478 => (if a1.size + bt478.1.size ≤ 9223372036854775807 then (some (a1 ++ bt478.1, bt478.2.1, bt478.2.2)) else (none))) else (if bt475.1 = 1 then ((spec_l01Below.f s0_0 bt475.2.1 bt475.2.2 (wrap64 ((a1.size : Int) + 1))).bind fun bt481 => (if 0 ≤ bt481.1 then (if bt481.1 ≤ (a1.size : Int) then (some (a1.extract 0 (bt481.1 : Int).toNat, bt481.2.1, bt481.2.2)) else (none)) else (none))) else (if bt475.1 = 2 then (spec_l02Spoilt.j0 k a1 (bt475.1 == 2) s0_0 bt475.2.1 bt475.2.2) else (spec_l02Spoilt.j0 k a1 (bt475.1 == 3) s0_0 bt475.2.1 bt475.2.2))))
def spec_l02Spoilt.T10 : Bool × List (List Nat × List Nat) := (true, [([], []), ([], []), ([0, 1], [0, 1]), ([], []), ([3], [3]), ([2, 4], [2, 4]), ([], []), ([], []), ([7], [7]), ([6, 8], [6, 8]), ([5, 9], [5, 9]), ([10, 4, 0, 1, 2, 3, 4, 5, 6, 7, 8, 9, 10], [10])])
def spec_l02Spoilt.B10 : List Nat := [0, 0, 3, 0, 8, 31, 0, 0, 128, 448, 1023, 2047]
theorem spec_l02Spoilt.tab10 : rtab .any (opsOf Try.f36 10) = spec_l02Spoilt.T10 := by kernel_rfl
theorem spec_l02Spoilt.bits10 : waitsOk spec_l02Spoilt.T10.2 spec_l02Spoilt.B10 = true := by kernel_rfl
set_option maxHeartbeats 8000000 in
set_option maxRecDepth 100000 in
theorem spec_l02Spoilt.calls (k : Nat) (g : Nat) (s0_0 : List Int) (s0_1 : Int) (s0_2 : Int) (a1 : ByteArray) (r1 : ByteArray) (r2 : Int) (r3 : Int) (w0 w : World) (hI : IsS74 w0 w g s0_0 s0_1 s0_2) (hB : Below w0.heap.size w0 w) (h : spec_l02Spoilt.f k s0_0 s0_1 s0_2 a1 = some (r1, r2, r3)) :
  Calls Try.prog 36 #[.pointer (some ⟨g, 0, none⟩), .string a1] w fun e w' => e = .returned (.string r1) ∧ IsS74 w0 w' g s0_0 r2 r3 ∧ Below w0.heap.size w0 w' ∧ KeepBut w w' g none := by
 have HI0 := Aside0.mk hI
 have HK := Aside0.mk (KeepBut.refl w g none)
 have HL := Aside0.mk hB.size
 clear hI
 have HW0 := Aside0.mk hB.size
 have HB := Aside0.mk hB
 clear hB
 have H := h
 unfold spec_l02Spoilt.f at H
 clear h
 replace H := Option.bind_eq_some_iff.mp H
 obtain ⟨⟨t475, t476, t477⟩, A30, H⟩ := H
 (try dsimp only at H)
 have A3 := Aside0.mk A30
 clear A30
 by_cases c4 : t475 = 0
 ·
  rw [if_pos c4] at H
  have c4b0 : (t475 == 0) = true := beq_iff_eq.mpr c4
  have c4b1 : (t475 != 0) = false := bne_eq_false_iff_eq.mpr c4
  clear c4
  replace H := Option.bind_eq_some_iff.mp H
  obtain ⟨⟨t478, t479, t480⟩, A50, H⟩ := H
  (try dsimp only at H)
  have A5 := Aside0.mk A50
  clear A50
  by_cases c6 : a1.size + t478.size ≤ 9223372036854775807
  rotate_left
  ·
   rw [if_neg c6] at H
   exact absurd H (by simp)
  rw [if_pos c6] at H
  have c6b0 := eq_true c6
  have c6b1 : decide (a1.size + t478.size ≤ 9223372036854775807) = true := decide_eq_true c6
  try have c6b2 : (9223372036854775807 < a1.size + t478.size) = False := eq_false (Nat.not_lt.2 c6)
  simp only [Option.some.injEq, Prod.mk.injEq] at H
  obtain ⟨rfl, rfl, rfl⟩ := H
  go_enter Try.func36, Try.ntmps36
  go_wp2_with (first | ((with_reducible refine gate_callee (f := 34) rfl ?_); refine goesL_ (some 7) rfl rfl Try.func34 z16_10 rfl #[.pointer (some ⟨g, 0, none⟩), .int .i64 12] rfl z16_0 ?_; (with_reducible refine (spec_l01Below.calls g s0_0 s0_1 s0_2 12 t475 t476 t477 w0 _ ?side1 ?side2 A3.out).mono ?_); (case side1 => exact z16_5); (case side2 => exact z16_4); rintro e w7 ⟨rfl, hi, hb, hk⟩; refine ⟨_, rfl, ?_⟩; replace HK := Aside0.mk (KeepBut.trans z16_2 hk (.inl rfl)); replace HB := Aside0.mk (hb); replace HI0 := Aside0.mk (hi)) | ((with_reducible refine gate_callee (f := 64) rfl ?_); refine goesL_ (some 12) rfl rfl Try.func64 z16_10 rfl #[.pointer (some ⟨g, 0, none⟩), .int .i64 1] rfl z16_0 ?_; (with_reducible refine (spec_l01Text.calls k g s0_0 t476 t477 1 t478 t479 t480 w0 _ ?side1 ?side2 A5.out).mono ?_); (case side1 => exact z16_5); (case side2 => exact z16_4); rintro e w8 ⟨rfl, hi, hb, hk⟩; refine ⟨_, rfl, ?_⟩; replace HK := Aside0.mk (KeepBut.trans z16_2 hk (.inl rfl)); replace HB := Aside0.mk (hb); replace HI0 := Aside0.mk (hi)))
  go_ret
  exact ⟨z16_6, z16_5, z16_4, z16_2⟩
 rw [if_neg c4] at H
 have c4b0 : (t475 == 0) = false := beq_eq_false_iff_ne.mpr c4
 have c4b1 : (t475 != 0) = true := bne_iff_ne.mpr c4
 by_cases c9 : t475 = 1
 ·
  rw [if_pos c9] at H
  have c9b0 : (t475 == 1) = true := beq_iff_eq.mpr c9
  have c9b1 : (t475 != 1) = false := bne_eq_false_iff_eq.mpr c9
  clear c9
  replace H := Option.bind_eq_some_iff.mp H
  obtain ⟨⟨t481, t482, t483⟩, A100, H⟩ := H
  (try dsimp only at H)
  have A10 := Aside0.mk A100
  clear A100
  by_cases c11 : 0 ≤ t481
  rotate_left
  ·
   rw [if_neg c11] at H
   exact absurd H (by simp)
  rw [if_pos c11] at H
  have c11b0 := eq_true c11
  have c11b1 : decide (0 ≤ t481) = true := decide_eq_true c11
  clear c11
  by_cases c12 : t481 ≤ (a1.size : Int)
  rotate_left
  ·
   rw [if_neg c12] at H
   exact absurd H (by simp)
  rw [if_pos c12] at H
  have c12b0 := eq_true c12
  have c12b1 : decide (t481 ≤ (a1.size : Int)) = true := decide_eq_true c12
  clear c12
  simp only [Option.some.injEq, Prod.mk.injEq] at H
  obtain ⟨rfl, rfl, rfl⟩ := H
  go_enter Try.func36, Try.ntmps36
  go_wp2_with (first | ((with_reducible refine gate_callee (f := 34) rfl ?_); refine goesL_ (some 7) rfl rfl Try.func34 z16_10 rfl #[.pointer (some ⟨g, 0, none⟩), .int .i64 12] rfl z16_0 ?_; (with_reducible refine (spec_l01Below.calls g s0_0 s0_1 s0_2 12 t475 t476 t477 w0 _ ?side1 ?side2 A3.out).mono ?_); (case side1 => exact z16_5); (case side2 => exact z16_4); rintro e w13 ⟨rfl, hi, hb, hk⟩; refine ⟨_, rfl, ?_⟩; replace HK := Aside0.mk (KeepBut.trans z16_2 hk (.inl rfl)); replace HB := Aside0.mk (hb); replace HI0 := Aside0.mk (hi)) | ((with_reducible refine gate_callee (f := 34) rfl ?_); refine goesL_ (some 21) rfl rfl Try.func34 z16_10 rfl #[.pointer (some ⟨g, 0, none⟩), .int .i64 (wrap64 ((a1.size : Int) + 1))] rfl z16_0 ?_; (with_reducible refine (spec_l01Below.calls g s0_0 t476 t477 (wrap64 ((a1.size : Int) + 1)) t481 t482 t483 w0 _ ?side1 ?side2 A10.out).mono ?_); (case side1 => exact z16_5); (case side2 => exact z16_4); rintro e w14 ⟨rfl, hi, hb, hk⟩; refine ⟨_, rfl, ?_⟩; replace HK := Aside0.mk (KeepBut.trans z16_2 hk (.inl rfl)); replace HB := Aside0.mk (hb); replace HI0 := Aside0.mk (hi)))
  go_ret
  exact ⟨z16_6, z16_5, z16_4, z16_2⟩
 rw [if_neg c9] at H
 have c9b0 : (t475 == 1) = false := beq_eq_false_iff_ne.mpr c9
 have c9b1 : (t475 != 1) = true := bne_iff_ne.mpr c9
 have HC15 := Aside0.mk H
 clear H
 go_enter Try.func36, Try.ntmps36
 go_upto_if 23 with (first | ((with_reducible refine gate_callee (f := 34) rfl ?_); refine goesL_ (some 7) rfl rfl Try.func34 z16_10 rfl #[.pointer (some ⟨g, 0, none⟩), .int .i64 12] rfl z16_0 ?_; (with_reducible refine (spec_l01Below.calls g s0_0 s0_1 s0_2 12 t475 t476 t477 w0 _ ?side1 ?side2 A3.out).mono ?_); (case side1 => exact z16_5); (case side2 => exact z16_4); rintro e w16 ⟨rfl, hi, hb, hk⟩; refine ⟨_, rfl, ?_⟩; replace HK := Aside0.mk (KeepBut.trans z16_2 hk (.inl rfl)); replace HB := Aside0.mk (hb); replace HI0 := Aside0.mk (hi)))
 (try simp only [Act.put, List.setIfInBounds_toArray, List.set_cons_zero, List.set_cons_succ])
 go_cut [23] (fun v23 wc => ∃ (kq : Nat) (x23_14 : Bool), v23 = .bool x23_14 ∧ Aside0 (spec_l02Spoilt.j0 kq a1 x23_14 s0_0 t476 t477 = some (r1, r2, r3)) ∧ Aside0 (kq ≤ k) ∧ Aside0 (IsS74 w0 wc g s0_0 t476 t477) ∧ Aside0 (KeepBut w wc g none) ∧ Aside0 (Below w0.heap.size w0 wc))
 case first =>
  have H := HC15.out
  clear HC15
  by_cases c17 : t475 = 2
  rotate_left
  ·
   rw [if_neg c17] at H
   have c17b0 : (t475 == 2) = false := beq_eq_false_iff_ne.mpr c17
   have c17b1 : (t475 != 2) = true := bne_iff_ne.mpr c17
   (first | rw [c17b0] | (simp only [i64_w, i32_w]; rw [c17b0]) | skip)
   have H' := Aside0.mk H
   clear H
   go_wp2
   go_meet
   case rel => exact ⟨_, ((t475 == 3)), (by first | rfl | (simp; done) | (simp [*]; done)), H', ⟨by first | omega | exact Nat.le_refl _⟩, ⟨z16_5⟩, ⟨z16_2⟩, ⟨z16_4⟩⟩
  rw [if_pos c17] at H
  have c17b0 : (t475 == 2) = true := beq_iff_eq.mpr c17
  have c17b1 : (t475 != 2) = false := bne_eq_false_iff_eq.mpr c17
  clear c17
  (first | rw [c17b0] | (simp only [i64_w, i32_w]; rw [c17b0]) | skip)
  have H' := Aside0.mk H
  clear H
  go_wp2
  go_meet
  case rel => exact ⟨_, ((t475 == 2)), (by first | rfl | (simp; done) | (simp [*]; done)), H', ⟨by first | omega | exact Nat.le_refl _⟩, ⟨z16_5⟩, ⟨z16_2⟩, ⟨z16_4⟩⟩
 case rest =>
  clear HC15
  try clear c1
  try clear p2
  try clear c3
  try clear c4
  try clear c4b0
  try clear c4b1
  try clear c6
  try clear c6b0
  try clear c6b1
  try clear c6b2
  try clear p6
  try clear c9
  try clear c9b0
  try clear c9b1
  try clear c11
  try clear c11b0
  try clear c11b1
  try clear c12
  try clear c12b0
  try clear c12b1
  try clear c17
  try clear c17b0
  try clear c17b1
  obtain ⟨kq, x23_14, rfl, HA, HJ14, HI0, HK, HB⟩ := hcut
  cases kq with
  | zero => exact absurd HA.out (by simp [spec_l02Spoilt.j0])
  | succ kj14 =>
   have H := HA.out
   clear HA
   simp only [spec_l02Spoilt.j0] at H
   by_cases c18 : x23_14 = true
   rotate_left
   ·
    replace c18 := Bool.eq_false_iff.mpr c18
    subst c18
    rw [if_neg (show ¬ (false = true) by decide)] at H
    simp only [Option.some.injEq, Prod.mk.injEq] at H
    obtain ⟨rfl, rfl, rfl⟩ := H
    go_wp2
    go_ret
    exact ⟨z16_6, z16_5, z16_4, z16_2⟩
   subst c18
   rw [if_pos rfl] at H
   by_cases c19 : (a1.size : Int) > 0
   rotate_left
   ·
    rw [if_neg c19] at H
    have c19b0 : decide (0 < (a1.size : Int)) = false := decide_eq_false c19
    have c19b1 : decide (0 < a1.size) = false := decide_eq_false (by omega)
    clear c19
    simp only [Option.some.injEq, Prod.mk.injEq] at H
    obtain ⟨rfl, rfl, rfl⟩ := H
    go_wp2
    go_ret
    exact ⟨z16_6, z16_5, z16_4, z16_2⟩
   rw [if_pos c19] at H
   have c19b0 : decide (0 < (a1.size : Int)) = true := decide_eq_true c19
   have c19b1 : decide (0 < a1.size) = true := decide_eq_true (by omega)
   clear c19
   replace H := Option.bind_eq_some_iff.mp H
   obtain ⟨⟨t484, t485, t486⟩, A200, H⟩ := H
   (try dsimp only at H)
   have A20 := Aside0.mk A200
   clear A200
   by_cases c21 : 0 ≤ t484
   rotate_left
   ·
    rw [if_neg c21] at H
    exact absurd H (by simp)
   rw [if_pos c21] at H
   have c21b0 := eq_true c21
   have c21b1 : decide (0 ≤ t484) = true := decide_eq_true c21
   clear c21
   by_cases c22 : t484 ≤ (a1.size : Int)
   rotate_left
   ·
    rw [if_neg c22] at H
    exact absurd H (by simp)
   rw [if_pos c22] at H
   have c22b0 := eq_true c22
   have c22b1 : decide (t484 ≤ (a1.size : Int)) = true := decide_eq_true c22
   clear c22
   replace H := Option.bind_eq_some_iff.mp H
   obtain ⟨⟨t487, t488, t489⟩, A230, H⟩ := H
   (try dsimp only at H)
   have A23 := Aside0.mk A230
   clear A230
   by_cases c24 : (a1.extract 0 (t484 : Int).toNat).size + t487.size ≤ 9223372036854775807
   rotate_left
   ·
    rw [if_neg c24] at H
    exact absurd H (by simp)
   rw [if_pos c24] at H
   have c24b0 := eq_true c24
   have c24b1 : decide ((a1.extract 0 (t484 : Int).toNat).size + t487.size ≤ 9223372036854775807) = true := decide_eq_true c24
   try have c24b2 : (9223372036854775807 < (a1.extract 0 (t484 : Int).toNat).size + t487.size) = False := eq_false (Nat.not_lt.2 c24)
   obtain ⟨ji25, hji25⟩ : ∃ j_ : Int, (wrap64 (t484 + 1)) = j_ := ⟨_, rfl⟩
   first | rw [hji25] at H | simp only [hji25] at H
   (try rw [hji25] at A20)
   (try rw [hji25] at A23)
   have hji25w : (IntKind.i64.wrap (t484 + 1)) = ji25 := (i64_w _).trans hji25
   by_cases c26 : 0 ≤ (ji25)
   rotate_left
   ·
    rw [if_neg c26] at H
    exact absurd H (by simp)
   rw [if_pos c26] at H
   have c26b0 := eq_true c26
   have c26b1 : decide (0 ≤ (ji25)) = true := decide_eq_true c26
   clear c26
   by_cases c27 : (ji25) ≤ (a1.size : Int)
   rotate_left
   ·
    rw [if_neg c27] at H
    exact absurd H (by simp)
   rw [if_pos c27] at H
   have c27b0 := eq_true c27
   have c27b1 : decide ((ji25) ≤ (a1.size : Int)) = true := decide_eq_true c27
   clear c27
   by_cases c28 : ((a1.extract 0 (t484 : Int).toNat) ++ t487).size + (a1.extract ((ji25) : Int).toNat a1.size).size ≤ 9223372036854775807
   rotate_left
   ·
    rw [if_neg c28] at H
    exact absurd H (by simp)
   rw [if_pos c28] at H
   have c28b0 := eq_true c28
   have c28b1 : decide (((a1.extract 0 (t484 : Int).toNat) ++ t487).size + (a1.extract ((ji25) : Int).toNat a1.size).size ≤ 9223372036854775807) = true := decide_eq_true c28
   try have c28b2 : (9223372036854775807 < ((a1.extract 0 (t484 : Int).toNat) ++ t487).size + (a1.extract ((ji25) : Int).toNat a1.size).size) = False := eq_false (Nat.not_lt.2 c28)
   try have c28b3 := c28b2
   try simp only [ByteArray.size_append] at c28b3
   simp only [Option.some.injEq, Prod.mk.injEq] at H
   obtain ⟨rfl, rfl, rfl⟩ := H
   try go_wp2_with (first | ((with_reducible refine gate_callee (f := 34) rfl ?_); refine goesL_ (some 32) rfl rfl Try.func34 z16_10 rfl #[.pointer (some ⟨g, 0, none⟩), .int .i64 (a1.size : Int)] rfl z16_0 ?_; (with_reducible refine (spec_l01Below.calls g s0_0 t476 t477 (a1.size : Int) t484 t485 t486 w0 _ ?side1 ?side2 A20.out).mono ?_); (case side1 => exact z16_5); (case side2 => exact z16_4); rintro e w29 ⟨rfl, hi, hb, hk⟩; refine ⟨_, rfl, ?_⟩; replace HK := Aside0.mk (KeepBut.trans z16_2 hk (.inl rfl)); replace HB := Aside0.mk (hb); replace HI0 := Aside0.mk (hi)))
   replace HI0 := Aside0.mk (IsS74.drew HI0.out)
   replace HK := Aside0.mk (keep_drew HK.out)
   replace HB := Aside0.mk (below_drew1 HB.out)
   refine start_ (n := 12) (S := fun w' => True) (ds := []) mk16_0 z16_10 rfl rfl trivial (fun hHeld => ?_); refine with_tabW spec_l02Spoilt.tab10 spec_l02Spoilt.bits10 (fun HT_ HW_ => ?_)
   generalize w29.drew = w30 at HI0 HK HB hHeld ⊢
   refine p_ (i := 0) (N := some 33) mk16_1 ?_ (hv := z16_9) (ha := z16_3)
   refine p_ (i := 1) (N := some 34) mk16_2 ?_ (hv := z16_9) (ha := z16_3)
   refine p_ (i := 2) (N := some 35) mk16_3 ?_ (hv := z16_9) (ha := z16_3)
   refine p_ (i := 3) (N := some 36) mk16_4 ?_ (hv := z16_9) (ha := z16_3)
   refine p_ (i := 6) (N := some 39) mk16_5 ?_ (hv := z16_9) (ha := z16_3)
   refine p_ (i := 7) (N := some 40) mk16_6 ?_ (hv := z16_9) (ha := z16_3)
   refine p_ (i := 8) (N := some 41) mk16_7 ?_ (hv := z16_9) (ha := z16_3)
   refine p_ (i := 9) (N := some 42) mk16_8 ?_ (hv := z16_9) (ha := z16_3)
   refine o_ (i := 4) (N := some 37) mk16_9 (fun K hK => ?_)
   refine goes_ Try.func64 z16_10 rfl #[.pointer (some ⟨g, 0, none⟩), .int .i64 1] (by rfl) rfl rfl z16_0 ?_
   with_reducible refine (spec_l01Text.calls kj14 g s0_0 t485 t486 1 t487 t488 t489 w0 _ ?side1 ?side2 A23.out).mono ?_
   (case side1 => exact z16_5)
   (case side2 => exact z16_4)
   rintro e w31 ⟨rfl, hi, hb, hk⟩
   refine ⟨_, rfl, ?_⟩
   replace HK := Aside0.mk (KeepBut.trans z16_2 hk (.inl rfl))
   replace HB := Aside0.mk (hb)
   replace HI0 := Aside0.mk (hi)
   (try clear hb)
   (try clear hb2)
   (try clear hk)
   (try clear hi)
   refine hK.out _ _ trivial (fun hHeld => ?_)
   clear hK K
   refine n_ (N := some 37) ?_
   have z24 : (9223372036854775807 < t484.toNat + t487.size) = False := eq_false (by have h1 := c24; have h2 := of_eq_true c22b0; have h3 := of_eq_true c21b0; simp only [ByteArray.size_extract] at h1; omega)
   have z28 : (9223372036854775807 < t484.toNat + t487.size + (a1.size - ji25.toNat)) = False := eq_false (by have h1 := c28; have h2 := of_eq_true c22b0; have h3 := of_eq_true c21b0; simp only [ByteArray.size_append, ByteArray.size_extract] at h1; omega)
   refine p_ (i := 5) (N := some 38) mk16_10 ?_ (hv := z16_9) (ha := z16_3)
   refine p_ (i := 10) (N := some 43) mk16_11 ?_ (hv := z16_9) (ha := z16_3)
   refine p_ (i := 11) (N := some 4) mk16_12 ?_ (hv := z16_9) (ha := z16_3)
   refine done_ (done_of HT_.out z16_10) ?_
   try go_wp2
   go_ret
   exact ⟨by first | rfl | (simp [errW_none, errW_some] <;> rfl) | (simp only [← hji25]; first | rfl | (simp [errW_none, errW_some] <;> rfl)) | (simp [*, errW_none, errW_some] <;> rfl), z16_5, z16_4, z16_2⟩
def spec_DrawReadAct.f (k : Nat) (l0 : List Int) : Option (ByteArray × Int) := (spec_l01New.f k l0).bind fun bt490 => ((spec_l01Below.f bt490.1 bt490.2.1 bt490.2.2 6).bind fun bt494 => ((spec_l05Any.f k bt490.1 bt494.2.1 bt494.2.2).bind fun bt497 => ((spec_ActText.f k bt497.1 bt497.2.1 bt497.2.2.1 bt497.2.2.2.1 bt497.2.2.2.2.1 bt497.2.2.2.2.2.1 bt497.2.2.2.2.2.2.1 bt497.2.2.2.2.2.2.2.1 bt497.2.2.2.2.2.2.2.2.1 bt497.2.2.2.2.2.2.2.2.2.1).bind fun bt511 => (if bt494.1 = 0 then ((spec_l02Spoilt.f k bt490.1 bt497.2.2.2.2.2.2.2.2.2.2.1 bt497.2.2.2.2.2.2.2.2.2.2.2 bt511.1).bind fun bt513 => (some (bt513.1, 0))) else (if bt494.1 = 1 then (if 2 + bt511.1.size ≤ 9223372036854775807 then (if ((⟨#[120, 121]⟩ : ByteArray) ++ bt511.1).size + 1 ≤ 9223372036854775807 then (some (((⟨#[120, 121]⟩ : ByteArray) ++ bt511.1) ++ (⟨#[122]⟩ : ByteArray), 2)) else (none)) else (none)) else (if bt494.1 = 2 then ((spec_l01Below.f bt490.1 bt497.2.2.2.2.2.2.2.2.2.2.1 bt497.2.2.2.2.2.2.2.2.2.2.2 5).bind fun bt516 => (some (bt511.1, wrap64 (bt516.1 - 1)))) else (some (bt511.1, 0))))))))
set_option maxHeartbeats 8000000 in
set_option maxRecDepth 100000 in
theorem spec_DrawReadAct.calls (k : Nat) (A0 : Option Addr) (c0 : Nat) (l0 : List Int) (r1 : ByteArray) (r2 : Int) (w : World) (hr0 : Kd.C (Kd.int .u8) w A0 l0.length l0) (hc0 : l0.length ≤ c0) (h : spec_DrawReadAct.f k l0 = some (r1, r2)) :
  Calls Try.prog 11 #[.slice A0 l0.length c0] w fun e w' => e = .returned (.tuple #[.string r1, .int .i64 r2]) ∧ Below w.heap.size w w' := by
 have HR0 := Aside0.mk hr0
 have HC0 := Aside0.mk hc0
 clear hr0 hc0
 have HB := Aside0.mk (Below.refl w.heap.size w)
 have H := h
 unfold spec_DrawReadAct.f at H
 clear h
 replace H := Option.bind_eq_some_iff.mp H
 obtain ⟨⟨t490, t491, t492⟩, A20, H⟩ := H
 (try dsimp only at H)
 have A2 := Aside0.mk A20
 clear A20
 replace H := Option.bind_eq_some_iff.mp H
 obtain ⟨⟨t494, t495, t496⟩, A30, H⟩ := H
 (try dsimp only at H)
 have A3 := Aside0.mk A30
 clear A30
 replace H := Option.bind_eq_some_iff.mp H
 obtain ⟨⟨t497, t498, t499, t500, t503, t504, t505, t506, t507, t508, t509, t510⟩, A40, H⟩ := H
 (try dsimp only at H)
 have A4 := Aside0.mk A40
 clear A40
 replace H := Option.bind_eq_some_iff.mp H
 obtain ⟨⟨t511, t512⟩, A50, H⟩ := H
 (try dsimp only at H)
 have A5 := Aside0.mk A50
 clear A50
 by_cases c6 : t494 = 0
 ·
  rw [if_pos c6] at H
  have c6b0 : (t494 == 0) = true := beq_iff_eq.mpr c6
  have c6b1 : (t494 != 0) = false := bne_eq_false_iff_eq.mpr c6
  clear c6
  replace H := Option.bind_eq_some_iff.mp H
  obtain ⟨⟨t513, t514, t515⟩, A70, H⟩ := H
  (try dsimp only at H)
  have A7 := Aside0.mk A70
  clear A70
  simp only [Option.some.injEq, Prod.mk.injEq] at H
  obtain ⟨rfl, rfl⟩ := H
  go_enter Try.func11, Try.ntmps11
  go_wp2_with (first | ((with_reducible refine gate_callee (f := 27) rfl ?_); refine goesL_ (some 9) rfl rfl Try.func27 z16_10 rfl #[.slice A0 l0.length c0] rfl z16_0 ?_; (with_reducible refine (spec_l01New.calls k _ _ l0 t490 t491 t492 w _ ?side1 ?side2 ?side3 A2.out).mono ?_); (case side1 => exact z16_13); (case side2 => exact HR0.out); (case side3 => exact HC0.out); rintro e w8 ⟨g493, rfl, hi, hb, hb2⟩; refine ⟨_, rfl, ?_⟩; replace HB := Aside0.mk (hb); have HI493 := Aside0.mk (hi)) | ((with_reducible refine gate_callee (f := 34) rfl ?_); refine goesL_ (some 11) rfl rfl Try.func34 z16_10 rfl #[.pointer (some ⟨g493, 0, none⟩), .int .i64 6] rfl z16_0 ?_; (with_reducible refine (spec_l01Below.calls g493 t490 t491 t492 6 t494 t495 t496 w _ ?side1 ?side2 A3.out).mono ?_); (case side1 => exact z16_7); (case side2 => exact z16_1); rintro e w9 ⟨rfl, hi, hb, hk⟩; refine ⟨_, rfl, ?_⟩; replace HB := Aside0.mk (hb); replace HI493 := Aside0.mk (hi)) | ((with_reducible refine gate_callee (f := 26) rfl ?_); refine goesL_ (some 14) rfl rfl Try.func26 z16_10 rfl #[.pointer (some ⟨g493, 0, none⟩)] rfl z16_0 ?_; (with_reducible refine (spec_l05Any.calls k g493 t490 t495 t496 t497 t498 t499 t500 t503 t504 t505 t506 t507 t508 t509 t510 w _ ?side1 ?side2 A4.out).mono ?_); (case side1 => exact z16_7); (case side2 => exact z16_1); rintro e w10 ⟨v501, rfl, ho0, hi, hb, hk⟩; refine ⟨_, rfl, ?_⟩; have HO502 := Aside0.mk (Kd.R_lower ho0 (below_size z16_1)); replace HB := Aside0.mk (hb); replace HI493 := Aside0.mk (hi); (try clear ho0); obtain ⟨Ao11, co11, eo11⟩ := Kd.R_slice HO502.out; subst eo11) | ((with_reducible refine gate_callee (f := 35) rfl ?_); refine goesL_ (some 15) rfl rfl Try.func35 z16_10 rfl #[.agg #[.int .i64 t497, .int .i64 t498, .int .i64 t499, .slice Ao11 t500.length co11, .int .i64 t503, .string t504, .string t505, .int .i64 t506, .int .i64 t507, .int .i64 t508]] rfl z16_0 ?_; (with_reducible refine (spec_ActText.calls k t497 t498 t499 _ _ t500 t503 t504 t505 t506 t507 t508 t511 t512 _ ?side1 ?side2 A5.out).mono ?_); (case side1 => exact z16_16); (case side2 => exact (Kd.R_reads' HO502.out).2.1); rintro e w12 ⟨rfl, hb⟩; refine ⟨_, rfl, ?_⟩; replace HO502 := Aside0.mk (Kd.R_below z16_8 hb); replace HB := Aside0.mk (below_step z16_1 hb); replace HI493 := Aside0.mk (IsS74.below z16_7 hb)) | ((with_reducible refine gate_callee (f := 36) rfl ?_); refine goesL_ (some 23) rfl rfl Try.func36 z16_10 rfl #[.pointer (some ⟨g493, 0, none⟩), .string t511] rfl z16_0 ?_; (with_reducible refine (spec_l02Spoilt.calls k g493 t490 t509 t510 t511 t513 t514 t515 w _ ?side1 ?side2 A7.out).mono ?_); (case side1 => exact z16_7); (case side2 => exact z16_1); rintro e w13 ⟨rfl, hi, hb, hk⟩; refine ⟨_, rfl, ?_⟩; replace HO502 := Aside0.mk (Kd.R_mono (Kd.R_keep (IsS74.apart (show IsS74 w _ g493 t490 t509 t510 from by repeat (first | (with_reducible first | exact HI493.out | apply IsS74.alloc | apply IsS74.drewN | apply IsS74.drew | apply IsS74.set_1 | apply IsS74.set_2) | exact HI493.out)) z16_8 (by decide)) hk (fun _ h => h.2)) (fun _ h => h.1)); replace HB := Aside0.mk (hb); replace HI493 := Aside0.mk (hi)))
  go_ret2
  exact ⟨z16_6, z16_1⟩
 rw [if_neg c6] at H
 have c6b0 : (t494 == 0) = false := beq_eq_false_iff_ne.mpr c6
 have c6b1 : (t494 != 0) = true := bne_iff_ne.mpr c6
 by_cases c14 : t494 = 1
 ·
  rw [if_pos c14] at H
  have c14b0 : (t494 == 1) = true := beq_iff_eq.mpr c14
  have c14b1 : (t494 != 1) = false := bne_eq_false_iff_eq.mpr c14
  clear c14
  by_cases c15 : 2 + t511.size ≤ 9223372036854775807
  rotate_left
  ·
   rw [if_neg c15] at H
   exact absurd H (by simp)
  rw [if_pos c15] at H
  have c15b0 := eq_true c15
  have c15b1 : decide (2 + t511.size ≤ 9223372036854775807) = true := decide_eq_true c15
  try have c15b2 : (9223372036854775807 < 2 + t511.size) = False := eq_false (Nat.not_lt.2 c15)
  by_cases c16 : ((⟨#[120, 121]⟩ : ByteArray) ++ t511).size + 1 ≤ 9223372036854775807
  rotate_left
  ·
   rw [if_neg c16] at H
   exact absurd H (by simp)
  rw [if_pos c16] at H
  have c16b0 := eq_true c16
  have c16b1 : decide (((⟨#[120, 121]⟩ : ByteArray) ++ t511).size + 1 ≤ 9223372036854775807) = true := decide_eq_true c16
  try have c16b2 : (9223372036854775807 < ((⟨#[120, 121]⟩ : ByteArray) ++ t511).size + 1) = False := eq_false (Nat.not_lt.2 c16)
  try have c16b3 := c16b2
  try simp only [ByteArray.size_append] at c16b3
  try have c16b4 := c16b3
  try simp only [show (⟨#[120, 121]⟩ : ByteArray).size = 2 from rfl] at c16b4
  simp only [Option.some.injEq, Prod.mk.injEq] at H
  obtain ⟨rfl, rfl⟩ := H
  go_enter Try.func11, Try.ntmps11
  go_wp2_with (first | ((with_reducible refine gate_callee (f := 27) rfl ?_); refine goesL_ (some 9) rfl rfl Try.func27 z16_10 rfl #[.slice A0 l0.length c0] rfl z16_0 ?_; (with_reducible refine (spec_l01New.calls k _ _ l0 t490 t491 t492 w _ ?side1 ?side2 ?side3 A2.out).mono ?_); (case side1 => exact z16_13); (case side2 => exact HR0.out); (case side3 => exact HC0.out); rintro e w17 ⟨g493, rfl, hi, hb, hb2⟩; refine ⟨_, rfl, ?_⟩; replace HB := Aside0.mk (hb); have HI493 := Aside0.mk (hi)) | ((with_reducible refine gate_callee (f := 34) rfl ?_); refine goesL_ (some 11) rfl rfl Try.func34 z16_10 rfl #[.pointer (some ⟨g493, 0, none⟩), .int .i64 6] rfl z16_0 ?_; (with_reducible refine (spec_l01Below.calls g493 t490 t491 t492 6 t494 t495 t496 w _ ?side1 ?side2 A3.out).mono ?_); (case side1 => exact z16_7); (case side2 => exact z16_1); rintro e w18 ⟨rfl, hi, hb, hk⟩; refine ⟨_, rfl, ?_⟩; replace HB := Aside0.mk (hb); replace HI493 := Aside0.mk (hi)) | ((with_reducible refine gate_callee (f := 26) rfl ?_); refine goesL_ (some 14) rfl rfl Try.func26 z16_10 rfl #[.pointer (some ⟨g493, 0, none⟩)] rfl z16_0 ?_; (with_reducible refine (spec_l05Any.calls k g493 t490 t495 t496 t497 t498 t499 t500 t503 t504 t505 t506 t507 t508 t509 t510 w _ ?side1 ?side2 A4.out).mono ?_); (case side1 => exact z16_7); (case side2 => exact z16_1); rintro e w19 ⟨v501, rfl, ho0, hi, hb, hk⟩; refine ⟨_, rfl, ?_⟩; have HO502 := Aside0.mk (Kd.R_lower ho0 (below_size z16_1)); replace HB := Aside0.mk (hb); replace HI493 := Aside0.mk (hi); (try clear ho0); obtain ⟨Ao20, co20, eo20⟩ := Kd.R_slice HO502.out; subst eo20) | ((with_reducible refine gate_callee (f := 35) rfl ?_); refine goesL_ (some 15) rfl rfl Try.func35 z16_10 rfl #[.agg #[.int .i64 t497, .int .i64 t498, .int .i64 t499, .slice Ao20 t500.length co20, .int .i64 t503, .string t504, .string t505, .int .i64 t506, .int .i64 t507, .int .i64 t508]] rfl z16_0 ?_; (with_reducible refine (spec_ActText.calls k t497 t498 t499 _ _ t500 t503 t504 t505 t506 t507 t508 t511 t512 _ ?side1 ?side2 A5.out).mono ?_); (case side1 => exact z16_16); (case side2 => exact (Kd.R_reads' HO502.out).2.1); rintro e w21 ⟨rfl, hb⟩; refine ⟨_, rfl, ?_⟩; replace HO502 := Aside0.mk (Kd.R_below z16_8 hb); replace HB := Aside0.mk (below_step z16_1 hb); replace HI493 := Aside0.mk (IsS74.below z16_7 hb)))
  go_ret2
  exact ⟨z16_6, z16_1⟩
 rw [if_neg c14] at H
 have c14b0 : (t494 == 1) = false := beq_eq_false_iff_ne.mpr c14
 have c14b1 : (t494 != 1) = true := bne_iff_ne.mpr c14
 by_cases c22 : t494 = 2
 rotate_left
 ·
  rw [if_neg c22] at H
  have c22b0 : (t494 == 2) = false := beq_eq_false_iff_ne.mpr c22
  have c22b1 : (t494 != 2) = true := bne_iff_ne.mpr c22
  simp only [Option.some.injEq, Prod.mk.injEq] at H
  obtain ⟨rfl, rfl⟩ := H
  go_enter Try.func11, Try.ntmps11
  go_wp2_with (first | ((with_reducible refine gate_callee (f := 27) rfl ?_); refine goesL_ (some 9) rfl rfl Try.func27 z16_10 rfl #[.slice A0 l0.length c0] rfl z16_0 ?_; (with_reducible refine (spec_l01New.calls k _ _ l0 t490 t491 t492 w _ ?side1 ?side2 ?side3 A2.out).mono ?_); (case side1 => exact z16_13); (case side2 => exact HR0.out); (case side3 => exact HC0.out); rintro e w30 ⟨g493, rfl, hi, hb, hb2⟩; refine ⟨_, rfl, ?_⟩; replace HB := Aside0.mk (hb); have HI493 := Aside0.mk (hi)) | ((with_reducible refine gate_callee (f := 34) rfl ?_); refine goesL_ (some 11) rfl rfl Try.func34 z16_10 rfl #[.pointer (some ⟨g493, 0, none⟩), .int .i64 6] rfl z16_0 ?_; (with_reducible refine (spec_l01Below.calls g493 t490 t491 t492 6 t494 t495 t496 w _ ?side1 ?side2 A3.out).mono ?_); (case side1 => exact z16_7); (case side2 => exact z16_1); rintro e w31 ⟨rfl, hi, hb, hk⟩; refine ⟨_, rfl, ?_⟩; replace HB := Aside0.mk (hb); replace HI493 := Aside0.mk (hi)) | ((with_reducible refine gate_callee (f := 26) rfl ?_); refine goesL_ (some 14) rfl rfl Try.func26 z16_10 rfl #[.pointer (some ⟨g493, 0, none⟩)] rfl z16_0 ?_; (with_reducible refine (spec_l05Any.calls k g493 t490 t495 t496 t497 t498 t499 t500 t503 t504 t505 t506 t507 t508 t509 t510 w _ ?side1 ?side2 A4.out).mono ?_); (case side1 => exact z16_7); (case side2 => exact z16_1); rintro e w32 ⟨v501, rfl, ho0, hi, hb, hk⟩; refine ⟨_, rfl, ?_⟩; have HO502 := Aside0.mk (Kd.R_lower ho0 (below_size z16_1)); replace HB := Aside0.mk (hb); replace HI493 := Aside0.mk (hi); (try clear ho0); obtain ⟨Ao33, co33, eo33⟩ := Kd.R_slice HO502.out; subst eo33) | ((with_reducible refine gate_callee (f := 35) rfl ?_); refine goesL_ (some 15) rfl rfl Try.func35 z16_10 rfl #[.agg #[.int .i64 t497, .int .i64 t498, .int .i64 t499, .slice Ao33 t500.length co33, .int .i64 t503, .string t504, .string t505, .int .i64 t506, .int .i64 t507, .int .i64 t508]] rfl z16_0 ?_; (with_reducible refine (spec_ActText.calls k t497 t498 t499 _ _ t500 t503 t504 t505 t506 t507 t508 t511 t512 _ ?side1 ?side2 A5.out).mono ?_); (case side1 => exact z16_16); (case side2 => exact (Kd.R_reads' HO502.out).2.1); rintro e w34 ⟨rfl, hb⟩; refine ⟨_, rfl, ?_⟩; replace HO502 := Aside0.mk (Kd.R_below z16_8 hb); replace HB := Aside0.mk (below_step z16_1 hb); replace HI493 := Aside0.mk (IsS74.below z16_7 hb)))
  go_ret2
  exact ⟨z16_6, z16_1⟩
 rw [if_pos c22] at H
 have c22b0 : (t494 == 2) = true := beq_iff_eq.mpr c22
 have c22b1 : (t494 != 2) = false := bne_eq_false_iff_eq.mpr c22
 clear c22
 replace H := Option.bind_eq_some_iff.mp H
 obtain ⟨⟨t516, t517, t518⟩, A230, H⟩ := H
 (try dsimp only at H)
 have A23 := Aside0.mk A230
 clear A230
 simp only [Option.some.injEq, Prod.mk.injEq] at H
 obtain ⟨rfl, rfl⟩ := H
 go_enter Try.func11, Try.ntmps11
 go_wp2_with (first | ((with_reducible refine gate_callee (f := 27) rfl ?_); refine goesL_ (some 9) rfl rfl Try.func27 z16_10 rfl #[.slice A0 l0.length c0] rfl z16_0 ?_; (with_reducible refine (spec_l01New.calls k _ _ l0 t490 t491 t492 w _ ?side1 ?side2 ?side3 A2.out).mono ?_); (case side1 => exact z16_13); (case side2 => exact HR0.out); (case side3 => exact HC0.out); rintro e w24 ⟨g493, rfl, hi, hb, hb2⟩; refine ⟨_, rfl, ?_⟩; replace HB := Aside0.mk (hb); have HI493 := Aside0.mk (hi)) | ((with_reducible refine gate_callee (f := 34) rfl ?_); refine goesL_ (some 11) rfl rfl Try.func34 z16_10 rfl #[.pointer (some ⟨g493, 0, none⟩), .int .i64 6] rfl z16_0 ?_; (with_reducible refine (spec_l01Below.calls g493 t490 t491 t492 6 t494 t495 t496 w _ ?side1 ?side2 A3.out).mono ?_); (case side1 => exact z16_7); (case side2 => exact z16_1); rintro e w25 ⟨rfl, hi, hb, hk⟩; refine ⟨_, rfl, ?_⟩; replace HB := Aside0.mk (hb); replace HI493 := Aside0.mk (hi)) | ((with_reducible refine gate_callee (f := 26) rfl ?_); refine goesL_ (some 14) rfl rfl Try.func26 z16_10 rfl #[.pointer (some ⟨g493, 0, none⟩)] rfl z16_0 ?_; (with_reducible refine (spec_l05Any.calls k g493 t490 t495 t496 t497 t498 t499 t500 t503 t504 t505 t506 t507 t508 t509 t510 w _ ?side1 ?side2 A4.out).mono ?_); (case side1 => exact z16_7); (case side2 => exact z16_1); rintro e w26 ⟨v501, rfl, ho0, hi, hb, hk⟩; refine ⟨_, rfl, ?_⟩; have HO502 := Aside0.mk (Kd.R_lower ho0 (below_size z16_1)); replace HB := Aside0.mk (hb); replace HI493 := Aside0.mk (hi); (try clear ho0); obtain ⟨Ao27, co27, eo27⟩ := Kd.R_slice HO502.out; subst eo27) | ((with_reducible refine gate_callee (f := 35) rfl ?_); refine goesL_ (some 15) rfl rfl Try.func35 z16_10 rfl #[.agg #[.int .i64 t497, .int .i64 t498, .int .i64 t499, .slice Ao27 t500.length co27, .int .i64 t503, .string t504, .string t505, .int .i64 t506, .int .i64 t507, .int .i64 t508]] rfl z16_0 ?_; (with_reducible refine (spec_ActText.calls k t497 t498 t499 _ _ t500 t503 t504 t505 t506 t507 t508 t511 t512 _ ?side1 ?side2 A5.out).mono ?_); (case side1 => exact z16_16); (case side2 => exact (Kd.R_reads' HO502.out).2.1); rintro e w28 ⟨rfl, hb⟩; refine ⟨_, rfl, ?_⟩; replace HO502 := Aside0.mk (Kd.R_below z16_8 hb); replace HB := Aside0.mk (below_step z16_1 hb); replace HI493 := Aside0.mk (IsS74.below z16_7 hb)) | ((with_reducible refine gate_callee (f := 34) rfl ?_); refine goesL_ (some 33) rfl rfl Try.func34 z16_10 rfl #[.pointer (some ⟨g493, 0, none⟩), .int .i64 5] rfl z16_0 ?_; (with_reducible refine (spec_l01Below.calls g493 t490 t509 t510 5 t516 t517 t518 w _ ?side1 ?side2 A23.out).mono ?_); (case side1 => exact z16_7); (case side2 => exact z16_1); rintro e w29 ⟨rfl, hi, hb, hk⟩; refine ⟨_, rfl, ?_⟩; replace HO502 := Aside0.mk (Kd.R_mono (Kd.R_keep (IsS74.apart (show IsS74 w _ g493 t490 t509 t510 from by repeat (first | (with_reducible first | exact HI493.out | apply IsS74.alloc | apply IsS74.drewN | apply IsS74.drew | apply IsS74.set_1 | apply IsS74.set_2) | exact HI493.out)) z16_8 (by decide)) hk (fun _ h => h.2)) (fun _ h => h.1)); replace HB := Aside0.mk (hb); replace HI493 := Aside0.mk (hi)))
 go_ret2
 exact ⟨z16_6, z16_1⟩
end Go.Proofs.Ythajpckfodhhpaa.QRA
