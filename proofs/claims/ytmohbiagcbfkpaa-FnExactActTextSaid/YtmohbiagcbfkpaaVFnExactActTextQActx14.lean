/- What the functions behind Act compute, and that the program's calls come to just that. Written by a program of this session on the base of the kit's print. No condition. -/
import Derived.Test.YtmohbiagcbfkpaaVFnExactActTextQActx0
import Derived.Test.YtmohbiagcbfkpaaVFnExactActTextQActx10
import Derived.Test.YtmohbiagcbfkpaaVFnExactActTextQActx12
import Derived.Test.YtmohbiagcbfkpaaVFnExactActTextQActx13
namespace Go.Proofs.Ytmohbiagcbfkpaa.QAct
open Go.RowKit Go.Proofs.YtmohbiagcbfkpaaW.PrintWords Go.Proofs.YtmohbiagcbfkpaaW.PrintLast Go.Proofs.YtmohbiagcbfkpaaW.PrintMore
attribute [local go_sem] max2_int min2_int max_two min_two max_three min_three max_four min_four   -- for this text's walks alone
set_option linter.unusedVariables false
set_option linter.unusedSimpArgs false
theorem z14_13 {P : Prop} (h : P := by (with_reducible repeat (first | apply Kd.R_alloc | apply Kd.R_drewN | apply Kd.R_drew)); exact Kd.R_mono HO374.out (fun _ hk => by first | exact hk.2 | trivial)) : P := h
theorem z14_12 {P : Prop} (h : P := by first | rfl | (simp only [List.map_toArray, List.map_cons, List.map_nil]; first | done | rfl)) : P := h
theorem z14_11 {P : Prop} (h : P := by (with_reducible repeat (first | apply Kd.R_alloc | apply Kd.R_drewN | apply Kd.R_drew)); exact (Q_HO379 h0_)) : P := h
theorem z14_10 {P : Prop} (h : P := by (with_reducible repeat (first | apply Kd.R_alloc | apply Kd.R_drewN | apply Kd.R_drew)); exact HO383.out) : P := h
theorem z14_9 {P : Prop} (h : P := by (with_reducible repeat (first | apply Kd.R_alloc | apply Kd.R_drewN | apply Kd.R_drew)); exact HO379.out) : P := h
theorem z14_8 {P : Prop} (h : P := by (with_reducible repeat (first | apply Kd.R_alloc | apply Kd.R_drewN | apply Kd.R_drew)); exact (Q_HO383 h0_)) : P := h
theorem z14_7 {P : Prop} (h : P := by intro w'; go_simp; with_reducible rfl) : P := h
theorem z14_6 {P : Prop} (h : P := by repeat (first | (with_reducible first | exact HB.out | apply below_alloc | apply pw_below_drewN | apply below_drew1) | exact HB.out)) : P := h
theorem z14_5 {P : Prop} (h : P := by (with_reducible repeat (first | apply Kd.R_alloc | apply Kd.R_drewN | apply Kd.R_drew)); exact (Q_HO387 h0_)) : P := h
theorem z14_4 {P : Prop} (h : P := by kernel_rfl) : P := h
theorem z14_3 {P : Prop} (h : P := by (with_reducible repeat (first | apply Kd.R_alloc | apply Kd.R_drewN | apply Kd.R_drew)); exact HO374.out) : P := h
theorem z14_2 {P : Prop} (h : P := by (with_reducible repeat (first | refine blk_drewN ?_ _ | refine blk_drew ?_ | refine blk_alloc ?_ _)); exact BK370.out) : P := h
theorem z14_1 {P : Prop} (h : P := by simp only [Act.put, List.setIfInBounds_toArray, List.set_cons_zero, List.set_cons_succ, i64_w, i32_w]; rfl) : P := h
theorem z14_0 {P : Prop} (h : P := by repeat (first | (with_reducible first | exact HB.out | apply below_alloc | apply pw_below_drewN | apply below_drew1 | refine below_set ?_ GE370.out) | exact HB.out)) : P := h
def impl_ActText.f (k : Nat) (a0_0 : Int) (a0_1 : Int) (a0_2 : Int) (l0_3 : List Int) (a0_4 : Int) (a0_5 : ByteArray) (a0_6 : ByteArray) (a0_7 : Int) (a0_8 : Int) (a0_9 : Int) : Option (ByteArray × Bool) := (impl_ActOk.f k a0_0 a0_1 a0_2 l0_3 a0_4 a0_5 a0_6 a0_7 a0_8 a0_9).bind fun t371 => (if t371 = true then ((impl_varTexts.f k (([a0_0, a0_1, a0_2] : List Int))).bind fun t375 => ((impl_varTexts.f k l0_3).bind fun t376 => (if t375.size + t376.size ≤ 9223372036854775807 then ((impl_varTexts.f k (([a0_4] : List Int))).bind fun t380 => (if (t375 ++ t376).size + t380.size ≤ 9223372036854775807 then ((impl_shortTexts.f k (([a0_5, a0_6] : List ByteArray))).bind fun t384 => (if ((t375 ++ t376) ++ t380).size + t384.size ≤ 9223372036854775807 then ((impl_varTexts.f k (([a0_7, a0_8, a0_9] : List Int))).bind fun t388 => (if (((t375 ++ t376) ++ t380) ++ t384).size + t388.size ≤ 9223372036854775807 then (some ((((t375 ++ t376) ++ t380) ++ t384) ++ t388, true)) else (none))) else (none))) else (none))) else (none)))) else (some ((⟨#[]⟩ : ByteArray), false)))
def impl_ActText.T3 : Bool × List (List Nat × List Nat) := (true, [([], []), ([0], [0]), ([1], [1]), ([], []), ([3], [3]), ([4], [4]), ([], []), ([6], [6]), ([2, 5, 7], [2, 5, 7]), ([8], [8]), ([], []), ([10], [10]), ([11, 9], [11]), ([9, 12], [9, 12]), ([13, 12, 0, 1, 2, 3, 4, 5, 6, 7, 8, 9, 10, 11, 12, 13], [13])])
def impl_ActText.B3 : List Nat := [0, 1, 3, 0, 8, 24, 0, 64, 255, 511, 0, 1024, 4095, 8191, 16383]
theorem impl_ActText.tab3 : rtab .any (opsOf Try.f22 3) = impl_ActText.T3 := by kernel_rfl
theorem impl_ActText.bits3 : waitsOk impl_ActText.T3.2 impl_ActText.B3 = true := by kernel_rfl
def impl_ActText.T4 : Bool × List (List Nat × List Nat) := (true, [([], []), ([], []), ([1], [1]), ([2], [2]), ([3], [3]), ([0, 4], [0, 4]), ([], []), ([6], [6]), ([], []), ([8], [8]), ([7, 9], [7, 9]), ([10, 4], [10]), ([5, 11], [5, 11]), ([], []), ([13], [13]), ([], []), ([15], [15]), ([16], [16]), ([], []), ([18], [18]), ([19], [19]), ([14, 17, 20], [14, 17, 20]), ([21, 11], [21]), ([12, 22], [12, 22]), ([23, 22, 0, 1, 2, 3, 4, 5, 6, 7, 8, 9, 10, 11, 12, 13, 14, 15, 16, 17, 18, 19, 20, 21, 22, 23], [23]), ([24, 0, 1, 2, 3, 4, 5, 6, 7, 8, 9, 10, 11, 12, 13, 14, 15, 16, 17, 18, 19, 20, 21, 22, 23, 24], [])])
def impl_ActText.B4 : List Nat := [0, 0, 2, 6, 14, 31, 0, 64, 0, 256, 960, 2014, 4095, 0, 8192, 0, 32768, 98304, 0, 262144, 786432, 2088960, 4190174, 8388607, 16777215, 33554431]
theorem impl_ActText.tab4 : rtab .any (opsOf Try.f22 4) = impl_ActText.T4 := by kernel_rfl
theorem impl_ActText.bits4 : waitsOk impl_ActText.T4.2 impl_ActText.B4 = true := by kernel_rfl
set_option maxHeartbeats 8000000 in
set_option maxRecDepth 100000 in
theorem impl_ActText.calls (k : Nat) (a0_0 : Int) (a0_1 : Int) (a0_2 : Int) (A0_3 : Option Addr) (c0_3 : Nat) (l0_3 : List Int) (a0_4 : Int) (a0_5 : ByteArray) (a0_6 : ByteArray) (a0_7 : Int) (a0_8 : Int) (a0_9 : Int) (r1 : ByteArray) (r2 : Bool) (w : World) (hr0_3 : Kd.C (Kd.int .i64) w A0_3 l0_3.length l0_3) (hc0_3 : l0_3.length ≤ c0_3) (h : impl_ActText.f k a0_0 a0_1 a0_2 l0_3 a0_4 a0_5 a0_6 a0_7 a0_8 a0_9 = some (r1, r2)) :
  Calls Try.prog 22 #[.agg #[.int .i64 a0_0, .int .i64 a0_1, .int .i64 a0_2, .slice A0_3 l0_3.length c0_3, .int .i64 a0_4, .string a0_5, .string a0_6, .int .i64 a0_7, .int .i64 a0_8, .int .i64 a0_9]] w fun e w' => e = .returned (.tuple #[.string r1, .bool r2]) ∧ Below w.heap.size w w' := by
 have hu31 := Try.underlying31
 have HR0_3 := Aside0.mk hr0_3
 have HC0_3 := Aside0.mk hc0_3
 clear hr0_3 hc0_3
 have HB := Aside0.mk (Below.refl w.heap.size w)
 have H : ((impl_ActOk.f k a0_0 a0_1 a0_2 l0_3 a0_4 a0_5 a0_6 a0_7 a0_8 a0_9).bind fun t371 => (if t371 = true then ((impl_varTexts.f k (([a0_0, a0_1, a0_2] : List Int))).bind fun t375 => ((impl_varTexts.f k l0_3).bind fun t376 => (if t375.size + t376.size ≤ 9223372036854775807 then ((impl_varTexts.f k (([a0_4] : List Int))).bind fun t380 => (if (t375 ++ t376).size + t380.size ≤ 9223372036854775807 then ((impl_shortTexts.f k (([a0_5, a0_6] : List ByteArray))).bind fun t384 => (if ((t375 ++ t376) ++ t380).size + t384.size ≤ 9223372036854775807 then ((impl_varTexts.f k (([a0_7, a0_8, a0_9] : List Int))).bind fun t388 => (if (((t375 ++ t376) ++ t380) ++ t384).size + t388.size ≤ 9223372036854775807 then (some ((((t375 ++ t376) ++ t380) ++ t384) ++ t388, true)) else (none))) else (none))) else (none))) else (none)))) else (some ((⟨#[]⟩ : ByteArray), false)))) = some (r1, r2) := h
 clear h
 replace H := Option.bind_eq_some_iff.mp H
 obtain ⟨t371, A20, H⟩ := H
 (try dsimp only at H)
 have A2 := Aside0.mk A20
 clear A20
 by_cases c3 : t371 = true
 ·
  subst c3
  have H1 : ((impl_varTexts.f k (([a0_0, a0_1, a0_2] : List Int))).bind fun t375 => ((impl_varTexts.f k l0_3).bind fun t376 => (if t375.size + t376.size ≤ 9223372036854775807 then ((impl_varTexts.f k (([a0_4] : List Int))).bind fun t380 => (if (t375 ++ t376).size + t380.size ≤ 9223372036854775807 then ((impl_shortTexts.f k (([a0_5, a0_6] : List ByteArray))).bind fun t384 => (if ((t375 ++ t376) ++ t380).size + t384.size ≤ 9223372036854775807 then ((impl_varTexts.f k (([a0_7, a0_8, a0_9] : List Int))).bind fun t388 => (if (((t375 ++ t376) ++ t380) ++ t384).size + t388.size ≤ 9223372036854775807 then (some ((((t375 ++ t376) ++ t380) ++ t384) ++ t388, true)) else (none))) else (none))) else (none))) else (none)))) = some (r1, r2) := by rw [if_pos rfl] at H; exact H
  clear H
  have H := H1
  clear H1
  obtain ⟨y372, hy372⟩ : ∃ y_ : List Int, y_ = (([a0_0, a0_1, a0_2] : List Int)) := ⟨_, rfl⟩
  replace H : ((impl_varTexts.f k y372).bind fun t375 => ((impl_varTexts.f k l0_3).bind fun t376 => (if t375.size + t376.size ≤ 9223372036854775807 then ((impl_varTexts.f k (([a0_4] : List Int))).bind fun t380 => (if (t375 ++ t376).size + t380.size ≤ 9223372036854775807 then ((impl_shortTexts.f k (([a0_5, a0_6] : List ByteArray))).bind fun t384 => (if ((t375 ++ t376) ++ t380).size + t384.size ≤ 9223372036854775807 then ((impl_varTexts.f k (([a0_7, a0_8, a0_9] : List Int))).bind fun t388 => (if (((t375 ++ t376) ++ t380) ++ t384).size + t388.size ≤ 9223372036854775807 then (some ((((t375 ++ t376) ++ t380) ++ t384) ++ t388, true)) else (none))) else (none))) else (none))) else (none)))) = some (r1, r2) := by first | (rw [hy372]; with_reducible exact H) | (have H2_ := (Option.bind_some _ _).symm.trans H; rw [hy372]; with_reducible exact H2_) | (have H2_ := (Option.bind_some _ _).symm.trans H; with_reducible exact H2_) | with_reducible exact H | (rw [hy372]; exact H) | exact H
  have Ny372 := Aside0.mk hy372
  clear hy372
  replace H := Option.bind_eq_some_iff.mp H
  obtain ⟨t375, A40, H⟩ := H
  (try dsimp only at H)
  have A4 := Aside0.mk A40
  clear A40
  replace H := Option.bind_eq_some_iff.mp H
  obtain ⟨t376, A50, H⟩ := H
  (try dsimp only at H)
  have A5 := Aside0.mk A50
  clear A50
  by_cases c6 : t375.size + t376.size ≤ 9223372036854775807
  ·
   rw [if_pos c6] at H
   have c6b0 := eq_true c6
   have c6b1 : decide (t375.size + t376.size ≤ 9223372036854775807) = true := decide_eq_true c6
   try have c6b2 : (9223372036854775807 < t375.size + t376.size) = False := eq_false (Nat.not_lt.2 c6)
   obtain ⟨y377, hy377⟩ : ∃ y_ : List Int, y_ = (([a0_4] : List Int)) := ⟨_, rfl⟩
   replace H : ((impl_varTexts.f k y377).bind fun t380 => (if (t375 ++ t376).size + t380.size ≤ 9223372036854775807 then ((impl_shortTexts.f k (([a0_5, a0_6] : List ByteArray))).bind fun t384 => (if ((t375 ++ t376) ++ t380).size + t384.size ≤ 9223372036854775807 then ((impl_varTexts.f k (([a0_7, a0_8, a0_9] : List Int))).bind fun t388 => (if (((t375 ++ t376) ++ t380) ++ t384).size + t388.size ≤ 9223372036854775807 then (some ((((t375 ++ t376) ++ t380) ++ t384) ++ t388, true)) else (none))) else (none))) else (none))) = some (r1, r2) := by first | (rw [hy377]; with_reducible exact H) | (have H2_ := (Option.bind_some _ _).symm.trans H; rw [hy377]; with_reducible exact H2_) | (have H2_ := (Option.bind_some _ _).symm.trans H; with_reducible exact H2_) | with_reducible exact H | (rw [hy377]; exact H) | exact H
   have Ny377 := Aside0.mk hy377
   clear hy377
   replace H := Option.bind_eq_some_iff.mp H
   obtain ⟨t380, A70, H⟩ := H
   (try dsimp only at H)
   have A7 := Aside0.mk A70
   clear A70
   by_cases c8 : (t375 ++ t376).size + t380.size ≤ 9223372036854775807
   ·
    rw [if_pos c8] at H
    have c8b0 := eq_true c8
    have c8b1 : decide ((t375 ++ t376).size + t380.size ≤ 9223372036854775807) = true := decide_eq_true c8
    try have c8b2 : (9223372036854775807 < (t375 ++ t376).size + t380.size) = False := eq_false (Nat.not_lt.2 c8)
    try have c8b3 := c8b2
    try simp only [ByteArray.size_append] at c8b3
    obtain ⟨y381, hy381⟩ : ∃ y_ : List ByteArray, y_ = (([a0_5, a0_6] : List ByteArray)) := ⟨_, rfl⟩
    replace H : ((impl_shortTexts.f k y381).bind fun t384 => (if ((t375 ++ t376) ++ t380).size + t384.size ≤ 9223372036854775807 then ((impl_varTexts.f k (([a0_7, a0_8, a0_9] : List Int))).bind fun t388 => (if (((t375 ++ t376) ++ t380) ++ t384).size + t388.size ≤ 9223372036854775807 then (some ((((t375 ++ t376) ++ t380) ++ t384) ++ t388, true)) else (none))) else (none))) = some (r1, r2) := by first | (rw [hy381]; with_reducible exact H) | (have H2_ := (Option.bind_some _ _).symm.trans H; rw [hy381]; with_reducible exact H2_) | (have H2_ := (Option.bind_some _ _).symm.trans H; with_reducible exact H2_) | with_reducible exact H | (rw [hy381]; exact H) | exact H
    have Ny381 := Aside0.mk hy381
    clear hy381
    replace H := Option.bind_eq_some_iff.mp H
    obtain ⟨t384, A90, H⟩ := H
    (try dsimp only at H)
    have A9 := Aside0.mk A90
    clear A90
    by_cases c10 : ((t375 ++ t376) ++ t380).size + t384.size ≤ 9223372036854775807
    ·
     rw [if_pos c10] at H
     have c10b0 := eq_true c10
     have c10b1 : decide (((t375 ++ t376) ++ t380).size + t384.size ≤ 9223372036854775807) = true := decide_eq_true c10
     try have c10b2 : (9223372036854775807 < ((t375 ++ t376) ++ t380).size + t384.size) = False := eq_false (Nat.not_lt.2 c10)
     try have c10b3 := c10b2
     try simp only [ByteArray.size_append] at c10b3
     obtain ⟨y385, hy385⟩ : ∃ y_ : List Int, y_ = (([a0_7, a0_8, a0_9] : List Int)) := ⟨_, rfl⟩
     replace H : ((impl_varTexts.f k y385).bind fun t388 => (if (((t375 ++ t376) ++ t380) ++ t384).size + t388.size ≤ 9223372036854775807 then (some ((((t375 ++ t376) ++ t380) ++ t384) ++ t388, true)) else (none))) = some (r1, r2) := by first | (rw [hy385]; with_reducible exact H) | (have H2_ := (Option.bind_some _ _).symm.trans H; rw [hy385]; with_reducible exact H2_) | (have H2_ := (Option.bind_some _ _).symm.trans H; with_reducible exact H2_) | with_reducible exact H | (rw [hy385]; exact H) | exact H
     have Ny385 := Aside0.mk hy385
     clear hy385
     replace H := Option.bind_eq_some_iff.mp H
     obtain ⟨t388, A110, H⟩ := H
     (try dsimp only at H)
     have A11 := Aside0.mk A110
     clear A110
     by_cases c12 : (((t375 ++ t376) ++ t380) ++ t384).size + t388.size ≤ 9223372036854775807
     ·
      rw [if_pos c12] at H
      have c12b0 := eq_true c12
      have c12b1 : decide ((((t375 ++ t376) ++ t380) ++ t384).size + t388.size ≤ 9223372036854775807) = true := decide_eq_true c12
      try have c12b2 : (9223372036854775807 < (((t375 ++ t376) ++ t380) ++ t384).size + t388.size) = False := eq_false (Nat.not_lt.2 c12)
      try have c12b3 := c12b2
      try simp only [ByteArray.size_append] at c12b3
      simp only [Option.some.injEq, Prod.mk.injEq] at H
      obtain ⟨rfl, rfl⟩ := H
      go_enter Try.func22, Try.ntmps22
      try go_wp2_with (first | ((with_reducible refine gate_dst (N := 1) rfl ?_); refine box_event ?hg (N := 1) ?hd (cs := #[.int .i64 a0_0, .int .i64 a0_1, .int .i64 a0_2, .slice A0_3 l0_3.length c0_3, .int .i64 a0_4, .string a0_5, .string a0_6, .int .i64 a0_7, .int .i64 a0_8, .int .i64 a0_9]) (t := 31) ?hr ?_; (case hd => rfl); (case hg => rfl); (case hr => first | (go_simp; done) | (go_simp; rfl)); intro gb370 hg w13 hbox hb; have n0_ := Aside0.mk (below_step z14_6 hb); have n1_ := Aside0.mk (hbox); have n2_ := Aside0.mk ((by rw [hg]; exact (below_size z14_6) : w.heap.size ≤ gb370)); have n3_ := Aside0.mk ((by rw [hg]; exact (below_size z14_6) : w.heap.size ≤ gb370)); clear HB; have HB := n0_; have BK370 := n1_; have GW370 := n2_; have GE370 := n3_; clear n0_ n1_ n2_ n3_; clear hb hbox hg; have hcz14_0 : w13.cell? ⟨gb370, 0, none⟩ = some (.int .i64 a0_0) := (blk_cell BK370.out 0).trans rfl; have hcz14_1 : w13.cell? ⟨gb370, 1, none⟩ = some (.int .i64 a0_1) := (blk_cell BK370.out 1).trans rfl; have hcz14_2 : w13.cell? ⟨gb370, 2, none⟩ = some (.int .i64 a0_2) := (blk_cell BK370.out 2).trans rfl; have hcz14_3 : w13.cell? ⟨gb370, 3, none⟩ = some (.slice A0_3 l0_3.length c0_3) := (blk_cell BK370.out 3).trans rfl; have hcz14_4 : w13.cell? ⟨gb370, 4, none⟩ = some (.int .i64 a0_4) := (blk_cell BK370.out 4).trans rfl; have hcz14_5 : w13.cell? ⟨gb370, 5, none⟩ = some (.string a0_5) := (blk_cell BK370.out 5).trans rfl; have hcz14_6 : w13.cell? ⟨gb370, 6, none⟩ = some (.string a0_6) := (blk_cell BK370.out 6).trans rfl; have hcz14_7 : w13.cell? ⟨gb370, 7, none⟩ = some (.int .i64 a0_7) := (blk_cell BK370.out 7).trans rfl; have hcz14_8 : w13.cell? ⟨gb370, 8, none⟩ = some (.int .i64 a0_8) := (blk_cell BK370.out 8).trans rfl; have hcz14_9 : w13.cell? ⟨gb370, 9, none⟩ = some (.int .i64 a0_9) := (blk_cell BK370.out 9).trans rfl; have hfz14_0 := blk_frozen BK370.out 0; have hfz14_1 := blk_frozen BK370.out 1; have hfz14_2 := blk_frozen BK370.out 2; have hfz14_3 := blk_frozen BK370.out 3; have hfz14_4 := blk_frozen BK370.out 4; have hfz14_5 := blk_frozen BK370.out 5; have hfz14_6 := blk_frozen BK370.out 6; have hfz14_7 := blk_frozen BK370.out 7; have hfz14_8 := blk_frozen BK370.out 8; have hfz14_9 := blk_frozen BK370.out 9) | ((with_reducible refine gate_callee (f := 20) rfl ?_); refine goesL_ (some 6) rfl rfl Try.func20 z14_4 rfl #[.agg #[.int .i64 a0_0, .int .i64 a0_1, .int .i64 a0_2, .slice A0_3 l0_3.length c0_3, .int .i64 a0_4, .string a0_5, .string a0_6, .int .i64 a0_7, .int .i64 a0_8, .int .i64 a0_9]] rfl z14_12 ?_; (with_reducible refine (impl_ActOk.calls k a0_0 a0_1 a0_2 _ _ l0_3 a0_4 a0_5 a0_6 a0_7 a0_8 a0_9 true _ ?side1 ?side2 A2.out).mono ?_); (case side1 => repeat (first | exact (Kd.C_below HR0_3.out HB.out) | (with_reducible refine Kd.C_alloc ?_ _) | (with_reducible refine Kd.C_drewN ?_ _) | (with_reducible refine Kd.C_drew ?_))); (case side2 => exact HC0_3.out); rintro e w15 ⟨rfl, hb⟩; refine ⟨_, rfl, ?_⟩; have n0_ := Aside0.mk (blk_below (g := gb370) (o := .cells #[.int .i64 a0_0, .int .i64 a0_1, .int .i64 a0_2, .slice A0_3 l0_3.length c0_3, .int .i64 a0_4, .string a0_5, .string a0_6, .int .i64 a0_7, .int .i64 a0_8, .int .i64 a0_9] 31 (0, 0)) z14_2 hb); have n1_ := Aside0.mk (below_step z14_0 hb); clear BK370; clear HB; have BK370 := n0_; have HB := n1_; clear n0_ n1_))
      have n0_ := Aside0.mk (blk_drew BK370.out)
      have n1_ := Aside0.mk (below_drew1 HB.out)
      clear BK370
      clear HB
      have BK370 := n0_
      have HB := n1_
      clear n0_ n1_
      refine start_ (n := 15) (S := fun w' => w'.cell? ⟨gb370, 0, none⟩ = some (.int .i64 a0_0) ∧ w'.cell? ⟨gb370, 1, none⟩ = some (.int .i64 a0_1) ∧ w'.cell? ⟨gb370, 2, none⟩ = some (.int .i64 a0_2) ∧ w'.cell? ⟨gb370, 3, none⟩ = some (.slice A0_3 l0_3.length c0_3) ∧ w'.cell? ⟨gb370, 4, none⟩ = some (.int .i64 a0_4) ∧ w'.cell? ⟨gb370, 5, none⟩ = some (.string a0_5) ∧ w'.cell? ⟨gb370, 6, none⟩ = some (.string a0_6) ∧ w'.cell? ⟨gb370, 7, none⟩ = some (.int .i64 a0_7) ∧ w'.cell? ⟨gb370, 8, none⟩ = some (.int .i64 a0_8) ∧ w'.cell? ⟨gb370, 9, none⟩ = some (.int .i64 a0_9)) (ds := []) #[false, false, false, false, false, false, false, false, false, false, false, false, false, false, false] z14_4 rfl rfl ⟨(blk_cell BK370.out 0).trans rfl, (blk_cell BK370.out 1).trans rfl, (blk_cell BK370.out 2).trans rfl, (blk_cell BK370.out 3).trans rfl, (blk_cell BK370.out 4).trans rfl, (blk_cell BK370.out 5).trans rfl, (blk_cell BK370.out 6).trans rfl, (blk_cell BK370.out 7).trans rfl, (blk_cell BK370.out 8).trans rfl, (blk_cell BK370.out 9).trans rfl⟩ (fun hHeld => ?_); refine with_tabW impl_ActText.tab3 impl_ActText.bits3 (fun HT_ HW_ => ?_)
      generalize w15.drew = w16 at BK370 HB hHeld ⊢
      refine pure_ (i := 0) (N := some 8) (v := ?_) (a' := ?_) #[true, false, false, false, false, false, false, false, false, false, false, false, false, false, false] rfl rfl (any_of HT_.out z14_4) (fun _ _ _ h => h) (Or.inl ⟨by rfl, ?_⟩) ?_ ?_
      rotate_left
      ·
       exact z14_7
      rotate_left
      ·
       exact z14_1
      refine pure_ (i := 1) (N := some 9) (v := ?_) (a' := ?_) #[true, true, false, false, false, false, false, false, false, false, false, false, false, false, false] rfl rfl (any_of HT_.out z14_4) (fun _ _ _ h => h) (Or.inl ⟨by rfl, ?_⟩) ?_ ?_
      rotate_left
      ·
       exact z14_7
      rotate_left
      ·
       exact z14_1
      refine pure_ (i := 3) (N := some 11) (v := ?_) (a' := ?_) #[true, true, false, true, false, false, false, false, false, false, false, false, false, false, false] rfl rfl (any_of HT_.out z14_4) (fun _ _ _ h => h) (Or.inl ⟨by rfl, ?_⟩) ?_ ?_
      rotate_left
      ·
       exact z14_7
      rotate_left
      ·
       exact z14_1
      refine pure_ (i := 4) (N := some 12) (v := ?_) (a' := ?_) #[true, true, false, true, true, false, false, false, false, false, false, false, false, false, false] rfl rfl (any_of HT_.out z14_4) (fun _ _ _ h => h) (Or.inl ⟨by rfl, ?_⟩) ?_ ?_
      rotate_left
      ·
       exact z14_7
      rotate_left
      ·
       exact z14_1
      refine pure_ (i := 6) (N := some 14) (v := ?_) (a' := ?_) #[true, true, false, true, true, false, true, false, false, false, false, false, false, false, false] rfl rfl (any_of HT_.out z14_4) (fun _ _ _ h => h) (Or.inl ⟨by rfl, ?_⟩) ?_ ?_
      rotate_left
      ·
       exact z14_7
      rotate_left
      ·
       exact z14_1
      refine pure_ (i := 10) (N := some 18) (v := ?_) (a' := ?_) #[true, true, false, true, true, false, true, false, false, false, true, false, false, false, false] rfl rfl (any_of HT_.out z14_4) (fun _ _ _ h => h) (Or.inl ⟨by rfl, ?_⟩) ?_ ?_
      rotate_left
      ·
       exact z14_7
      rotate_left
      ·
       exact z14_1
      refine take_ (i := 2) (N := some 10) (v := ?_) (a' := ?_) #[true, true, true, true, true, false, true, false, false, false, true, false, false, false, false] rfl rfl (take_ofW HT_.out HW_.out z14_4) (fun _ _ _ h => h) (Or.inl ⟨by rfl, ?_⟩) hHeld ?_ ?_
      rotate_left
      ·
       rintro w' ⟨s0, s1, s2, s3, s4, s5, s6, s7, s8, s9⟩
       go_simp
       with_reducible rfl
      rotate_left
      ·
       exact z14_1
      refine take_ (i := 5) (N := some 13) (v := ?_) (a' := ?_) #[true, true, true, true, true, true, true, false, false, false, true, false, false, false, false] rfl rfl (take_ofW HT_.out HW_.out z14_4) (fun _ _ _ h => h) (Or.inl ⟨by rfl, ?_⟩) hHeld ?_ ?_
      rotate_left
      ·
       rintro w' ⟨s0, s1, s2, s3, s4, s5, s6, s7, s8, s9⟩
       go_simp
       with_reducible rfl
      rotate_left
      ·
       exact z14_1
      refine take_ (i := 7) (N := some 15) (v := ?_) (a' := ?_) #[true, true, true, true, true, true, true, true, false, false, true, false, false, false, false] rfl rfl (take_ofW HT_.out HW_.out z14_4) (fun _ _ _ h => h) (Or.inl ⟨by rfl, ?_⟩) hHeld ?_ ?_
      rotate_left
      ·
       rintro w' ⟨s0, s1, s2, s3, s4, s5, s6, s7, s8, s9⟩
       go_simp
       with_reducible rfl
      rotate_left
      ·
       exact z14_1
      refine take_ (i := 11) (N := some 19) (v := ?_) (a' := ?_) #[true, true, true, true, true, true, true, true, false, false, true, true, false, false, false] rfl rfl (take_ofW HT_.out HW_.out z14_4) (fun _ _ _ h => h) (Or.inl ⟨by rfl, ?_⟩) hHeld ?_ ?_
      rotate_left
      ·
       rintro w' ⟨s0, s1, s2, s3, s4, s5, s6, s7, s8, s9⟩
       go_simp
       with_reducible rfl
      rotate_left
      ·
       exact z14_1
      refine one_ (i := 8) (N := some 16) #[true, true, true, true, true, true, true, true, true, false, true, true, false, false, false] rfl rfl (one_of HT_.out z14_4) (by decide) (fun K hK => ?_)
      refine Kd.R_lit_step (Kd.int .i64) _ 3 ?hg (N := 16) ?hd (xs := ([a0_0, a0_1, a0_2] : List Int)) (inner := [.int .i64 a0_0, .int .i64 a0_1, .int .i64 a0_2]) (ok := fun _ => True) (okp := fun _ => True) ?hr ?hp (fun _ hk => hk) trivial (Below.refl _ _) (Nat.le_refl _) (by simp) ?_; (case hd => rfl); (case hg => rfl); (case hr => first | (go_simp; done) | (go_simp; rfl)); (case hp => exact (Reps.one (show Kd.M (Kd.int .i64) _ _ _ a0_0 [.int .i64 a0_0] from rfl) (Reps.one (show Kd.M (Kd.int .i64) _ _ _ a0_1 [.int .i64 a0_1] from rfl) (Reps.one (show Kd.M (Kd.int .i64) _ _ _ a0_2 [.int .i64 a0_2] from rfl) (Reps.none _ _)))))
      intro v373 w17 ho18 hb hg_ hnew_
      clear hg_ hnew_
      (first | rw [← Ny372.out] at ho18 | (simp only [Int.reduceToNat] at ho18; rw [← Ny372.out] at ho18))
      have n0_ := Aside0.mk (Kd.R_lower ho18 (below_size z14_0))
      have n1_ := Aside0.mk (blk_below (g := gb370) (o := .cells #[.int .i64 a0_0, .int .i64 a0_1, .int .i64 a0_2, .slice A0_3 l0_3.length c0_3, .int .i64 a0_4, .string a0_5, .string a0_6, .int .i64 a0_7, .int .i64 a0_8, .int .i64 a0_9] 31 (0, 0)) z14_2 hb)
      have n2_ := Aside0.mk (below_step z14_0 hb)
      clear BK370
      clear HB
      have HO374 := n0_
      have BK370 := n1_
      have HB := n2_
      clear n0_ n1_ n2_
      clear hb ho18
      obtain ⟨Ao19, co19, eo19⟩ := Kd.R_slice HO374.out
      (first | subst eo19 | (injection eo19 with f1_ f2_ f3_; have f4_ := f1_.symm; have f5_ := f3_.symm; clear f1_ f2_ f3_; subst f4_; subst f5_))
      refine hK.out _ _ ⟨(blk_cell BK370.out 0).trans rfl, (blk_cell BK370.out 1).trans rfl, (blk_cell BK370.out 2).trans rfl, (blk_cell BK370.out 3).trans rfl, (blk_cell BK370.out 4).trans rfl, (blk_cell BK370.out 5).trans rfl, (blk_cell BK370.out 6).trans rfl, (blk_cell BK370.out 7).trans rfl, (blk_cell BK370.out 8).trans rfl, (blk_cell BK370.out 9).trans rfl⟩ (fun hHeld => ?_)
      clear hK K
      refine norm_ (a' := ?_) ?_ ?_
      rotate_left
      ·
       show Act.put _ (some 16) _ = _
       simp only [Act.put, List.setIfInBounds_toArray, List.set_cons_zero, List.set_cons_succ, i64_w, i32_w]
       rfl
      refine one_ (i := 9) (N := some 17) #[true, true, true, true, true, true, true, true, true, true, true, true, false, false, false] rfl rfl (one_of HT_.out z14_4) (by decide) (fun K hK => ?_)
      refine goes_ Try.func99 z14_4 rfl #[.slice Ao19 y372.length co19] (by rfl) rfl rfl z14_12 ?_
      with_reducible refine (impl_varTexts.calls k _ _ y372 t375 _ ?side1 ?side2 A4.out).mono ?_
      (case side1 => repeat (first | exact (Kd.R_reads' HO374.out).2.2 | (with_reducible refine Kd.C_alloc ?_ _) | (with_reducible refine Kd.C_drewN ?_ _) | (with_reducible refine Kd.C_drew ?_)))
      (case side2 => exact (Kd.R_reads' HO374.out).2.1)
      rintro e w20 ⟨rfl, hb⟩
      refine ⟨_, rfl, ?_⟩
      have n0_ := Aside0.mk (Kd.R_below z14_3 hb)
      have n1_ := Aside0.mk (blk_below (g := gb370) (o := .cells #[.int .i64 a0_0, .int .i64 a0_1, .int .i64 a0_2, .slice A0_3 l0_3.length c0_3, .int .i64 a0_4, .string a0_5, .string a0_6, .int .i64 a0_7, .int .i64 a0_8, .int .i64 a0_9] 31 (0, 0)) z14_2 hb)
      have n2_ := Aside0.mk (below_step z14_0 hb)
      clear HO374
      clear BK370
      clear HB
      have HO374 := n0_
      have BK370 := n1_
      have HB := n2_
      clear n0_ n1_ n2_
      (try clear hb)
      (try clear hb2)
      (try clear hk)
      (try clear hi)
      refine hK.out _ _ ⟨(blk_cell BK370.out 0).trans rfl, (blk_cell BK370.out 1).trans rfl, (blk_cell BK370.out 2).trans rfl, (blk_cell BK370.out 3).trans rfl, (blk_cell BK370.out 4).trans rfl, (blk_cell BK370.out 5).trans rfl, (blk_cell BK370.out 6).trans rfl, (blk_cell BK370.out 7).trans rfl, (blk_cell BK370.out 8).trans rfl, (blk_cell BK370.out 9).trans rfl⟩ (fun hHeld => ?_)
      clear hK K
      refine norm_ (a' := ?_) ?_ ?_
      rotate_left
      ·
       show Act.put _ (some 17) _ = _
       simp only [Act.put, List.setIfInBounds_toArray, List.set_cons_zero, List.set_cons_succ, i64_w, i32_w]
       rfl
      refine one_ (i := 12) (N := some 20) #[true, true, true, true, true, true, true, true, true, true, true, true, true, false, false] rfl rfl (one_of HT_.out z14_4) (by decide) (fun K hK => ?_)
      refine goes_ Try.func99 z14_4 rfl #[.slice A0_3 l0_3.length c0_3] (by rfl) rfl rfl z14_12 ?_
      with_reducible refine (impl_varTexts.calls k _ _ l0_3 t376 _ ?side1 ?side2 A5.out).mono ?_
      (case side1 => repeat (first | exact (Kd.C_below HR0_3.out HB.out) | (with_reducible refine Kd.C_alloc ?_ _) | (with_reducible refine Kd.C_drewN ?_ _) | (with_reducible refine Kd.C_drew ?_)))
      (case side2 => exact HC0_3.out)
      rintro e w21 ⟨rfl, hb⟩
      refine ⟨_, rfl, ?_⟩
      have n0_ := Aside0.mk (Kd.R_below z14_3 hb)
      have n1_ := Aside0.mk (blk_below (g := gb370) (o := .cells #[.int .i64 a0_0, .int .i64 a0_1, .int .i64 a0_2, .slice A0_3 l0_3.length c0_3, .int .i64 a0_4, .string a0_5, .string a0_6, .int .i64 a0_7, .int .i64 a0_8, .int .i64 a0_9] 31 (0, 0)) z14_2 hb)
      have n2_ := Aside0.mk (below_step z14_0 hb)
      clear HO374
      clear BK370
      clear HB
      have HO374 := n0_
      have BK370 := n1_
      have HB := n2_
      clear n0_ n1_ n2_
      (try clear hb)
      (try clear hb2)
      (try clear hk)
      (try clear hi)
      refine hK.out _ _ ⟨(blk_cell BK370.out 0).trans rfl, (blk_cell BK370.out 1).trans rfl, (blk_cell BK370.out 2).trans rfl, (blk_cell BK370.out 3).trans rfl, (blk_cell BK370.out 4).trans rfl, (blk_cell BK370.out 5).trans rfl, (blk_cell BK370.out 6).trans rfl, (blk_cell BK370.out 7).trans rfl, (blk_cell BK370.out 8).trans rfl, (blk_cell BK370.out 9).trans rfl⟩ (fun hHeld => ?_)
      clear hK K
      refine norm_ (a' := ?_) ?_ ?_
      rotate_left
      ·
       show Act.put _ (some 20) _ = _
       simp only [Act.put, List.setIfInBounds_toArray, List.set_cons_zero, List.set_cons_succ, i64_w, i32_w]
       rfl
      refine pure_ (i := 13) (N := some 21) (v := ?_) (a' := ?_) #[true, true, true, true, true, true, true, true, true, true, true, true, true, true, false] rfl rfl (any_of HT_.out z14_4) (fun _ _ _ h => h) (Or.inl ⟨by rfl, ?_⟩) ?_ ?_
      rotate_left
      ·
       exact z14_7
      rotate_left
      ·
       exact z14_1
      refine pure_ (i := 14) (N := some 4) (v := ?_) (a' := ?_) #[true, true, true, true, true, true, true, true, true, true, true, true, true, true, true] rfl rfl (any_of HT_.out z14_4) (fun _ _ _ h => h) (Or.inl ⟨by rfl, ?_⟩) ?_ ?_
      rotate_left
      ·
       exact z14_7
      rotate_left
      ·
       exact z14_1
      refine done_ (done_of HT_.out z14_4) ?_
      try go_wp2
      have n0_ := Aside0.mk (Kd.R_drew HO374.out)
      have n1_ := Aside0.mk (blk_drew BK370.out)
      have n2_ := Aside0.mk (below_drew1 HB.out)
      clear HO374
      clear BK370
      clear HB
      have HO374 := n0_
      have BK370 := n1_
      have HB := n2_
      clear n0_ n1_ n2_
      refine start_ (n := 26) (S := fun w' => True) (ds := []) #[false, false, false, false, false, false, false, false, false, false, false, false, false, false, false, false, false, false, false, false, false, false, false, false, false, false] z14_4 rfl rfl trivial (fun hHeld => ?_); refine with_tabW impl_ActText.tab4 impl_ActText.bits4 (fun HT_ HW_ => ?_)
      generalize w21.drew = w22 at HO374 BK370 HB hHeld ⊢
      refine pure_ (i := 0) (N := some 22) (v := ?_) (a' := ?_) #[true, false, false, false, false, false, false, false, false, false, false, false, false, false, false, false, false, false, false, false, false, false, false, false, false, false] rfl rfl (any_of HT_.out z14_4) (fun _ _ _ h => h) (Or.inl ⟨by rfl, ?_⟩) ?_ ?_
      rotate_left
      ·
       exact z14_7
      rotate_left
      ·
       exact z14_1
      refine pure_ (i := 1) (N := some 23) (v := ?_) (a' := ?_) #[true, true, false, false, false, false, false, false, false, false, false, false, false, false, false, false, false, false, false, false, false, false, false, false, false, false] rfl rfl (any_of HT_.out z14_4) (fun _ _ _ h => h) (Or.inl ⟨by rfl, ?_⟩) ?_ ?_
      rotate_left
      ·
       exact z14_7
      rotate_left
      ·
       exact z14_1
      refine pure_ (i := 6) (N := some 28) (v := ?_) (a' := ?_) #[true, true, false, false, false, false, true, false, false, false, false, false, false, false, false, false, false, false, false, false, false, false, false, false, false, false] rfl rfl (any_of HT_.out z14_4) (fun _ _ _ h => h) (Or.inl ⟨by rfl, ?_⟩) ?_ ?_
      rotate_left
      ·
       exact z14_7
      rotate_left
      ·
       exact z14_1
      refine pure_ (i := 8) (N := some 30) (v := ?_) (a' := ?_) #[true, true, false, false, false, false, true, false, true, false, false, false, false, false, false, false, false, false, false, false, false, false, false, false, false, false] rfl rfl (any_of HT_.out z14_4) (fun _ _ _ h => h) (Or.inl ⟨by rfl, ?_⟩) ?_ ?_
      rotate_left
      ·
       exact z14_7
      rotate_left
      ·
       exact z14_1
      refine pure_ (i := 13) (N := some 35) (v := ?_) (a' := ?_) #[true, true, false, false, false, false, true, false, true, false, false, false, false, true, false, false, false, false, false, false, false, false, false, false, false, false] rfl rfl (any_of HT_.out z14_4) (fun _ _ _ h => h) (Or.inl ⟨by rfl, ?_⟩) ?_ ?_
      rotate_left
      ·
       exact z14_7
      rotate_left
      ·
       exact z14_1
      refine pure_ (i := 15) (N := some 37) (v := ?_) (a' := ?_) #[true, true, false, false, false, false, true, false, true, false, false, false, false, true, false, true, false, false, false, false, false, false, false, false, false, false] rfl rfl (any_of HT_.out z14_4) (fun _ _ _ h => h) (Or.inl ⟨by rfl, ?_⟩) ?_ ?_
      rotate_left
      ·
       exact z14_7
      rotate_left
      ·
       exact z14_1
      refine pure_ (i := 16) (N := some 38) (v := ?_) (a' := ?_) #[true, true, false, false, false, false, true, false, true, false, false, false, false, true, false, true, true, false, false, false, false, false, false, false, false, false] rfl rfl (any_of HT_.out z14_4) (fun _ _ _ h => h) (Or.inl ⟨by rfl, ?_⟩) ?_ ?_
      rotate_left
      ·
       exact z14_7
      rotate_left
      ·
       exact z14_1
      refine pure_ (i := 18) (N := some 40) (v := ?_) (a' := ?_) #[true, true, false, false, false, false, true, false, true, false, false, false, false, true, false, true, true, false, true, false, false, false, false, false, false, false] rfl rfl (any_of HT_.out z14_4) (fun _ _ _ h => h) (Or.inl ⟨by rfl, ?_⟩) ?_ ?_
      rotate_left
      ·
       exact z14_7
      rotate_left
      ·
       exact z14_1
      refine pure_ (i := 19) (N := some 41) (v := ?_) (a' := ?_) #[true, true, false, false, false, false, true, false, true, false, false, false, false, true, false, true, true, false, true, true, false, false, false, false, false, false] rfl rfl (any_of HT_.out z14_4) (fun _ _ _ h => h) (Or.inl ⟨by rfl, ?_⟩) ?_ ?_
      rotate_left
      ·
       exact z14_7
      rotate_left
      ·
       exact z14_1
      refine inv_at [2, 3, 4, 5, 7, 9, 10, 11, 12, 14, 17, 20, 21, 22, 23, 24, 25] (fun a0_ b a w' => ∃ (v378 : Value) (v382 : Value) (v386 : Value), a = putSel a0_ b [(2, 24, .int .i64 a0_4), (3, 25, v378), (4, 26, .string t380), (5, 27, .string ((t375 ++ t376) ++ t380)), (7, 29, .string a0_5), (9, 31, .string a0_6), (10, 32, v382), (11, 33, .string t384), (12, 34, .string (((t375 ++ t376) ++ t380) ++ t384)), (14, 36, .int .i64 a0_7), (17, 39, .int .i64 a0_8), (20, 42, .int .i64 a0_9), (21, 43, v386), (22, 44, .string t388), (23, 45, .string ((((t375 ++ t376) ++ t380) ++ t384) ++ t388)), (24, 2, .string ((((t375 ++ t376) ++ t380) ++ t384) ++ t388)), (25, 3, .bool true)] ∧ (Kd.R (Kd.int .i64) 3 w' w.heap.size (fun _ => True) (.slice Ao19 y372.length co19) y372) ∧ (w'.heap[gb370]? = some (.cells #[.int .i64 a0_0, .int .i64 a0_1, .int .i64 a0_2, .slice A0_3 l0_3.length c0_3, .int .i64 a0_4, .string a0_5, .string a0_6, .int .i64 a0_7, .int .i64 a0_8, .int .i64 a0_9] 31 (0, 0))) ∧ (Below w.heap.size w w') ∧ (b 3 = true → Kd.R (Kd.int .i64) 3 w' w.heap.size (fun k_ => some k_ ≠ (.slice Ao19 y372.length co19 : Value).ownBlock) v378 y377) ∧ (b 10 = true → Kd.R Kd.string 9 w' w.heap.size (fun _ => True) v382 y381) ∧ (b 21 = true → Kd.R (Kd.int .i64) 3 w' w.heap.size (fun k_ => some k_ ≠ (.slice Ao19 y372.length co19 : Value).ownBlock) v386 y385)) HT_.out HW_.out z14_4 z14_4 ?_ ?_ ?_
      ·
       exact ⟨.bool false, .bool false, .bool false, by simp only [putSel, Bool.false_eq_true, if_false], HO374.out, BK370.out, HB.out, fun h_ => absurd h_ (by decide), fun h_ => absurd h_ (by decide), fun h_ => absurd h_ (by decide)⟩
      ·
       skip
       clear BK370 HB HO374
       refine steps_cons ?_ ?_
       ·
        rintro b a w' ⟨v378, v382, v386, ha, Q_HO374, Q_BK370, Q_HB, Q_HO379, Q_HO383, Q_HO387⟩ hb_ hon hoff
        refine ⟨_, rfl, fun K hK => ?_⟩
        have e23 : a.tmps[23]? = some (.pointer (some ⟨gb370, 4, none⟩)) := by rw [ha]; exact (putSel_off rfl).trans rfl
        replace ha := Aside0.mk ha
        have HO374 := Aside0.mk Q_HO374
        have BK370 := Aside0.mk Q_BK370
        have HB := Aside0.mk Q_HB
        have hc0_ : w'.cell? ⟨gb370, 0, none⟩ = some (.int .i64 a0_0) := (blk_cell BK370.out 0).trans rfl
        have hc1_ : w'.cell? ⟨gb370, 1, none⟩ = some (.int .i64 a0_1) := (blk_cell BK370.out 1).trans rfl
        have hc2_ : w'.cell? ⟨gb370, 2, none⟩ = some (.int .i64 a0_2) := (blk_cell BK370.out 2).trans rfl
        have hc3_ : w'.cell? ⟨gb370, 3, none⟩ = some (.slice A0_3 l0_3.length c0_3) := (blk_cell BK370.out 3).trans rfl
        have hc4_ : w'.cell? ⟨gb370, 4, none⟩ = some (.int .i64 a0_4) := (blk_cell BK370.out 4).trans rfl
        have hc5_ : w'.cell? ⟨gb370, 5, none⟩ = some (.string a0_5) := (blk_cell BK370.out 5).trans rfl
        have hc6_ : w'.cell? ⟨gb370, 6, none⟩ = some (.string a0_6) := (blk_cell BK370.out 6).trans rfl
        have hc7_ : w'.cell? ⟨gb370, 7, none⟩ = some (.int .i64 a0_7) := (blk_cell BK370.out 7).trans rfl
        have hc8_ : w'.cell? ⟨gb370, 8, none⟩ = some (.int .i64 a0_8) := (blk_cell BK370.out 8).trans rfl
        have hc9_ : w'.cell? ⟨gb370, 9, none⟩ = some (.int .i64 a0_9) := (blk_cell BK370.out 9).trans rfl
        refine value_ (w1 := w') (v := .int .i64 a0_4) (by rfl) rfl ?_ ?_
        ·
         go_simp
         (try simp only [i64_w])
         try rfl
        refine hK.out _ _ ⟨v378, v382, v386, (by rw [ha.out]; exact putSel_upk 0 hb_ rfl rfl rfl), Q_HO374, Q_BK370, Q_HB, fun h0_ => absurd ((hoff 3 z14_4).symm.trans h0_) (by decide), Q_HO383, Q_HO387⟩
       refine steps_cons ?_ ?_
       ·
        rintro b a w' ⟨v378, v382, v386, ha, Q_HO374, Q_BK370, Q_HB, Q_HO379, Q_HO383, Q_HO387⟩ hb_ hon hoff
        refine ⟨_, rfl, fun K hK => ?_⟩
        have e24 : a.tmps[24]? = some (.int .i64 a0_4) := by rw [ha]; exact putSel_on (e := (2, 24, .int .i64 a0_4)) 0 rfl rfl (hon 2 z14_4) rfl
        replace ha := Aside0.mk ha
        have HO374 := Aside0.mk Q_HO374
        have BK370 := Aside0.mk Q_BK370
        have HB := Aside0.mk Q_HB
        refine Kd.R_lit_step (Kd.int .i64) _ 3 ?hg (N := 25) ?hd (xs := ([a0_4] : List Int)) (inner := [.int .i64 a0_4]) (ok := fun _ => True) (okp := fun _ => True) ?hr ?hp (fun _ hk => hk) trivial (Below.refl _ _) (Nat.le_refl _) (by simp) ?_; (case hd => rfl); (case hg => rfl); (case hr => first | (go_simp; done) | (go_simp; rfl)); (case hp => exact (Reps.one (show Kd.M (Kd.int .i64) _ _ _ a0_4 [.int .i64 a0_4] from rfl) (Reps.none _ _)))
        intro v378 w23 ho24 hb hg_ hnew_
        clear hg_ hnew_
        (first | rw [← Ny377.out] at ho24 | (simp only [Int.reduceToNat] at ho24; rw [← Ny377.out] at ho24))
        have n0_ := Aside0.mk (Kd.R_elder' z14_3 (Kd.R_base ho24) hb)
        have n1_ := Aside0.mk (Kd.R_lower (Kd.R_new' ho24 (Kd.R_lt z14_3)) (below_size z14_0))
        have n2_ := Aside0.mk (blk_below (g := gb370) (o := .cells #[.int .i64 a0_0, .int .i64 a0_1, .int .i64 a0_2, .slice A0_3 l0_3.length c0_3, .int .i64 a0_4, .string a0_5, .string a0_6, .int .i64 a0_7, .int .i64 a0_8, .int .i64 a0_9] 31 (0, 0)) z14_2 hb)
        have n3_ := Aside0.mk (below_step z14_0 hb)
        have z_HO383 := fun (h0_ : b 10 = true) => (show Kd.R Kd.string 9 w23 w.heap.size (fun _ => True) v382 y381 from by first | exact (Kd.R_below z14_8 hb) | exact Kd.R_mono (Kd.R_below z14_8 hb) (fun _ h_ => by first | trivial | exact h_ | exact h_.1))
        have z_HO387 := fun (h0_ : b 21 = true) => (show Kd.R (Kd.int .i64) 3 w23 w.heap.size (fun k_ => some k_ ≠ (.slice Ao19 y372.length co19 : Value).ownBlock) v386 y385 from by first | exact (Kd.R_elder' z14_5 (Kd.R_base ho24) hb) | exact Kd.R_mono (Kd.R_elder' z14_5 (Kd.R_base ho24) hb) (fun _ h_ => by first | trivial | exact h_ | exact h_.1))
        clear HO374
        clear BK370
        clear HB
        have HO374 := n0_
        have HO379 := n1_
        have BK370 := n2_
        have HB := n3_
        clear n0_ n1_ n2_ n3_
        clear hb ho24
        refine hK.out _ _ ⟨v378, v382, v386, (by rw [ha.out]; exact putSel_upk 1 hb_ rfl rfl rfl), z14_13, z14_2, z14_0, fun _ => (by (with_reducible repeat (first | apply Kd.R_alloc | apply Kd.R_drewN | apply Kd.R_drew)); exact Kd.R_mono HO379.out (fun _ hk => by first | exact hk.2 | trivial)), z_HO383, z_HO387⟩
       refine steps_cons ?_ ?_
       ·
        rintro b a w' ⟨v378, v382, v386, ha, Q_HO374, Q_BK370, Q_HB, Q_HO379, Q_HO383, Q_HO387⟩ hb_ hon hoff
        refine ⟨_, rfl, fun K hK => ?_⟩
        have e25 : a.tmps[25]? = some (v378) := by rw [ha]; exact putSel_on (e := (3, 25, v378)) 1 rfl rfl (hon 3 z14_4) rfl
        replace ha := Aside0.mk ha
        have HO374 := Aside0.mk Q_HO374
        have BK370 := Aside0.mk Q_BK370
        have HB := Aside0.mk Q_HB
        have HO379 := Aside0.mk (Q_HO379 (hon 3 z14_4))
        obtain ⟨Ao26, co26, eo26⟩ := Kd.R_slice HO379.out
        (first | subst eo26 | (injection eo26 with f1_ f2_ f3_; have f4_ := f1_.symm; have f5_ := f3_.symm; clear f1_ f2_ f3_; subst f4_; subst f5_))
        refine goes_ Try.func99 z14_4 rfl #[.slice Ao26 y377.length co26] (by rfl) rfl rfl (by first | (simp only [List.map_toArray, List.map_cons, List.map_nil, Act.eval, Array.getD_eq_getD_getElem?, Option.getD_some, e25]; done) | (simp only [List.map_toArray, List.map_cons, List.map_nil, Act.eval, Array.getD_eq_getD_getElem?, Option.getD_some, e25]; rfl)) ?_
        with_reducible refine (impl_varTexts.calls k _ _ y377 t380 _ ?side1 ?side2 A7.out).mono ?_
        (case side1 => repeat (first | exact (Kd.R_reads' HO379.out).2.2 | (with_reducible refine Kd.C_alloc ?_ _) | (with_reducible refine Kd.C_drewN ?_ _) | (with_reducible refine Kd.C_drew ?_)))
        (case side2 => exact (Kd.R_reads' HO379.out).2.1)
        rintro e w27 ⟨rfl, hb⟩
        refine ⟨_, rfl, ?_⟩
        have n0_ := Aside0.mk (Kd.R_below z14_3 hb)
        have n1_ := Aside0.mk (Kd.R_below z14_9 hb)
        have n2_ := Aside0.mk (blk_below (g := gb370) (o := .cells #[.int .i64 a0_0, .int .i64 a0_1, .int .i64 a0_2, .slice A0_3 l0_3.length c0_3, .int .i64 a0_4, .string a0_5, .string a0_6, .int .i64 a0_7, .int .i64 a0_8, .int .i64 a0_9] 31 (0, 0)) z14_2 hb)
        have n3_ := Aside0.mk (below_step z14_0 hb)
        have z_HO383 := fun (h0_ : b 10 = true) => (show Kd.R Kd.string 9 w27 w.heap.size (fun _ => True) v382 y381 from by first | exact (Kd.R_below z14_8 hb) | exact Kd.R_mono (Kd.R_below z14_8 hb) (fun _ h_ => by first | trivial | exact h_ | exact h_.1))
        have z_HO387 := fun (h0_ : b 21 = true) => (show Kd.R (Kd.int .i64) 3 w27 w.heap.size (fun k_ => some k_ ≠ (.slice Ao19 y372.length co19 : Value).ownBlock) v386 y385 from by first | exact (Kd.R_below z14_5 hb) | exact Kd.R_mono (Kd.R_below z14_5 hb) (fun _ h_ => by first | trivial | exact h_ | exact h_.1))
        clear HO374
        clear HO379
        clear BK370
        clear HB
        have HO374 := n0_
        have HO379 := n1_
        have BK370 := n2_
        have HB := n3_
        clear n0_ n1_ n2_ n3_
        (try clear hb)
        (try clear hb2)
        (try clear hk)
        (try clear hi)
        refine hK.out _ _ ⟨.slice Ao26 y377.length co26, v382, v386, (by rw [ha.out]; exact putSel_upk 2 hb_ rfl rfl rfl), z14_3, z14_2, z14_0, fun _ => z14_9, z_HO383, z_HO387⟩
       refine steps_cons ?_ ?_
       ·
        rintro b a w' ⟨v378, v382, v386, ha, Q_HO374, Q_BK370, Q_HB, Q_HO379, Q_HO383, Q_HO387⟩ hb_ hon hoff
        refine ⟨_, rfl, fun K hK => ?_⟩
        have e22 : a.tmps[22]? = some (.string (t375 ++ t376)) := by rw [ha]; exact (putSel_off rfl).trans rfl
        have e26 : a.tmps[26]? = some (.string t380) := by rw [ha]; exact putSel_on (e := (4, 26, .string t380)) 2 rfl rfl (hon 4 z14_4) rfl
        replace ha := Aside0.mk ha
        have HO374 := Aside0.mk Q_HO374
        have BK370 := Aside0.mk Q_BK370
        have HB := Aside0.mk Q_HB
        have HO379 := Aside0.mk (Q_HO379 (hon 3 z14_4))
        refine value_ (w1 := w') (v := .string ((t375 ++ t376) ++ t380)) (by rfl) rfl ?_ ?_
        ·
         go_simp
         (try simp only [i64_w])
         try rfl
        refine hK.out _ _ ⟨v378, v382, v386, (by rw [ha.out]; exact putSel_upk 3 hb_ rfl rfl rfl), Q_HO374, Q_BK370, Q_HB, Q_HO379, Q_HO383, Q_HO387⟩
       refine steps_cons ?_ ?_
       ·
        rintro b a w' ⟨v378, v382, v386, ha, Q_HO374, Q_BK370, Q_HB, Q_HO379, Q_HO383, Q_HO387⟩ hb_ hon hoff
        refine ⟨_, rfl, fun K hK => ?_⟩
        have e28 : a.tmps[28]? = some (.pointer (some ⟨gb370, 5, none⟩)) := by rw [ha]; exact (putSel_off rfl).trans rfl
        replace ha := Aside0.mk ha
        have HO374 := Aside0.mk Q_HO374
        have BK370 := Aside0.mk Q_BK370
        have HB := Aside0.mk Q_HB
        have hc0_ : w'.cell? ⟨gb370, 0, none⟩ = some (.int .i64 a0_0) := (blk_cell BK370.out 0).trans rfl
        have hc1_ : w'.cell? ⟨gb370, 1, none⟩ = some (.int .i64 a0_1) := (blk_cell BK370.out 1).trans rfl
        have hc2_ : w'.cell? ⟨gb370, 2, none⟩ = some (.int .i64 a0_2) := (blk_cell BK370.out 2).trans rfl
        have hc3_ : w'.cell? ⟨gb370, 3, none⟩ = some (.slice A0_3 l0_3.length c0_3) := (blk_cell BK370.out 3).trans rfl
        have hc4_ : w'.cell? ⟨gb370, 4, none⟩ = some (.int .i64 a0_4) := (blk_cell BK370.out 4).trans rfl
        have hc5_ : w'.cell? ⟨gb370, 5, none⟩ = some (.string a0_5) := (blk_cell BK370.out 5).trans rfl
        have hc6_ : w'.cell? ⟨gb370, 6, none⟩ = some (.string a0_6) := (blk_cell BK370.out 6).trans rfl
        have hc7_ : w'.cell? ⟨gb370, 7, none⟩ = some (.int .i64 a0_7) := (blk_cell BK370.out 7).trans rfl
        have hc8_ : w'.cell? ⟨gb370, 8, none⟩ = some (.int .i64 a0_8) := (blk_cell BK370.out 8).trans rfl
        have hc9_ : w'.cell? ⟨gb370, 9, none⟩ = some (.int .i64 a0_9) := (blk_cell BK370.out 9).trans rfl
        refine value_ (w1 := w') (v := .string a0_5) (by rfl) rfl ?_ ?_
        ·
         go_simp
         (try simp only [i64_w])
         try rfl
        refine hK.out _ _ ⟨v378, v382, v386, (by rw [ha.out]; exact putSel_upk 4 hb_ rfl rfl rfl), Q_HO374, Q_BK370, Q_HB, Q_HO379, fun h0_ => absurd ((hoff 10 z14_4).symm.trans h0_) (by decide), Q_HO387⟩
       refine steps_cons ?_ ?_
       ·
        rintro b a w' ⟨v378, v382, v386, ha, Q_HO374, Q_BK370, Q_HB, Q_HO379, Q_HO383, Q_HO387⟩ hb_ hon hoff
        refine ⟨_, rfl, fun K hK => ?_⟩
        have e30 : a.tmps[30]? = some (.pointer (some ⟨gb370, 6, none⟩)) := by rw [ha]; exact (putSel_off rfl).trans rfl
        replace ha := Aside0.mk ha
        have HO374 := Aside0.mk Q_HO374
        have BK370 := Aside0.mk Q_BK370
        have HB := Aside0.mk Q_HB
        have hc0_ : w'.cell? ⟨gb370, 0, none⟩ = some (.int .i64 a0_0) := (blk_cell BK370.out 0).trans rfl
        have hc1_ : w'.cell? ⟨gb370, 1, none⟩ = some (.int .i64 a0_1) := (blk_cell BK370.out 1).trans rfl
        have hc2_ : w'.cell? ⟨gb370, 2, none⟩ = some (.int .i64 a0_2) := (blk_cell BK370.out 2).trans rfl
        have hc3_ : w'.cell? ⟨gb370, 3, none⟩ = some (.slice A0_3 l0_3.length c0_3) := (blk_cell BK370.out 3).trans rfl
        have hc4_ : w'.cell? ⟨gb370, 4, none⟩ = some (.int .i64 a0_4) := (blk_cell BK370.out 4).trans rfl
        have hc5_ : w'.cell? ⟨gb370, 5, none⟩ = some (.string a0_5) := (blk_cell BK370.out 5).trans rfl
        have hc6_ : w'.cell? ⟨gb370, 6, none⟩ = some (.string a0_6) := (blk_cell BK370.out 6).trans rfl
        have hc7_ : w'.cell? ⟨gb370, 7, none⟩ = some (.int .i64 a0_7) := (blk_cell BK370.out 7).trans rfl
        have hc8_ : w'.cell? ⟨gb370, 8, none⟩ = some (.int .i64 a0_8) := (blk_cell BK370.out 8).trans rfl
        have hc9_ : w'.cell? ⟨gb370, 9, none⟩ = some (.int .i64 a0_9) := (blk_cell BK370.out 9).trans rfl
        refine value_ (w1 := w') (v := .string a0_6) (by rfl) rfl ?_ ?_
        ·
         go_simp
         (try simp only [i64_w])
         try rfl
        refine hK.out _ _ ⟨v378, v382, v386, (by rw [ha.out]; exact putSel_upk 5 hb_ rfl rfl rfl), Q_HO374, Q_BK370, Q_HB, Q_HO379, fun h0_ => absurd ((hoff 10 z14_4).symm.trans h0_) (by decide), Q_HO387⟩
       refine steps_cons ?_ ?_
       ·
        rintro b a w' ⟨v378, v382, v386, ha, Q_HO374, Q_BK370, Q_HB, Q_HO379, Q_HO383, Q_HO387⟩ hb_ hon hoff
        refine ⟨_, rfl, fun K hK => ?_⟩
        have e29 : a.tmps[29]? = some (.string a0_5) := by rw [ha]; exact putSel_on (e := (7, 29, .string a0_5)) 4 rfl rfl (hon 7 z14_4) rfl
        have e31 : a.tmps[31]? = some (.string a0_6) := by rw [ha]; exact putSel_on (e := (9, 31, .string a0_6)) 5 rfl rfl (hon 9 z14_4) rfl
        replace ha := Aside0.mk ha
        have HO374 := Aside0.mk Q_HO374
        have BK370 := Aside0.mk Q_BK370
        have HB := Aside0.mk Q_HB
        refine Kd.R_lit_step Kd.string _ 9 ?hg (N := 32) ?hd (xs := ([a0_5, a0_6] : List ByteArray)) (inner := [.string a0_5, .string a0_6]) (ok := fun _ => True) (okp := fun _ => True) ?hr ?hp (fun _ hk => hk) trivial (Below.refl _ _) (Nat.le_refl _) (by simp) ?_; (case hd => rfl); (case hg => rfl); (case hr => first | (go_simp; done) | (go_simp; rfl)); (case hp => exact (Reps.one (show Kd.M Kd.string _ _ _ a0_5 [.string a0_5] from rfl) (Reps.one (show Kd.M Kd.string _ _ _ a0_6 [.string a0_6] from rfl) (Reps.none _ _))))
        intro v382 w23 ho24 hb hg_ hnew_
        clear hg_ hnew_
        (first | rw [← Ny381.out] at ho24 | (simp only [Int.reduceToNat] at ho24; rw [← Ny381.out] at ho24))
        have n0_ := Aside0.mk (Kd.R_below z14_3 hb)
        have n1_ := Aside0.mk (Kd.R_lower ho24 (below_size z14_0))
        have n2_ := Aside0.mk (blk_below (g := gb370) (o := .cells #[.int .i64 a0_0, .int .i64 a0_1, .int .i64 a0_2, .slice A0_3 l0_3.length c0_3, .int .i64 a0_4, .string a0_5, .string a0_6, .int .i64 a0_7, .int .i64 a0_8, .int .i64 a0_9] 31 (0, 0)) z14_2 hb)
        have n3_ := Aside0.mk (below_step z14_0 hb)
        have z_HO379 := fun (h0_ : b 3 = true) => (show Kd.R (Kd.int .i64) 3 w23 w.heap.size (fun k_ => some k_ ≠ (.slice Ao19 y372.length co19 : Value).ownBlock) v378 y377 from by first | exact (Kd.R_below z14_11 hb) | exact Kd.R_mono (Kd.R_below z14_11 hb) (fun _ h_ => by first | trivial | exact h_ | exact h_.1))
        have z_HO387 := fun (h0_ : b 21 = true) => (show Kd.R (Kd.int .i64) 3 w23 w.heap.size (fun k_ => some k_ ≠ (.slice Ao19 y372.length co19 : Value).ownBlock) v386 y385 from by first | exact (Kd.R_below z14_5 hb) | exact Kd.R_mono (Kd.R_below z14_5 hb) (fun _ h_ => by first | trivial | exact h_ | exact h_.1))
        clear HO374
        clear BK370
        clear HB
        have HO374 := n0_
        have HO383 := n1_
        have BK370 := n2_
        have HB := n3_
        clear n0_ n1_ n2_ n3_
        clear hb ho24
        refine hK.out _ _ ⟨v378, v382, v386, (by rw [ha.out]; exact putSel_upk 6 hb_ rfl rfl rfl), z14_3, z14_2, z14_0, z_HO379, fun _ => z14_10, z_HO387⟩
       refine steps_cons ?_ ?_
       ·
        rintro b a w' ⟨v378, v382, v386, ha, Q_HO374, Q_BK370, Q_HB, Q_HO379, Q_HO383, Q_HO387⟩ hb_ hon hoff
        refine ⟨_, rfl, fun K hK => ?_⟩
        have e32 : a.tmps[32]? = some (v382) := by rw [ha]; exact putSel_on (e := (10, 32, v382)) 6 rfl rfl (hon 10 z14_4) rfl
        replace ha := Aside0.mk ha
        have HO374 := Aside0.mk Q_HO374
        have BK370 := Aside0.mk Q_BK370
        have HB := Aside0.mk Q_HB
        have HO379 := Aside0.mk (Q_HO379 (hon 3 z14_4))
        have HO383 := Aside0.mk (Q_HO383 (hon 10 z14_4))
        obtain ⟨Ao30, co30, eo30⟩ := Kd.R_slice HO383.out
        (first | subst eo30 | (injection eo30 with f1_ f2_ f3_; have f4_ := f1_.symm; have f5_ := f3_.symm; clear f1_ f2_ f3_; subst f4_; subst f5_))
        refine goes_ Try.func100 z14_4 rfl #[.slice Ao30 y381.length co30] (by rfl) rfl rfl (by first | (simp only [List.map_toArray, List.map_cons, List.map_nil, Act.eval, Array.getD_eq_getD_getElem?, Option.getD_some, e32]; done) | (simp only [List.map_toArray, List.map_cons, List.map_nil, Act.eval, Array.getD_eq_getD_getElem?, Option.getD_some, e32]; rfl)) ?_
        with_reducible refine (impl_shortTexts.calls k _ _ y381 t384 _ ?side1 ?side2 A9.out).mono ?_
        (case side1 => repeat (first | exact (Kd.R_reads' HO383.out).2.2 | (with_reducible refine Kd.C_alloc ?_ _) | (with_reducible refine Kd.C_drewN ?_ _) | (with_reducible refine Kd.C_drew ?_)))
        (case side2 => exact (Kd.R_reads' HO383.out).2.1)
        rintro e w31 ⟨rfl, hb⟩
        refine ⟨_, rfl, ?_⟩
        have n0_ := Aside0.mk (Kd.R_below z14_3 hb)
        have n1_ := Aside0.mk (Kd.R_below z14_9 hb)
        have n2_ := Aside0.mk (Kd.R_below z14_10 hb)
        have n3_ := Aside0.mk (blk_below (g := gb370) (o := .cells #[.int .i64 a0_0, .int .i64 a0_1, .int .i64 a0_2, .slice A0_3 l0_3.length c0_3, .int .i64 a0_4, .string a0_5, .string a0_6, .int .i64 a0_7, .int .i64 a0_8, .int .i64 a0_9] 31 (0, 0)) z14_2 hb)
        have n4_ := Aside0.mk (below_step z14_0 hb)
        have z_HO387 := fun (h0_ : b 21 = true) => (show Kd.R (Kd.int .i64) 3 w31 w.heap.size (fun k_ => some k_ ≠ (.slice Ao19 y372.length co19 : Value).ownBlock) v386 y385 from by first | exact (Kd.R_below z14_5 hb) | exact Kd.R_mono (Kd.R_below z14_5 hb) (fun _ h_ => by first | trivial | exact h_ | exact h_.1))
        clear HO374
        clear HO379
        clear HO383
        clear BK370
        clear HB
        have HO374 := n0_
        have HO379 := n1_
        have HO383 := n2_
        have BK370 := n3_
        have HB := n4_
        clear n0_ n1_ n2_ n3_ n4_
        (try clear hb)
        (try clear hb2)
        (try clear hk)
        (try clear hi)
        refine hK.out _ _ ⟨v378, .slice Ao30 y381.length co30, v386, (by rw [ha.out]; exact putSel_upk 7 hb_ rfl rfl rfl), z14_3, z14_2, z14_0, fun _ => z14_9, fun _ => z14_10, z_HO387⟩
       refine steps_cons ?_ ?_
       ·
        rintro b a w' ⟨v378, v382, v386, ha, Q_HO374, Q_BK370, Q_HB, Q_HO379, Q_HO383, Q_HO387⟩ hb_ hon hoff
        refine ⟨_, rfl, fun K hK => ?_⟩
        have e27 : a.tmps[27]? = some (.string ((t375 ++ t376) ++ t380)) := by rw [ha]; exact putSel_on (e := (5, 27, .string ((t375 ++ t376) ++ t380))) 3 rfl rfl (hon 5 z14_4) rfl
        have e33 : a.tmps[33]? = some (.string t384) := by rw [ha]; exact putSel_on (e := (11, 33, .string t384)) 7 rfl rfl (hon 11 z14_4) rfl
        replace ha := Aside0.mk ha
        have HO374 := Aside0.mk Q_HO374
        have BK370 := Aside0.mk Q_BK370
        have HB := Aside0.mk Q_HB
        have HO379 := Aside0.mk (Q_HO379 (hon 3 z14_4))
        have HO383 := Aside0.mk (Q_HO383 (hon 10 z14_4))
        refine value_ (w1 := w') (v := .string (((t375 ++ t376) ++ t380) ++ t384)) (by rfl) rfl ?_ ?_
        ·
         go_simp
         (try simp only [i64_w])
         try rfl
        refine hK.out _ _ ⟨v378, v382, v386, (by rw [ha.out]; exact putSel_upk 8 hb_ rfl rfl rfl), Q_HO374, Q_BK370, Q_HB, Q_HO379, Q_HO383, Q_HO387⟩
       refine steps_cons ?_ ?_
       ·
        rintro b a w' ⟨v378, v382, v386, ha, Q_HO374, Q_BK370, Q_HB, Q_HO379, Q_HO383, Q_HO387⟩ hb_ hon hoff
        refine ⟨_, rfl, fun K hK => ?_⟩
        have e35 : a.tmps[35]? = some (.pointer (some ⟨gb370, 7, none⟩)) := by rw [ha]; exact (putSel_off rfl).trans rfl
        replace ha := Aside0.mk ha
        have HO374 := Aside0.mk Q_HO374
        have BK370 := Aside0.mk Q_BK370
        have HB := Aside0.mk Q_HB
        have hc0_ : w'.cell? ⟨gb370, 0, none⟩ = some (.int .i64 a0_0) := (blk_cell BK370.out 0).trans rfl
        have hc1_ : w'.cell? ⟨gb370, 1, none⟩ = some (.int .i64 a0_1) := (blk_cell BK370.out 1).trans rfl
        have hc2_ : w'.cell? ⟨gb370, 2, none⟩ = some (.int .i64 a0_2) := (blk_cell BK370.out 2).trans rfl
        have hc3_ : w'.cell? ⟨gb370, 3, none⟩ = some (.slice A0_3 l0_3.length c0_3) := (blk_cell BK370.out 3).trans rfl
        have hc4_ : w'.cell? ⟨gb370, 4, none⟩ = some (.int .i64 a0_4) := (blk_cell BK370.out 4).trans rfl
        have hc5_ : w'.cell? ⟨gb370, 5, none⟩ = some (.string a0_5) := (blk_cell BK370.out 5).trans rfl
        have hc6_ : w'.cell? ⟨gb370, 6, none⟩ = some (.string a0_6) := (blk_cell BK370.out 6).trans rfl
        have hc7_ : w'.cell? ⟨gb370, 7, none⟩ = some (.int .i64 a0_7) := (blk_cell BK370.out 7).trans rfl
        have hc8_ : w'.cell? ⟨gb370, 8, none⟩ = some (.int .i64 a0_8) := (blk_cell BK370.out 8).trans rfl
        have hc9_ : w'.cell? ⟨gb370, 9, none⟩ = some (.int .i64 a0_9) := (blk_cell BK370.out 9).trans rfl
        refine value_ (w1 := w') (v := .int .i64 a0_7) (by rfl) rfl ?_ ?_
        ·
         go_simp
         (try simp only [i64_w])
         try rfl
        refine hK.out _ _ ⟨v378, v382, v386, (by rw [ha.out]; exact putSel_upk 9 hb_ rfl rfl rfl), Q_HO374, Q_BK370, Q_HB, Q_HO379, Q_HO383, fun h0_ => absurd ((hoff 21 z14_4).symm.trans h0_) (by decide)⟩
       refine steps_cons ?_ ?_
       ·
        rintro b a w' ⟨v378, v382, v386, ha, Q_HO374, Q_BK370, Q_HB, Q_HO379, Q_HO383, Q_HO387⟩ hb_ hon hoff
        refine ⟨_, rfl, fun K hK => ?_⟩
        have e38 : a.tmps[38]? = some (.pointer (some ⟨gb370, 8, none⟩)) := by rw [ha]; exact (putSel_off rfl).trans rfl
        replace ha := Aside0.mk ha
        have HO374 := Aside0.mk Q_HO374
        have BK370 := Aside0.mk Q_BK370
        have HB := Aside0.mk Q_HB
        have hc0_ : w'.cell? ⟨gb370, 0, none⟩ = some (.int .i64 a0_0) := (blk_cell BK370.out 0).trans rfl
        have hc1_ : w'.cell? ⟨gb370, 1, none⟩ = some (.int .i64 a0_1) := (blk_cell BK370.out 1).trans rfl
        have hc2_ : w'.cell? ⟨gb370, 2, none⟩ = some (.int .i64 a0_2) := (blk_cell BK370.out 2).trans rfl
        have hc3_ : w'.cell? ⟨gb370, 3, none⟩ = some (.slice A0_3 l0_3.length c0_3) := (blk_cell BK370.out 3).trans rfl
        have hc4_ : w'.cell? ⟨gb370, 4, none⟩ = some (.int .i64 a0_4) := (blk_cell BK370.out 4).trans rfl
        have hc5_ : w'.cell? ⟨gb370, 5, none⟩ = some (.string a0_5) := (blk_cell BK370.out 5).trans rfl
        have hc6_ : w'.cell? ⟨gb370, 6, none⟩ = some (.string a0_6) := (blk_cell BK370.out 6).trans rfl
        have hc7_ : w'.cell? ⟨gb370, 7, none⟩ = some (.int .i64 a0_7) := (blk_cell BK370.out 7).trans rfl
        have hc8_ : w'.cell? ⟨gb370, 8, none⟩ = some (.int .i64 a0_8) := (blk_cell BK370.out 8).trans rfl
        have hc9_ : w'.cell? ⟨gb370, 9, none⟩ = some (.int .i64 a0_9) := (blk_cell BK370.out 9).trans rfl
        refine value_ (w1 := w') (v := .int .i64 a0_8) (by rfl) rfl ?_ ?_
        ·
         go_simp
         (try simp only [i64_w])
         try rfl
        refine hK.out _ _ ⟨v378, v382, v386, (by rw [ha.out]; exact putSel_upk 10 hb_ rfl rfl rfl), Q_HO374, Q_BK370, Q_HB, Q_HO379, Q_HO383, fun h0_ => absurd ((hoff 21 z14_4).symm.trans h0_) (by decide)⟩
       refine steps_cons ?_ ?_
       ·
        rintro b a w' ⟨v378, v382, v386, ha, Q_HO374, Q_BK370, Q_HB, Q_HO379, Q_HO383, Q_HO387⟩ hb_ hon hoff
        refine ⟨_, rfl, fun K hK => ?_⟩
        have e41 : a.tmps[41]? = some (.pointer (some ⟨gb370, 9, none⟩)) := by rw [ha]; exact (putSel_off rfl).trans rfl
        replace ha := Aside0.mk ha
        have HO374 := Aside0.mk Q_HO374
        have BK370 := Aside0.mk Q_BK370
        have HB := Aside0.mk Q_HB
        have hc0_ : w'.cell? ⟨gb370, 0, none⟩ = some (.int .i64 a0_0) := (blk_cell BK370.out 0).trans rfl
        have hc1_ : w'.cell? ⟨gb370, 1, none⟩ = some (.int .i64 a0_1) := (blk_cell BK370.out 1).trans rfl
        have hc2_ : w'.cell? ⟨gb370, 2, none⟩ = some (.int .i64 a0_2) := (blk_cell BK370.out 2).trans rfl
        have hc3_ : w'.cell? ⟨gb370, 3, none⟩ = some (.slice A0_3 l0_3.length c0_3) := (blk_cell BK370.out 3).trans rfl
        have hc4_ : w'.cell? ⟨gb370, 4, none⟩ = some (.int .i64 a0_4) := (blk_cell BK370.out 4).trans rfl
        have hc5_ : w'.cell? ⟨gb370, 5, none⟩ = some (.string a0_5) := (blk_cell BK370.out 5).trans rfl
        have hc6_ : w'.cell? ⟨gb370, 6, none⟩ = some (.string a0_6) := (blk_cell BK370.out 6).trans rfl
        have hc7_ : w'.cell? ⟨gb370, 7, none⟩ = some (.int .i64 a0_7) := (blk_cell BK370.out 7).trans rfl
        have hc8_ : w'.cell? ⟨gb370, 8, none⟩ = some (.int .i64 a0_8) := (blk_cell BK370.out 8).trans rfl
        have hc9_ : w'.cell? ⟨gb370, 9, none⟩ = some (.int .i64 a0_9) := (blk_cell BK370.out 9).trans rfl
        refine value_ (w1 := w') (v := .int .i64 a0_9) (by rfl) rfl ?_ ?_
        ·
         go_simp
         (try simp only [i64_w])
         try rfl
        refine hK.out _ _ ⟨v378, v382, v386, (by rw [ha.out]; exact putSel_upk 11 hb_ rfl rfl rfl), Q_HO374, Q_BK370, Q_HB, Q_HO379, Q_HO383, fun h0_ => absurd ((hoff 21 z14_4).symm.trans h0_) (by decide)⟩
       refine steps_cons ?_ ?_
       ·
        rintro b a w' ⟨v378, v382, v386, ha, Q_HO374, Q_BK370, Q_HB, Q_HO379, Q_HO383, Q_HO387⟩ hb_ hon hoff
        refine ⟨_, rfl, fun K hK => ?_⟩
        have e36 : a.tmps[36]? = some (.int .i64 a0_7) := by rw [ha]; exact putSel_on (e := (14, 36, .int .i64 a0_7)) 9 rfl rfl (hon 14 z14_4) rfl
        have e39 : a.tmps[39]? = some (.int .i64 a0_8) := by rw [ha]; exact putSel_on (e := (17, 39, .int .i64 a0_8)) 10 rfl rfl (hon 17 z14_4) rfl
        have e42 : a.tmps[42]? = some (.int .i64 a0_9) := by rw [ha]; exact putSel_on (e := (20, 42, .int .i64 a0_9)) 11 rfl rfl (hon 20 z14_4) rfl
        replace ha := Aside0.mk ha
        have HO374 := Aside0.mk Q_HO374
        have BK370 := Aside0.mk Q_BK370
        have HB := Aside0.mk Q_HB
        refine Kd.R_lit_step (Kd.int .i64) _ 3 ?hg (N := 43) ?hd (xs := ([a0_7, a0_8, a0_9] : List Int)) (inner := [.int .i64 a0_7, .int .i64 a0_8, .int .i64 a0_9]) (ok := fun _ => True) (okp := fun _ => True) ?hr ?hp (fun _ hk => hk) trivial (Below.refl _ _) (Nat.le_refl _) (by simp) ?_; (case hd => rfl); (case hg => rfl); (case hr => first | (go_simp; done) | (go_simp; rfl)); (case hp => exact (Reps.one (show Kd.M (Kd.int .i64) _ _ _ a0_7 [.int .i64 a0_7] from rfl) (Reps.one (show Kd.M (Kd.int .i64) _ _ _ a0_8 [.int .i64 a0_8] from rfl) (Reps.one (show Kd.M (Kd.int .i64) _ _ _ a0_9 [.int .i64 a0_9] from rfl) (Reps.none _ _)))))
        intro v386 w23 ho24 hb hg_ hnew_
        clear hg_ hnew_
        (first | rw [← Ny385.out] at ho24 | (simp only [Int.reduceToNat] at ho24; rw [← Ny385.out] at ho24))
        have n0_ := Aside0.mk (Kd.R_elder' z14_3 (Kd.R_base ho24) hb)
        have n1_ := Aside0.mk (Kd.R_lower (Kd.R_new' ho24 (Kd.R_lt z14_3)) (below_size z14_0))
        have n2_ := Aside0.mk (blk_below (g := gb370) (o := .cells #[.int .i64 a0_0, .int .i64 a0_1, .int .i64 a0_2, .slice A0_3 l0_3.length c0_3, .int .i64 a0_4, .string a0_5, .string a0_6, .int .i64 a0_7, .int .i64 a0_8, .int .i64 a0_9] 31 (0, 0)) z14_2 hb)
        have n3_ := Aside0.mk (below_step z14_0 hb)
        have z_HO379 := fun (h0_ : b 3 = true) => (show Kd.R (Kd.int .i64) 3 w23 w.heap.size (fun k_ => some k_ ≠ (.slice Ao19 y372.length co19 : Value).ownBlock) v378 y377 from by first | exact (Kd.R_elder' z14_11 (Kd.R_base ho24) hb) | exact Kd.R_mono (Kd.R_elder' z14_11 (Kd.R_base ho24) hb) (fun _ h_ => by first | trivial | exact h_ | exact h_.1))
        have z_HO383 := fun (h0_ : b 10 = true) => (show Kd.R Kd.string 9 w23 w.heap.size (fun _ => True) v382 y381 from by first | exact (Kd.R_below z14_8 hb) | exact Kd.R_mono (Kd.R_below z14_8 hb) (fun _ h_ => by first | trivial | exact h_ | exact h_.1))
        clear HO374
        clear BK370
        clear HB
        have HO374 := n0_
        have HO387 := n1_
        have BK370 := n2_
        have HB := n3_
        clear n0_ n1_ n2_ n3_
        clear hb ho24
        refine hK.out _ _ ⟨v378, v382, v386, (by rw [ha.out]; exact putSel_upk 12 hb_ rfl rfl rfl), z14_13, z14_2, z14_0, z_HO379, z_HO383, fun _ => (by (with_reducible repeat (first | apply Kd.R_alloc | apply Kd.R_drewN | apply Kd.R_drew)); exact Kd.R_mono HO387.out (fun _ hk => by first | exact hk.2 | trivial))⟩
       refine steps_cons ?_ ?_
       ·
        rintro b a w' ⟨v378, v382, v386, ha, Q_HO374, Q_BK370, Q_HB, Q_HO379, Q_HO383, Q_HO387⟩ hb_ hon hoff
        refine ⟨_, rfl, fun K hK => ?_⟩
        have e43 : a.tmps[43]? = some (v386) := by rw [ha]; exact putSel_on (e := (21, 43, v386)) 12 rfl rfl (hon 21 z14_4) rfl
        replace ha := Aside0.mk ha
        have HO374 := Aside0.mk Q_HO374
        have BK370 := Aside0.mk Q_BK370
        have HB := Aside0.mk Q_HB
        have HO379 := Aside0.mk (Q_HO379 (hon 3 z14_4))
        have HO383 := Aside0.mk (Q_HO383 (hon 10 z14_4))
        have HO387 := Aside0.mk (Q_HO387 (hon 21 z14_4))
        obtain ⟨Ao34, co34, eo34⟩ := Kd.R_slice HO387.out
        (first | subst eo34 | (injection eo34 with f1_ f2_ f3_; have f4_ := f1_.symm; have f5_ := f3_.symm; clear f1_ f2_ f3_; subst f4_; subst f5_))
        refine goes_ Try.func99 z14_4 rfl #[.slice Ao34 y385.length co34] (by rfl) rfl rfl (by first | (simp only [List.map_toArray, List.map_cons, List.map_nil, Act.eval, Array.getD_eq_getD_getElem?, Option.getD_some, e43]; done) | (simp only [List.map_toArray, List.map_cons, List.map_nil, Act.eval, Array.getD_eq_getD_getElem?, Option.getD_some, e43]; rfl)) ?_
        with_reducible refine (impl_varTexts.calls k _ _ y385 t388 _ ?side1 ?side2 A11.out).mono ?_
        (case side1 => repeat (first | exact (Kd.R_reads' HO387.out).2.2 | (with_reducible refine Kd.C_alloc ?_ _) | (with_reducible refine Kd.C_drewN ?_ _) | (with_reducible refine Kd.C_drew ?_)))
        (case side2 => exact (Kd.R_reads' HO387.out).2.1)
        rintro e w35 ⟨rfl, hb⟩
        refine ⟨_, rfl, ?_⟩
        have n0_ := Aside0.mk (Kd.R_below z14_3 hb)
        have n1_ := Aside0.mk (Kd.R_below z14_9 hb)
        have n2_ := Aside0.mk (Kd.R_below z14_10 hb)
        have n3_ := Aside0.mk (Kd.R_below (by (with_reducible repeat (first | apply Kd.R_alloc | apply Kd.R_drewN | apply Kd.R_drew)); exact HO387.out) hb)
        have n4_ := Aside0.mk (blk_below (g := gb370) (o := .cells #[.int .i64 a0_0, .int .i64 a0_1, .int .i64 a0_2, .slice A0_3 l0_3.length c0_3, .int .i64 a0_4, .string a0_5, .string a0_6, .int .i64 a0_7, .int .i64 a0_8, .int .i64 a0_9] 31 (0, 0)) z14_2 hb)
        have n5_ := Aside0.mk (below_step z14_0 hb)
        clear HO374
        clear HO379
        clear HO383
        clear HO387
        clear BK370
        clear HB
        have HO374 := n0_
        have HO379 := n1_
        have HO383 := n2_
        have HO387 := n3_
        have BK370 := n4_
        have HB := n5_
        clear n0_ n1_ n2_ n3_ n4_ n5_
        (try clear hb)
        (try clear hb2)
        (try clear hk)
        (try clear hi)
        refine hK.out _ _ ⟨v378, v382, .slice Ao34 y385.length co34, (by rw [ha.out]; exact putSel_upk 13 hb_ rfl rfl rfl), z14_3, z14_2, z14_0, fun _ => z14_9, fun _ => z14_10, fun _ => (by (with_reducible repeat (first | apply Kd.R_alloc | apply Kd.R_drewN | apply Kd.R_drew)); exact HO387.out)⟩
       refine steps_cons ?_ ?_
       ·
        rintro b a w' ⟨v378, v382, v386, ha, Q_HO374, Q_BK370, Q_HB, Q_HO379, Q_HO383, Q_HO387⟩ hb_ hon hoff
        refine ⟨_, rfl, fun K hK => ?_⟩
        have e34 : a.tmps[34]? = some (.string (((t375 ++ t376) ++ t380) ++ t384)) := by rw [ha]; exact putSel_on (e := (12, 34, .string (((t375 ++ t376) ++ t380) ++ t384))) 8 rfl rfl (hon 12 z14_4) rfl
        have e44 : a.tmps[44]? = some (.string t388) := by rw [ha]; exact putSel_on (e := (22, 44, .string t388)) 13 rfl rfl (hon 22 z14_4) rfl
        replace ha := Aside0.mk ha
        have HO374 := Aside0.mk Q_HO374
        have BK370 := Aside0.mk Q_BK370
        have HB := Aside0.mk Q_HB
        have HO379 := Aside0.mk (Q_HO379 (hon 3 z14_4))
        have HO383 := Aside0.mk (Q_HO383 (hon 10 z14_4))
        have HO387 := Aside0.mk (Q_HO387 (hon 21 z14_4))
        refine value_ (w1 := w') (v := .string ((((t375 ++ t376) ++ t380) ++ t384) ++ t388)) (by rfl) rfl ?_ ?_
        ·
         go_simp
         (try simp only [i64_w])
         try rfl
        refine hK.out _ _ ⟨v378, v382, v386, (by rw [ha.out]; exact putSel_upk 14 hb_ rfl rfl rfl), Q_HO374, Q_BK370, Q_HB, Q_HO379, Q_HO383, Q_HO387⟩
       refine steps_cons ?_ ?_
       ·
        rintro b a w' ⟨v378, v382, v386, ha, Q_HO374, Q_BK370, Q_HB, Q_HO379, Q_HO383, Q_HO387⟩ hb_ hon hoff
        refine ⟨_, rfl, fun K hK => ?_⟩
        have e45 : a.tmps[45]? = some (.string ((((t375 ++ t376) ++ t380) ++ t384) ++ t388)) := by rw [ha]; exact putSel_on (e := (23, 45, .string ((((t375 ++ t376) ++ t380) ++ t384) ++ t388))) 14 rfl rfl (hon 23 z14_4) rfl
        replace ha := Aside0.mk ha
        have HO374 := Aside0.mk Q_HO374
        have BK370 := Aside0.mk Q_BK370
        have HB := Aside0.mk Q_HB
        have HO379 := Aside0.mk (Q_HO379 (hon 3 z14_4))
        have HO383 := Aside0.mk (Q_HO383 (hon 10 z14_4))
        have HO387 := Aside0.mk (Q_HO387 (hon 21 z14_4))
        refine value_ (w1 := w') (v := .string ((((t375 ++ t376) ++ t380) ++ t384) ++ t388)) (by rfl) rfl ?_ ?_
        ·
         go_simp
         (try simp only [i64_w])
         try rfl
        refine hK.out _ _ ⟨v378, v382, v386, (by rw [ha.out]; exact putSel_upk 15 hb_ rfl rfl rfl), Q_HO374, Q_BK370, Q_HB, Q_HO379, Q_HO383, Q_HO387⟩
       refine steps_cons ?_ ?_
       ·
        rintro b a w' ⟨v378, v382, v386, ha, Q_HO374, Q_BK370, Q_HB, Q_HO379, Q_HO383, Q_HO387⟩ hb_ hon hoff
        refine ⟨_, rfl, fun K hK => ?_⟩
        replace ha := Aside0.mk ha
        have HO374 := Aside0.mk Q_HO374
        have BK370 := Aside0.mk Q_BK370
        have HB := Aside0.mk Q_HB
        have HO379 := Aside0.mk (Q_HO379 (hon 3 z14_4))
        have HO383 := Aside0.mk (Q_HO383 (hon 10 z14_4))
        have HO387 := Aside0.mk (Q_HO387 (hon 21 z14_4))
        refine value_ (w1 := w') (v := .bool true) (by rfl) rfl ?_ ?_
        ·
         go_simp
         (try simp only [i64_w])
         try rfl
        refine hK.out _ _ ⟨v378, v382, v386, (by rw [ha.out]; exact putSel_upk 16 hb_ rfl rfl rfl), Q_HO374, Q_BK370, Q_HB, Q_HO379, Q_HO383, Q_HO387⟩
       exact steps_nil
      rintro b a w35 hall ⟨v378, v382, v386, ha, Q_HO374, Q_BK370, Q_HB, Q_HO379, Q_HO383, Q_HO387⟩
      clear BK370 HB HO374
      have hb2_ := hall 2 z14_4
      have hb3_ := hall 3 z14_4
      have hb4_ := hall 4 z14_4
      have hb5_ := hall 5 z14_4
      have hb7_ := hall 7 z14_4
      have hb9_ := hall 9 z14_4
      have hb10_ := hall 10 z14_4
      have hb11_ := hall 11 z14_4
      have hb12_ := hall 12 z14_4
      have hb14_ := hall 14 z14_4
      have hb17_ := hall 17 z14_4
      have hb20_ := hall 20 z14_4
      have hb21_ := hall 21 z14_4
      have hb22_ := hall 22 z14_4
      have hb23_ := hall 23 z14_4
      have hb24_ := hall 24 z14_4
      have hb25_ := hall 25 z14_4
      subst ha
      simp only [putSel, hb2_, hb3_, hb4_, hb5_, hb7_, hb9_, hb10_, hb11_, hb12_, hb14_, hb17_, hb20_, hb21_, hb22_, hb23_, hb24_, hb25_, if_true, Act.put, List.setIfInBounds_toArray, List.set_cons_zero, List.set_cons_succ]
      have HO374 := Aside0.mk Q_HO374
      clear Q_HO374
      have BK370 := Aside0.mk Q_BK370
      clear Q_BK370
      have HB := Aside0.mk Q_HB
      clear Q_HB
      have HO379 := Aside0.mk (Q_HO379 hb3_)
      clear Q_HO379
      have HO383 := Aside0.mk (Q_HO383 hb10_)
      clear Q_HO383
      have HO387 := Aside0.mk (Q_HO387 hb21_)
      clear Q_HO387
      clear hall hb2_ hb3_ hb4_ hb5_ hb7_ hb9_ hb10_ hb11_ hb12_ hb14_ hb17_ hb20_ hb21_ hb22_ hb23_ hb24_ hb25_
      try go_wp2
      go_ret2
      exact ⟨by first | rfl | (simp [errW_none, errW_some] <;> rfl) | (simp [*, errW_none, errW_some] <;> rfl), z14_0⟩
     ·
      rw [if_neg c12] at H
      exact absurd H (by simp)
    ·
     rw [if_neg c10] at H
     exact absurd H (by simp)
   ·
    rw [if_neg c8] at H
    exact absurd H (by simp)
  ·
   rw [if_neg c6] at H
   exact absurd H (by simp)
 ·
  replace c3 := Bool.eq_false_iff.mpr c3
  subst c3
  have H1 : (some ((⟨#[]⟩ : ByteArray), false)) = some (r1, r2) := by rw [if_neg (show ¬ (false = true) by decide)] at H; exact H
  clear H
  have H := H1
  clear H1
  simp only [Option.some.injEq, Prod.mk.injEq] at H
  obtain ⟨rfl, rfl⟩ := H
  go_enter Try.func22, Try.ntmps22
  go_wp2_with (first | ((with_reducible refine gate_dst (N := 1) rfl ?_); refine box_event ?hg (N := 1) ?hd (cs := #[.int .i64 a0_0, .int .i64 a0_1, .int .i64 a0_2, .slice A0_3 l0_3.length c0_3, .int .i64 a0_4, .string a0_5, .string a0_6, .int .i64 a0_7, .int .i64 a0_8, .int .i64 a0_9]) (t := 31) ?hr ?_; (case hd => rfl); (case hg => rfl); (case hr => first | (go_simp; done) | (go_simp; rfl)); intro gb370 hg w36 hbox hb; have n0_ := Aside0.mk (below_step z14_6 hb); have n1_ := Aside0.mk (hbox); have n2_ := Aside0.mk ((by rw [hg]; exact (below_size z14_6) : w.heap.size ≤ gb370)); have n3_ := Aside0.mk ((by rw [hg]; exact (below_size z14_6) : w.heap.size ≤ gb370)); clear HB; have HB := n0_; have BK370 := n1_; have GW370 := n2_; have GE370 := n3_; clear n0_ n1_ n2_ n3_; clear hb hbox hg; have hcz37_0 : w36.cell? ⟨gb370, 0, none⟩ = some (.int .i64 a0_0) := (blk_cell BK370.out 0).trans rfl; have hcz37_1 : w36.cell? ⟨gb370, 1, none⟩ = some (.int .i64 a0_1) := (blk_cell BK370.out 1).trans rfl; have hcz37_2 : w36.cell? ⟨gb370, 2, none⟩ = some (.int .i64 a0_2) := (blk_cell BK370.out 2).trans rfl; have hcz37_3 : w36.cell? ⟨gb370, 3, none⟩ = some (.slice A0_3 l0_3.length c0_3) := (blk_cell BK370.out 3).trans rfl; have hcz37_4 : w36.cell? ⟨gb370, 4, none⟩ = some (.int .i64 a0_4) := (blk_cell BK370.out 4).trans rfl; have hcz37_5 : w36.cell? ⟨gb370, 5, none⟩ = some (.string a0_5) := (blk_cell BK370.out 5).trans rfl; have hcz37_6 : w36.cell? ⟨gb370, 6, none⟩ = some (.string a0_6) := (blk_cell BK370.out 6).trans rfl; have hcz37_7 : w36.cell? ⟨gb370, 7, none⟩ = some (.int .i64 a0_7) := (blk_cell BK370.out 7).trans rfl; have hcz37_8 : w36.cell? ⟨gb370, 8, none⟩ = some (.int .i64 a0_8) := (blk_cell BK370.out 8).trans rfl; have hcz37_9 : w36.cell? ⟨gb370, 9, none⟩ = some (.int .i64 a0_9) := (blk_cell BK370.out 9).trans rfl; have hfz37_0 := blk_frozen BK370.out 0; have hfz37_1 := blk_frozen BK370.out 1; have hfz37_2 := blk_frozen BK370.out 2; have hfz37_3 := blk_frozen BK370.out 3; have hfz37_4 := blk_frozen BK370.out 4; have hfz37_5 := blk_frozen BK370.out 5; have hfz37_6 := blk_frozen BK370.out 6; have hfz37_7 := blk_frozen BK370.out 7; have hfz37_8 := blk_frozen BK370.out 8; have hfz37_9 := blk_frozen BK370.out 9) | ((with_reducible refine gate_callee (f := 20) rfl ?_); refine goesL_ (some 6) rfl rfl Try.func20 z14_4 rfl #[.agg #[.int .i64 a0_0, .int .i64 a0_1, .int .i64 a0_2, .slice A0_3 l0_3.length c0_3, .int .i64 a0_4, .string a0_5, .string a0_6, .int .i64 a0_7, .int .i64 a0_8, .int .i64 a0_9]] rfl z14_12 ?_; (with_reducible refine (impl_ActOk.calls k a0_0 a0_1 a0_2 _ _ l0_3 a0_4 a0_5 a0_6 a0_7 a0_8 a0_9 false _ ?side1 ?side2 A2.out).mono ?_); (case side1 => repeat (first | exact (Kd.C_below HR0_3.out HB.out) | (with_reducible refine Kd.C_alloc ?_ _) | (with_reducible refine Kd.C_drewN ?_ _) | (with_reducible refine Kd.C_drew ?_))); (case side2 => exact HC0_3.out); rintro e w38 ⟨rfl, hb⟩; refine ⟨_, rfl, ?_⟩; have n0_ := Aside0.mk (blk_below (g := gb370) (o := .cells #[.int .i64 a0_0, .int .i64 a0_1, .int .i64 a0_2, .slice A0_3 l0_3.length c0_3, .int .i64 a0_4, .string a0_5, .string a0_6, .int .i64 a0_7, .int .i64 a0_8, .int .i64 a0_9] 31 (0, 0)) z14_2 hb); have n1_ := Aside0.mk (below_step z14_0 hb); clear BK370; clear HB; have BK370 := n0_; have HB := n1_; clear n0_ n1_))
  go_ret2
  exact ⟨by first | rfl | (simp [errW_none, errW_some] <;> rfl) | (simp [*, errW_none, errW_some] <;> rfl), z14_0⟩
end Go.Proofs.Ytmohbiagcbfkpaa.QAct
