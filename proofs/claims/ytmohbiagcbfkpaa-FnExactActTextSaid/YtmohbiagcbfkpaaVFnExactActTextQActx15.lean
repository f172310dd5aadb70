/- What the functions behind Act compute, and that the program's calls come to just that. Written by a program of this session on the base of the kit's print. No condition. -/
import Derived.Test.YtmohbiagcbfkpaaVFnExactActTextQActx0
import Derived.Test.YtmohbiagcbfkpaaVFnExactActTextQActx2
import Derived.Test.YtmohbiagcbfkpaaVFnExactActTextQActx3
import Derived.Test.YtmohbiagcbfkpaaVFnExactActTextQActx12
import Derived.Test.YtmohbiagcbfkpaaVFnExactActTextQActx14
namespace Go.Proofs.Ytmohbiagcbfkpaa.QAct
open Go.RowKit Go.Proofs.YtmohbiagcbfkpaaW.PrintWords Go.Proofs.YtmohbiagcbfkpaaW.PrintLast Go.Proofs.YtmohbiagcbfkpaaW.PrintMore
attribute [local go_sem] max2_int min2_int max_two min_two max_three min_three max_four min_four   -- for this text's walks alone
set_option linter.unusedVariables false
set_option linter.unusedSimpArgs false
theorem z15_11 {P : Prop} (h : P := by kernel_rfl) : P := h
theorem z15_10 {P : Prop} (h : P := by (with_reducible repeat (first | apply Kd.R_alloc | apply Kd.R_drewN | apply Kd.R_drew)); exact Kd.R_mono HO410.out (fun _ hk => trivial)) : P := h
theorem z15_9 {P : Prop} (h : P := by simp only [Act.put, List.setIfInBounds_toArray, List.set_cons_zero, List.set_cons_succ, i64_w, i32_w]; rfl) : P := h
theorem z15_8 {P : Prop} (h : P := by (with_reducible repeat (first | apply Kd.R_alloc | apply Kd.R_drewN | apply Kd.R_drew)); exact HO_418003.out) : P := h
theorem z15_7 {P : Prop} (h : P := by (with_reducible repeat (first | apply Kd.R_alloc | apply Kd.R_drewN | apply Kd.R_drew)); exact HO396.out) : P := h
theorem z15_6 {P : Prop} (h : P := by (with_reducible repeat (first | refine blk_drewN ?_ _ | refine blk_drew ?_ | refine blk_alloc ?_ _)); exact BK417.out) : P := h
theorem z15_5 {P : Prop} (h : P := by first | rfl | (simp only [List.map_toArray, List.map_cons, List.map_nil]; first | done | rfl)) : P := h
theorem z15_4 {P : Prop} (h : P := by repeat (first | (with_reducible first | exact HB.out | apply below_alloc | apply pw_below_drewN | apply below_drew1) | exact HB.out)) : P := h
theorem z15_3 {P : Prop} (h : P := by (with_reducible repeat (first | apply Kd.R_alloc | apply Kd.R_drewN | apply Kd.R_drew)); exact (Kd.R_mono (Kd.R_far (p := ⟨gb417, 9, none⟩) (Kd.R_far (p := ⟨gb417, 8, none⟩) (Kd.R_far (p := ⟨gb417, 7, none⟩) (Kd.R_far (p := ⟨gb417, 6, none⟩) (Kd.R_far (p := ⟨gb417, 5, none⟩) (Kd.R_far (p := ⟨gb417, 4, none⟩) (Kd.R_far (p := ⟨gb417, 3, none⟩) (Kd.R_far (p := ⟨gb417, 2, none⟩) (Kd.R_far (p := ⟨gb417, 1, none⟩) (Kd.R_far (p := ⟨gb417, 0, none⟩) (Kd.R_types HO410.out BK417.out (by decide)) (fun _ hk => hk.2) (.int .i64 t405)) (fun _ hk => hk.2) (.int .i64 t406)) (fun _ hk => hk.2) (.int .i64 t407)) (fun _ hk => hk.2) (.slice Ao24 t408.length co24)) (fun _ hk => hk.2) (.int .i64 t411)) (fun _ hk => hk.2) (.string t412)) (fun _ hk => hk.2) (.string t413)) (fun _ hk => hk.2) (.int .i64 t414)) (fun _ hk => hk.2) (.int .i64 t415)) (fun _ hk => hk.2) (.int .i64 t416)) (fun _ h_ => h_.1))) : P := h
theorem z15_2 {P : Prop} (h : P := by repeat (first | (with_reducible first | exact HB.out | apply below_alloc | apply pw_below_drewN | apply below_drew1 | refine below_set ?_ GE389.out | refine below_set ?_ GE417.out) | exact HB.out)) : P := h
theorem z15_1 {P : Prop} (h : P := by (with_reducible repeat (first | refine blk_drewN ?_ _ | refine blk_drew ?_ | refine blk_alloc ?_ _)); exact BK389.out) : P := h
theorem z15_0 {P : Prop} (h : P := by repeat (first | (with_reducible first | exact HB.out | apply below_alloc | apply pw_below_drewN | apply below_drew1 | refine below_set ?_ GE389.out) | exact HB.out)) : P := h
def laws_FnExactActText.j0 : Nat → Bool → Int → Int → Int → List Int → Int → ByteArray → ByteArray → Int → Int → Int → Int → Int → Int → List Int → Int → ByteArray → ByteArray → Int → Int → Int → Option (Bool)
  | 0, _, _, _, _, _, _, _, _, _, _, _, _, _, _, _, _, _, _, _, _, _ => none
  | k + 1, x34, x390000, x390001, x390002, x390003, x390004, x390005, x390006, x390007, x390008, x390009, x418000, x418001, x418002, x418003, x418004, x418005, x418006, x418007, x418008, x418009 => if x34 = true then (some false) else ((laws_toAct.f k x390000 x390001 x390002 x390003 x390004 x390005 x390006 x390007 x390008 x390009).bind fun bt420 => ((laws_eqAct.f k x418000 x418001 x418002 x418003 x418004 x418005 x418006 x418007 x418008 x418009 bt420.1 bt420.2.1 bt420.2.2.1 bt420.2.2.2.1 bt420.2.2.2.2.1 bt420.2.2.2.2.2.1 bt420.2.2.2.2.2.2.1 bt420.2.2.2.2.2.2.2.1 bt420.2.2.2.2.2.2.2.2.1 bt420.2.2.2.2.2.2.2.2.2).bind fun t432 => (if t432 = true then (some true) else (some false))))
def laws_FnExactActText.f (k : Nat) (a0_0 : Int) (a0_1 : Int) (a0_2 : Int) (l0_3 : List Int) (a0_4 : Int) (a0_5 : ByteArray) (a0_6 : ByteArray) (a0_7 : Int) (a0_8 : Int) (a0_9 : Int) : Option (Bool) := (laws_szAct.f a0_0 a0_1 a0_2 l0_3 a0_4 a0_5 a0_6 a0_7 a0_8 a0_9 1048576).bind fun t390 => (if t390 < 0 then (some true) else ((laws_toAct.f k a0_0 a0_1 a0_2 l0_3 a0_4 a0_5 a0_6 a0_7 a0_8 a0_9).bind fun bt391 => ((spec_ActText.f k bt391.1 bt391.2.1 bt391.2.2.1 bt391.2.2.2.1 bt391.2.2.2.2.1 bt391.2.2.2.2.2.1 bt391.2.2.2.2.2.2.1 bt391.2.2.2.2.2.2.2.1 bt391.2.2.2.2.2.2.2.2.1 bt391.2.2.2.2.2.2.2.2.2).bind fun bt403 => ((laws_toAct.f k a0_0 a0_1 a0_2 l0_3 a0_4 a0_5 a0_6 a0_7 a0_8 a0_9).bind fun bt405 => ((impl_ActText.f k bt405.1 bt405.2.1 bt405.2.2.1 bt405.2.2.2.1 bt405.2.2.2.2.1 bt405.2.2.2.2.2.1 bt405.2.2.2.2.2.2.1 bt405.2.2.2.2.2.2.2.1 bt405.2.2.2.2.2.2.2.2.1 bt405.2.2.2.2.2.2.2.2.2).bind fun bt418 => (if bt418.1.toList = bt403.1.toList then (laws_FnExactActText.j0 k (bt418.2 != bt403.2) a0_0 a0_1 a0_2 l0_3 a0_4 a0_5 a0_6 a0_7 a0_8 a0_9 bt405.1 bt405.2.1 bt405.2.2.1 bt405.2.2.2.1 bt405.2.2.2.2.1 bt405.2.2.2.2.2.1 bt405.2.2.2.2.2.2.1 bt405.2.2.2.2.2.2.2.1 bt405.2.2.2.2.2.2.2.2.1 bt405.2.2.2.2.2.2.2.2.2) else (laws_FnExactActText.j0 k true a0_0 a0_1 a0_2 l0_3 a0_4 a0_5 a0_6 a0_7 a0_8 a0_9 bt405.1 bt405.2.1 bt405.2.2.1 bt405.2.2.2.1 bt405.2.2.2.2.1 bt405.2.2.2.2.2.1 bt405.2.2.2.2.2.2.1 bt405.2.2.2.2.2.2.2.1 bt405.2.2.2.2.2.2.2.2.1 bt405.2.2.2.2.2.2.2.2.2)))))))
set_option maxHeartbeats 8000000 in
set_option maxRecDepth 100000 in
theorem laws_FnExactActText.calls_true (k : Nat) (a0_0 : Int) (a0_1 : Int) (a0_2 : Int) (A0_3 : Option Addr) (c0_3 : Nat) (l0_3 : List Int) (a0_4 : Int) (a0_5 : ByteArray) (a0_6 : ByteArray) (a0_7 : Int) (a0_8 : Int) (a0_9 : Int) (w : World) (hr0_3 : Kd.C (Kd.int .i64) w A0_3 l0_3.length l0_3) (hc0_3 : l0_3.length ≤ c0_3) (h : laws_FnExactActText.f k a0_0 a0_1 a0_2 l0_3 a0_4 a0_5 a0_6 a0_7 a0_8 a0_9 = some true) :
  Calls Try.prog 5 #[.agg #[.int .i64 a0_0, .int .i64 a0_1, .int .i64 a0_2, .slice A0_3 l0_3.length c0_3, .int .i64 a0_4, .string a0_5, .string a0_6, .int .i64 a0_7, .int .i64 a0_8, .int .i64 a0_9]] w fun e w' => e = .returned (.bool true) ∧ Below w.heap.size w w' := by
 have hu26 := Try.underlying26
 have hu31 := Try.underlying31
 have HR0_3 := Aside0.mk hr0_3
 have HC0_3 := Aside0.mk hc0_3
 clear hr0_3 hc0_3
 have HB := Aside0.mk (Below.refl w.heap.size w)
 have H : ((laws_szAct.f a0_0 a0_1 a0_2 l0_3 a0_4 a0_5 a0_6 a0_7 a0_8 a0_9 1048576).bind fun t390 => (if t390 < 0 then (some true) else ((laws_toAct.f k a0_0 a0_1 a0_2 l0_3 a0_4 a0_5 a0_6 a0_7 a0_8 a0_9).bind fun bt391 => ((spec_ActText.f k bt391.1 bt391.2.1 bt391.2.2.1 bt391.2.2.2.1 bt391.2.2.2.2.1 bt391.2.2.2.2.2.1 bt391.2.2.2.2.2.2.1 bt391.2.2.2.2.2.2.2.1 bt391.2.2.2.2.2.2.2.2.1 bt391.2.2.2.2.2.2.2.2.2).bind fun bt403 => ((laws_toAct.f k a0_0 a0_1 a0_2 l0_3 a0_4 a0_5 a0_6 a0_7 a0_8 a0_9).bind fun bt405 => ((impl_ActText.f k bt405.1 bt405.2.1 bt405.2.2.1 bt405.2.2.2.1 bt405.2.2.2.2.1 bt405.2.2.2.2.2.1 bt405.2.2.2.2.2.2.1 bt405.2.2.2.2.2.2.2.1 bt405.2.2.2.2.2.2.2.2.1 bt405.2.2.2.2.2.2.2.2.2).bind fun bt418 => (if bt418.1.toList = bt403.1.toList then (laws_FnExactActText.j0 k (bt418.2 != bt403.2) a0_0 a0_1 a0_2 l0_3 a0_4 a0_5 a0_6 a0_7 a0_8 a0_9 bt405.1 bt405.2.1 bt405.2.2.1 bt405.2.2.2.1 bt405.2.2.2.2.1 bt405.2.2.2.2.2.1 bt405.2.2.2.2.2.2.1 bt405.2.2.2.2.2.2.2.1 bt405.2.2.2.2.2.2.2.2.1 bt405.2.2.2.2.2.2.2.2.2) else (laws_FnExactActText.j0 k true a0_0 a0_1 a0_2 l0_3 a0_4 a0_5 a0_6 a0_7 a0_8 a0_9 bt405.1 bt405.2.1 bt405.2.2.1 bt405.2.2.2.1 bt405.2.2.2.2.1 bt405.2.2.2.2.2.1 bt405.2.2.2.2.2.2.1 bt405.2.2.2.2.2.2.2.1 bt405.2.2.2.2.2.2.2.2.1 bt405.2.2.2.2.2.2.2.2.2)))))))) = some true := h
 clear h
 replace H := Option.bind_eq_some_iff.mp H
 obtain ⟨t390, A20, H⟩ := H
 (try dsimp only at H)
 have A2 := Aside0.mk A20
 clear A20
 by_cases c3 : t390 < 0
 ·
  rw [if_pos c3] at H
  have c3b0 : decide (t390 < 0) = true := decide_eq_true c3
  clear c3
  clear H
  go_enter Try.func5, Try.ntmps5
  go_wp2_with (first | ((with_reducible refine gate_dst (N := 1) rfl ?_); refine box_event ?hg (N := 1) ?hd (cs := #[.int .i64 a0_0, .int .i64 a0_1, .int .i64 a0_2, .slice A0_3 l0_3.length c0_3, .int .i64 a0_4, .string a0_5, .string a0_6, .int .i64 a0_7, .int .i64 a0_8, .int .i64 a0_9]) (t := 26) ?hr ?_; (case hd => rfl); (case hg => rfl); (case hr => first | (go_simp; done) | (go_simp; rfl)); intro gb389 hg w4 hbox hb; have n0_ := Aside0.mk (below_step z15_4 hb); have n1_ := Aside0.mk (hbox); have n2_ := Aside0.mk ((by rw [hg]; exact (below_size z15_4) : w.heap.size ≤ gb389)); have n3_ := Aside0.mk ((by rw [hg]; exact (below_size z15_4) : w.heap.size ≤ gb389)); clear HB; have HB := n0_; have BK389 := n1_; have GW389 := n2_; have GE389 := n3_; clear n0_ n1_ n2_ n3_; clear hb hbox hg; have hcz5_0 : w4.cell? ⟨gb389, 0, none⟩ = some (.int .i64 a0_0) := (blk_cell BK389.out 0).trans rfl; have hcz5_1 : w4.cell? ⟨gb389, 1, none⟩ = some (.int .i64 a0_1) := (blk_cell BK389.out 1).trans rfl; have hcz5_2 : w4.cell? ⟨gb389, 2, none⟩ = some (.int .i64 a0_2) := (blk_cell BK389.out 2).trans rfl; have hcz5_3 : w4.cell? ⟨gb389, 3, none⟩ = some (.slice A0_3 l0_3.length c0_3) := (blk_cell BK389.out 3).trans rfl; have hcz5_4 : w4.cell? ⟨gb389, 4, none⟩ = some (.int .i64 a0_4) := (blk_cell BK389.out 4).trans rfl; have hcz5_5 : w4.cell? ⟨gb389, 5, none⟩ = some (.string a0_5) := (blk_cell BK389.out 5).trans rfl; have hcz5_6 : w4.cell? ⟨gb389, 6, none⟩ = some (.string a0_6) := (blk_cell BK389.out 6).trans rfl; have hcz5_7 : w4.cell? ⟨gb389, 7, none⟩ = some (.int .i64 a0_7) := (blk_cell BK389.out 7).trans rfl; have hcz5_8 : w4.cell? ⟨gb389, 8, none⟩ = some (.int .i64 a0_8) := (blk_cell BK389.out 8).trans rfl; have hcz5_9 : w4.cell? ⟨gb389, 9, none⟩ = some (.int .i64 a0_9) := (blk_cell BK389.out 9).trans rfl; have hfz5_0 := blk_frozen BK389.out 0; have hfz5_1 := blk_frozen BK389.out 1; have hfz5_2 := blk_frozen BK389.out 2; have hfz5_3 := blk_frozen BK389.out 3; have hfz5_4 := blk_frozen BK389.out 4; have hfz5_5 := blk_frozen BK389.out 5; have hfz5_6 := blk_frozen BK389.out 6; have hfz5_7 := blk_frozen BK389.out 7; have hfz5_8 := blk_frozen BK389.out 8; have hfz5_9 := blk_frozen BK389.out 9) | ((with_reducible refine gate_callee (f := 14) rfl ?_); refine goesL_ (some 11) rfl rfl Try.func14 z15_11 rfl #[.agg #[.int .i64 a0_0, .int .i64 a0_1, .int .i64 a0_2, .slice A0_3 l0_3.length c0_3, .int .i64 a0_4, .string a0_5, .string a0_6, .int .i64 a0_7, .int .i64 a0_8, .int .i64 a0_9], .int .i64 1048576] rfl z15_5 ?_; (with_reducible refine (laws_szAct.calls a0_0 a0_1 a0_2 _ _ l0_3 a0_4 a0_5 a0_6 a0_7 a0_8 a0_9 1048576 t390 _ ?side1 ?side2 A2.out).mono ?_); (case side1 => repeat (first | exact (Kd.C_below HR0_3.out HB.out) | (with_reducible refine Kd.C_alloc ?_ _) | (with_reducible refine Kd.C_drewN ?_ _) | (with_reducible refine Kd.C_drew ?_))); (case side2 => exact HC0_3.out); rintro e w6 ⟨rfl, hb⟩; refine ⟨_, rfl, ?_⟩; have n0_ := Aside0.mk (blk_below (g := gb389) (o := .cells #[.int .i64 a0_0, .int .i64 a0_1, .int .i64 a0_2, .slice A0_3 l0_3.length c0_3, .int .i64 a0_4, .string a0_5, .string a0_6, .int .i64 a0_7, .int .i64 a0_8, .int .i64 a0_9] 26 (0, 0)) z15_1 hb); have n1_ := Aside0.mk (below_step z15_0 hb); clear BK389; clear HB; have BK389 := n0_; have HB := n1_; clear n0_ n1_))
  go_ret
  exact ⟨by first | rfl | (simp [errW_none, errW_some] <;> rfl) | (simp [*, errW_none, errW_some] <;> rfl), z15_0⟩
 ·
  rw [if_neg c3] at H
  have c3b0 : decide (t390 < 0) = false := decide_eq_false c3
  clear c3
  replace H := Option.bind_eq_some_iff.mp H
  obtain ⟨⟨t391, t392, t393, t394, t397, t398, t399, t400, t401, t402⟩, A70, H⟩ := H
  (try dsimp only at H)
  have A7 := Aside0.mk A70
  clear A70
  replace H := Option.bind_eq_some_iff.mp H
  obtain ⟨⟨t403, t404⟩, A80, H⟩ := H
  (try dsimp only at H)
  have A8 := Aside0.mk A80
  clear A80
  replace H := Option.bind_eq_some_iff.mp H
  obtain ⟨⟨t405, t406, t407, t408, t411, t412, t413, t414, t415, t416⟩, A90, H⟩ := H
  (try dsimp only at H)
  have A9 := Aside0.mk A90
  clear A90
  replace H := Option.bind_eq_some_iff.mp H
  obtain ⟨⟨t418, t419⟩, A100, H⟩ := H
  (try dsimp only at H)
  have A10 := Aside0.mk A100
  clear A100
  have HC11 := Aside0.mk H
  clear H
  go_enter Try.func5, Try.ntmps5
  go_upto_region 8 with (first | ((with_reducible refine gate_dst (N := 1) rfl ?_); refine box_event ?hg (N := 1) ?hd (cs := #[.int .i64 a0_0, .int .i64 a0_1, .int .i64 a0_2, .slice A0_3 l0_3.length c0_3, .int .i64 a0_4, .string a0_5, .string a0_6, .int .i64 a0_7, .int .i64 a0_8, .int .i64 a0_9]) (t := 26) ?hr ?_; (case hd => rfl); (case hg => rfl); (case hr => first | (go_simp; done) | (go_simp; rfl)); intro gb389 hg w12 hbox hb; have n0_ := Aside0.mk (below_step z15_4 hb); have n1_ := Aside0.mk (hbox); have n2_ := Aside0.mk ((by rw [hg]; exact (below_size z15_4) : w.heap.size ≤ gb389)); have n3_ := Aside0.mk ((by rw [hg]; exact (below_size z15_4) : w.heap.size ≤ gb389)); clear HB; have HB := n0_; have BK389 := n1_; have GW389 := n2_; have GE389 := n3_; clear n0_ n1_ n2_ n3_; clear hb hbox hg; have hcz13_0 : w12.cell? ⟨gb389, 0, none⟩ = some (.int .i64 a0_0) := (blk_cell BK389.out 0).trans rfl; have hcz13_1 : w12.cell? ⟨gb389, 1, none⟩ = some (.int .i64 a0_1) := (blk_cell BK389.out 1).trans rfl; have hcz13_2 : w12.cell? ⟨gb389, 2, none⟩ = some (.int .i64 a0_2) := (blk_cell BK389.out 2).trans rfl; have hcz13_3 : w12.cell? ⟨gb389, 3, none⟩ = some (.slice A0_3 l0_3.length c0_3) := (blk_cell BK389.out 3).trans rfl; have hcz13_4 : w12.cell? ⟨gb389, 4, none⟩ = some (.int .i64 a0_4) := (blk_cell BK389.out 4).trans rfl; have hcz13_5 : w12.cell? ⟨gb389, 5, none⟩ = some (.string a0_5) := (blk_cell BK389.out 5).trans rfl; have hcz13_6 : w12.cell? ⟨gb389, 6, none⟩ = some (.string a0_6) := (blk_cell BK389.out 6).trans rfl; have hcz13_7 : w12.cell? ⟨gb389, 7, none⟩ = some (.int .i64 a0_7) := (blk_cell BK389.out 7).trans rfl; have hcz13_8 : w12.cell? ⟨gb389, 8, none⟩ = some (.int .i64 a0_8) := (blk_cell BK389.out 8).trans rfl; have hcz13_9 : w12.cell? ⟨gb389, 9, none⟩ = some (.int .i64 a0_9) := (blk_cell BK389.out 9).trans rfl; have hfz13_0 := blk_frozen BK389.out 0; have hfz13_1 := blk_frozen BK389.out 1; have hfz13_2 := blk_frozen BK389.out 2; have hfz13_3 := blk_frozen BK389.out 3; have hfz13_4 := blk_frozen BK389.out 4; have hfz13_5 := blk_frozen BK389.out 5; have hfz13_6 := blk_frozen BK389.out 6; have hfz13_7 := blk_frozen BK389.out 7; have hfz13_8 := blk_frozen BK389.out 8; have hfz13_9 := blk_frozen BK389.out 9) | ((with_reducible refine gate_callee (f := 14) rfl ?_); refine goesL_ (some 11) rfl rfl Try.func14 z15_11 rfl #[.agg #[.int .i64 a0_0, .int .i64 a0_1, .int .i64 a0_2, .slice A0_3 l0_3.length c0_3, .int .i64 a0_4, .string a0_5, .string a0_6, .int .i64 a0_7, .int .i64 a0_8, .int .i64 a0_9], .int .i64 1048576] rfl z15_5 ?_; (with_reducible refine (laws_szAct.calls a0_0 a0_1 a0_2 _ _ l0_3 a0_4 a0_5 a0_6 a0_7 a0_8 a0_9 1048576 t390 _ ?side1 ?side2 A2.out).mono ?_); (case side1 => repeat (first | exact (Kd.C_below HR0_3.out HB.out) | (with_reducible refine Kd.C_alloc ?_ _) | (with_reducible refine Kd.C_drewN ?_ _) | (with_reducible refine Kd.C_drew ?_))); (case side2 => exact HC0_3.out); rintro e w14 ⟨rfl, hb⟩; refine ⟨_, rfl, ?_⟩; have n0_ := Aside0.mk (blk_below (g := gb389) (o := .cells #[.int .i64 a0_0, .int .i64 a0_1, .int .i64 a0_2, .slice A0_3 l0_3.length c0_3, .int .i64 a0_4, .string a0_5, .string a0_6, .int .i64 a0_7, .int .i64 a0_8, .int .i64 a0_9] 26 (0, 0)) z15_1 hb); have n1_ := Aside0.mk (below_step z15_0 hb); clear BK389; clear HB; have BK389 := n0_; have HB := n1_; clear n0_ n1_; have hcz15_0 : w14.cell? ⟨gb389, 0, none⟩ = some (.int .i64 a0_0) := (blk_cell BK389.out 0).trans rfl; have hcz15_1 : w14.cell? ⟨gb389, 1, none⟩ = some (.int .i64 a0_1) := (blk_cell BK389.out 1).trans rfl; have hcz15_2 : w14.cell? ⟨gb389, 2, none⟩ = some (.int .i64 a0_2) := (blk_cell BK389.out 2).trans rfl; have hcz15_3 : w14.cell? ⟨gb389, 3, none⟩ = some (.slice A0_3 l0_3.length c0_3) := (blk_cell BK389.out 3).trans rfl; have hcz15_4 : w14.cell? ⟨gb389, 4, none⟩ = some (.int .i64 a0_4) := (blk_cell BK389.out 4).trans rfl; have hcz15_5 : w14.cell? ⟨gb389, 5, none⟩ = some (.string a0_5) := (blk_cell BK389.out 5).trans rfl; have hcz15_6 : w14.cell? ⟨gb389, 6, none⟩ = some (.string a0_6) := (blk_cell BK389.out 6).trans rfl; have hcz15_7 : w14.cell? ⟨gb389, 7, none⟩ = some (.int .i64 a0_7) := (blk_cell BK389.out 7).trans rfl; have hcz15_8 : w14.cell? ⟨gb389, 8, none⟩ = some (.int .i64 a0_8) := (blk_cell BK389.out 8).trans rfl; have hcz15_9 : w14.cell? ⟨gb389, 9, none⟩ = some (.int .i64 a0_9) := (blk_cell BK389.out 9).trans rfl; have hfz15_0 := blk_frozen BK389.out 0; have hfz15_1 := blk_frozen BK389.out 1; have hfz15_2 := blk_frozen BK389.out 2; have hfz15_3 := blk_frozen BK389.out 3; have hfz15_4 := blk_frozen BK389.out 4; have hfz15_5 := blk_frozen BK389.out 5; have hfz15_6 := blk_frozen BK389.out 6; have hfz15_7 := blk_frozen BK389.out 7; have hfz15_8 := blk_frozen BK389.out 8; have hfz15_9 := blk_frozen BK389.out 9) | ((with_reducible refine gate_callee (f := 16) rfl ?_); refine goesL_ (some 16) rfl rfl Try.func16 z15_11 rfl #[.agg #[.int .i64 a0_0, .int .i64 a0_1, .int .i64 a0_2, .slice A0_3 l0_3.length c0_3, .int .i64 a0_4, .string a0_5, .string a0_6, .int .i64 a0_7, .int .i64 a0_8, .int .i64 a0_9]] rfl z15_5 ?_; (with_reducible refine (laws_toAct.calls k a0_0 a0_1 a0_2 _ _ l0_3 a0_4 a0_5 a0_6 a0_7 a0_8 a0_9 t391 t392 t393 t394 t397 t398 t399 t400 t401 t402 _ ?side1 ?side2 A7.out).mono ?_); (case side1 => repeat (first | exact (Kd.C_below HR0_3.out HB.out) | (with_reducible refine Kd.C_alloc ?_ _) | (with_reducible refine Kd.C_drewN ?_ _) | (with_reducible refine Kd.C_drew ?_))); (case side2 => exact HC0_3.out); rintro e w16 ⟨v395, rfl, ho0, hb⟩; refine ⟨_, rfl, ?_⟩; have n0_ := Aside0.mk (Kd.R_lower ho0 (below_size z15_0)); have n1_ := Aside0.mk (blk_below (g := gb389) (o := .cells #[.int .i64 a0_0, .int .i64 a0_1, .int .i64 a0_2, .slice A0_3 l0_3.length c0_3, .int .i64 a0_4, .string a0_5, .string a0_6, .int .i64 a0_7, .int .i64 a0_8, .int .i64 a0_9] 26 (0, 0)) z15_1 hb); have n2_ := Aside0.mk (below_step z15_0 hb); clear BK389; clear HB; have HO396 := n0_; have BK389 := n1_; have HB := n2_; clear n0_ n1_ n2_; (try clear ho0); obtain ⟨Ao17, co17, eo17⟩ := Kd.R_slice HO396.out; subst eo17) | ((with_reducible refine gate_callee (f := 21) rfl ?_); refine goesL_ (some 17) rfl rfl Try.func21 z15_11 rfl #[.agg #[.int .i64 t391, .int .i64 t392, .int .i64 t393, .slice Ao17 t394.length co17, .int .i64 t397, .string t398, .string t399, .int .i64 t400, .int .i64 t401, .int .i64 t402]] rfl z15_5 ?_; (with_reducible refine (spec_ActText.calls k t391 t392 t393 _ _ t394 t397 t398 t399 t400 t401 t402 t403 t404 _ ?side1 ?side2 A8.out).mono ?_); (case side1 => repeat (first | exact (Kd.R_reads' HO396.out).2.2 | (with_reducible refine Kd.C_alloc ?_ _) | (with_reducible refine Kd.C_drewN ?_ _) | (with_reducible refine Kd.C_drew ?_))); (case side2 => exact (Kd.R_reads' HO396.out).2.1); rintro e w18 ⟨rfl, hb⟩; refine ⟨_, rfl, ?_⟩; have n0_ := Aside0.mk (Kd.R_below z15_7 hb); have n1_ := Aside0.mk (blk_below (g := gb389) (o := .cells #[.int .i64 a0_0, .int .i64 a0_1, .int .i64 a0_2, .slice A0_3 l0_3.length c0_3, .int .i64 a0_4, .string a0_5, .string a0_6, .int .i64 a0_7, .int .i64 a0_8, .int .i64 a0_9] 26 (0, 0)) z15_1 hb); have n2_ := Aside0.mk (below_step z15_0 hb); clear HO396; clear BK389; clear HB; have HO396 := n0_; have BK389 := n1_; have HB := n2_; clear n0_ n1_ n2_; have hcz19_0 : w18.cell? ⟨gb389, 0, none⟩ = some (.int .i64 a0_0) := (blk_cell BK389.out 0).trans rfl; have hcz19_1 : w18.cell? ⟨gb389, 1, none⟩ = some (.int .i64 a0_1) := (blk_cell BK389.out 1).trans rfl; have hcz19_2 : w18.cell? ⟨gb389, 2, none⟩ = some (.int .i64 a0_2) := (blk_cell BK389.out 2).trans rfl; have hcz19_3 : w18.cell? ⟨gb389, 3, none⟩ = some (.slice A0_3 l0_3.length c0_3) := (blk_cell BK389.out 3).trans rfl; have hcz19_4 : w18.cell? ⟨gb389, 4, none⟩ = some (.int .i64 a0_4) := (blk_cell BK389.out 4).trans rfl; have hcz19_5 : w18.cell? ⟨gb389, 5, none⟩ = some (.string a0_5) := (blk_cell BK389.out 5).trans rfl; have hcz19_6 : w18.cell? ⟨gb389, 6, none⟩ = some (.string a0_6) := (blk_cell BK389.out 6).trans rfl; have hcz19_7 : w18.cell? ⟨gb389, 7, none⟩ = some (.int .i64 a0_7) := (blk_cell BK389.out 7).trans rfl; have hcz19_8 : w18.cell? ⟨gb389, 8, none⟩ = some (.int .i64 a0_8) := (blk_cell BK389.out 8).trans rfl; have hcz19_9 : w18.cell? ⟨gb389, 9, none⟩ = some (.int .i64 a0_9) := (blk_cell BK389.out 9).trans rfl; have hfz19_0 := blk_frozen BK389.out 0; have hfz19_1 := blk_frozen BK389.out 1; have hfz19_2 := blk_frozen BK389.out 2; have hfz19_3 := blk_frozen BK389.out 3; have hfz19_4 := blk_frozen BK389.out 4; have hfz19_5 := blk_frozen BK389.out 5; have hfz19_6 := blk_frozen BK389.out 6; have hfz19_7 := blk_frozen BK389.out 7; have hfz19_8 := blk_frozen BK389.out 8; have hfz19_9 := blk_frozen BK389.out 9) | ((with_reducible refine gate_callee (f := 16) rfl ?_); refine goesL_ (some 21) rfl rfl Try.func16 z15_11 rfl #[.agg #[.int .i64 a0_0, .int .i64 a0_1, .int .i64 a0_2, .slice A0_3 l0_3.length c0_3, .int .i64 a0_4, .string a0_5, .string a0_6, .int .i64 a0_7, .int .i64 a0_8, .int .i64 a0_9]] rfl z15_5 ?_; (with_reducible refine (laws_toAct.calls k a0_0 a0_1 a0_2 _ _ l0_3 a0_4 a0_5 a0_6 a0_7 a0_8 a0_9 t405 t406 t407 t408 t411 t412 t413 t414 t415 t416 _ ?side1 ?side2 A9.out).mono ?_); (case side1 => repeat (first | exact (Kd.C_below HR0_3.out HB.out) | (with_reducible refine Kd.C_alloc ?_ _) | (with_reducible refine Kd.C_drewN ?_ _) | (with_reducible refine Kd.C_drew ?_))); (case side2 => exact HC0_3.out); rintro e w20 ⟨v409, rfl, ho0, hb⟩; refine ⟨_, rfl, ?_⟩; have n0_ := Aside0.mk (Kd.R_elder' z15_7 (Kd.R_base ho0) hb); have n1_ := Aside0.mk (Kd.R_lower (Kd.R_new' ho0 (Kd.R_lt z15_7)) (below_size z15_0)); have n2_ := Aside0.mk (blk_below (g := gb389) (o := .cells #[.int .i64 a0_0, .int .i64 a0_1, .int .i64 a0_2, .slice A0_3 l0_3.length c0_3, .int .i64 a0_4, .string a0_5, .string a0_6, .int .i64 a0_7, .int .i64 a0_8, .int .i64 a0_9] 26 (0, 0)) z15_1 hb); have n3_ := Aside0.mk (below_step z15_0 hb); clear HO396; clear BK389; clear HB; have HO396 := n0_; have HO410 := n1_; have BK389 := n2_; have HB := n3_; clear n0_ n1_ n2_ n3_; (try clear ho0)) | ((with_reducible refine gate_dst (N := 6) rfl ?_); refine box_event ?hg (N := 6) ?hd (cs := #[.int .i64 0, .int .i64 0, .int .i64 0, .slice none 0 0, .int .i64 0, .string (⟨#[]⟩ : ByteArray), .string (⟨#[]⟩ : ByteArray), .int .i64 0, .int .i64 0, .int .i64 0]) (t := 31) ?hr ?_; (case hd => rfl); (case hg => rfl); (case hr => first | (go_simp; done) | (go_simp; rfl)); intro gb417 hg w21 hbox hb; have n0_ := Aside0.mk (Kd.R_below z15_7 hb); have n1_ := Aside0.mk (Kd.R_below (by (with_reducible repeat (first | apply Kd.R_alloc | apply Kd.R_drewN | apply Kd.R_drew)); exact HO410.out) hb); have n2_ := Aside0.mk (blk_below (g := gb389) (o := .cells #[.int .i64 a0_0, .int .i64 a0_1, .int .i64 a0_2, .slice A0_3 l0_3.length c0_3, .int .i64 a0_4, .string a0_5, .string a0_6, .int .i64 a0_7, .int .i64 a0_8, .int .i64 a0_9] 26 (0, 0)) z15_1 hb); have n3_ := Aside0.mk (below_step z15_0 hb); have n4_ := Aside0.mk (hbox); have n5_ := Aside0.mk ((by rw [hg]; exact (below_size z15_0) : w.heap.size ≤ gb417)); have n6_ := Aside0.mk ((by rw [hg]; exact (below_size z15_0) : w.heap.size ≤ gb417)); have n7_ := Aside0.mk ((by rw [hg]; exact Nat.ne_of_lt (blk_lt (g := gb389) (o := .cells #[.int .i64 a0_0, .int .i64 a0_1, .int .i64 a0_2, .slice A0_3 l0_3.length c0_3, .int .i64 a0_4, .string a0_5, .string a0_6, .int .i64 a0_7, .int .i64 a0_8, .int .i64 a0_9] 26 (0, 0)) z15_1) : gb389 ≠ gb417)); have n8_ := Aside0.mk ((by rw [hg]; exact Nat.ne_of_gt (blk_lt (g := gb389) (o := .cells #[.int .i64 a0_0, .int .i64 a0_1, .int .i64 a0_2, .slice A0_3 l0_3.length c0_3, .int .i64 a0_4, .string a0_5, .string a0_6, .int .i64 a0_7, .int .i64 a0_8, .int .i64 a0_9] 26 (0, 0)) z15_1) : gb417 ≠ gb389)); clear HO396; clear HO410; clear BK389; clear HB; have HO396 := n0_; have HO410 := n1_; have BK389 := n2_; have HB := n3_; have BK417 := n4_; have GW417 := n5_; have GE417 := n6_; have NB389_417 := n7_; have NB417_389 := n8_; clear n0_ n1_ n2_ n3_ n4_ n5_ n6_ n7_ n8_; clear hb hbox hg; have hnb22 := NB417_389.out; have hnc22 := NB389_417.out; have hcz23_0 : w21.cell? ⟨gb417, 0, none⟩ = some (.int .i64 0) := (blk_cell BK417.out 0).trans rfl; have hcz23_1 : w21.cell? ⟨gb417, 1, none⟩ = some (.int .i64 0) := (blk_cell BK417.out 1).trans rfl; have hcz23_2 : w21.cell? ⟨gb417, 2, none⟩ = some (.int .i64 0) := (blk_cell BK417.out 2).trans rfl; have hcz23_3 : w21.cell? ⟨gb417, 3, none⟩ = some (.slice none 0 0) := (blk_cell BK417.out 3).trans rfl; have hcz23_4 : w21.cell? ⟨gb417, 4, none⟩ = some (.int .i64 0) := (blk_cell BK417.out 4).trans rfl; have hcz23_5 : w21.cell? ⟨gb417, 5, none⟩ = some (.string (⟨#[]⟩ : ByteArray)) := (blk_cell BK417.out 5).trans rfl; have hcz23_6 : w21.cell? ⟨gb417, 6, none⟩ = some (.string (⟨#[]⟩ : ByteArray)) := (blk_cell BK417.out 6).trans rfl; have hcz23_7 : w21.cell? ⟨gb417, 7, none⟩ = some (.int .i64 0) := (blk_cell BK417.out 7).trans rfl; have hcz23_8 : w21.cell? ⟨gb417, 8, none⟩ = some (.int .i64 0) := (blk_cell BK417.out 8).trans rfl; have hcz23_9 : w21.cell? ⟨gb417, 9, none⟩ = some (.int .i64 0) := (blk_cell BK417.out 9).trans rfl; have hfz23_0 := blk_frozen BK417.out 0; have hfz23_1 := blk_frozen BK417.out 1; have hfz23_2 := blk_frozen BK417.out 2; have hfz23_3 := blk_frozen BK417.out 3; have hfz23_4 := blk_frozen BK417.out 4; have hfz23_5 := blk_frozen BK417.out 5; have hfz23_6 := blk_frozen BK417.out 6; have hfz23_7 := blk_frozen BK417.out 7; have hfz23_8 := blk_frozen BK417.out 8; have hfz23_9 := blk_frozen BK417.out 9; obtain ⟨Ao24, co24, eo24⟩ := Kd.R_slice HO410.out; subst eo24) | ((with_reducible refine gate_callee (f := 22) rfl ?_); refine goesL_ (some 24) rfl rfl Try.func22 z15_11 rfl #[.agg #[.int .i64 t405, .int .i64 t406, .int .i64 t407, .slice Ao24 t408.length co24, .int .i64 t411, .string t412, .string t413, .int .i64 t414, .int .i64 t415, .int .i64 t416]] rfl z15_5 ?_; (with_reducible refine (impl_ActText.calls k t405 t406 t407 _ _ t408 t411 t412 t413 t414 t415 t416 t418 t419 _ ?side1 ?side2 A10.out).mono ?_); (case side1 => refine (Kd.R_reads' (e := 3) (base := w.heap.size) (ok := fun k_ => (True ∧ some k_ ≠ (.slice Ao17 t394.length co17 : Value).ownBlock)) (n := t408.length) (c := co24) ?_).2.2; exact z15_3); (case side2 => exact (Kd.R_reads' HO410.out).2.1); rintro e w25 ⟨rfl, hb⟩; refine ⟨_, rfl, ?_⟩; have n0_ := Aside0.mk (Kd.R_below (by (with_reducible repeat (first | apply Kd.R_alloc | apply Kd.R_drewN | apply Kd.R_drew)); exact (Kd.R_mono (Kd.R_far (p := ⟨gb417, 9, none⟩) (Kd.R_far (p := ⟨gb417, 8, none⟩) (Kd.R_far (p := ⟨gb417, 7, none⟩) (Kd.R_far (p := ⟨gb417, 6, none⟩) (Kd.R_far (p := ⟨gb417, 5, none⟩) (Kd.R_far (p := ⟨gb417, 4, none⟩) (Kd.R_far (p := ⟨gb417, 3, none⟩) (Kd.R_far (p := ⟨gb417, 2, none⟩) (Kd.R_far (p := ⟨gb417, 1, none⟩) (Kd.R_far (p := ⟨gb417, 0, none⟩) (Kd.R_types HO396.out BK417.out (by decide)) (fun _ hk => hk.2) (.int .i64 t405)) (fun _ hk => hk.2) (.int .i64 t406)) (fun _ hk => hk.2) (.int .i64 t407)) (fun _ hk => hk.2) (.slice Ao24 t408.length co24)) (fun _ hk => hk.2) (.int .i64 t411)) (fun _ hk => hk.2) (.string t412)) (fun _ hk => hk.2) (.string t413)) (fun _ hk => hk.2) (.int .i64 t414)) (fun _ hk => hk.2) (.int .i64 t415)) (fun _ hk => hk.2) (.int .i64 t416)) (fun _ h_ => h_.1))) hb); have n1_ := Aside0.mk (Kd.R_below z15_3 hb); have n2_ := Aside0.mk (blk_below (g := gb389) (o := .cells #[.int .i64 a0_0, .int .i64 a0_1, .int .i64 a0_2, .slice A0_3 l0_3.length c0_3, .int .i64 a0_4, .string a0_5, .string a0_6, .int .i64 a0_7, .int .i64 a0_8, .int .i64 a0_9] 26 (0, 0)) (by (with_reducible repeat (first | refine blk_drewN ?_ _ | refine blk_drew ?_ | refine blk_alloc ?_ _)); refine blk_far ?_ NB389_417.out _; (with_reducible repeat (first | refine blk_drewN ?_ _ | refine blk_drew ?_ | refine blk_alloc ?_ _)); refine blk_far ?_ NB389_417.out _; (with_reducible repeat (first | refine blk_drewN ?_ _ | refine blk_drew ?_ | refine blk_alloc ?_ _)); refine blk_far ?_ NB389_417.out _; (with_reducible repeat (first | refine blk_drewN ?_ _ | refine blk_drew ?_ | refine blk_alloc ?_ _)); refine blk_far ?_ NB389_417.out _; (with_reducible repeat (first | refine blk_drewN ?_ _ | refine blk_drew ?_ | refine blk_alloc ?_ _)); refine blk_far ?_ NB389_417.out _; (with_reducible repeat (first | refine blk_drewN ?_ _ | refine blk_drew ?_ | refine blk_alloc ?_ _)); refine blk_far ?_ NB389_417.out _; (with_reducible repeat (first | refine blk_drewN ?_ _ | refine blk_drew ?_ | refine blk_alloc ?_ _)); refine blk_far ?_ NB389_417.out _; (with_reducible repeat (first | refine blk_drewN ?_ _ | refine blk_drew ?_ | refine blk_alloc ?_ _)); refine blk_far ?_ NB389_417.out _; (with_reducible repeat (first | refine blk_drewN ?_ _ | refine blk_drew ?_ | refine blk_alloc ?_ _)); refine blk_far ?_ NB389_417.out _; (with_reducible repeat (first | refine blk_drewN ?_ _ | refine blk_drew ?_ | refine blk_alloc ?_ _)); refine blk_far ?_ NB389_417.out _; (with_reducible repeat (first | refine blk_drewN ?_ _ | refine blk_drew ?_ | refine blk_alloc ?_ _)); exact BK389.out) hb); have n3_ := Aside0.mk (blk_below (g := gb417) (o := .cells #[.int .i64 t405, .int .i64 t406, .int .i64 t407, .slice Ao24 t408.length co24, .int .i64 t411, .string t412, .string t413, .int .i64 t414, .int .i64 t415, .int .i64 t416] 31 (0, 0)) (by (with_reducible repeat (first | refine blk_drewN ?_ _ | refine blk_drew ?_ | refine blk_alloc ?_ _)); refine blk_put (cs := #[.int .i64 t405, .int .i64 t406, .int .i64 t407, .slice Ao24 t408.length co24, .int .i64 t411, .string t412, .string t413, .int .i64 t414, .int .i64 t415, .int .i64 0]) ?_ 9 _ rfl; (with_reducible repeat (first | refine blk_drewN ?_ _ | refine blk_drew ?_ | refine blk_alloc ?_ _)); refine blk_put (cs := #[.int .i64 t405, .int .i64 t406, .int .i64 t407, .slice Ao24 t408.length co24, .int .i64 t411, .string t412, .string t413, .int .i64 t414, .int .i64 0, .int .i64 0]) ?_ 8 _ rfl; (with_reducible repeat (first | refine blk_drewN ?_ _ | refine blk_drew ?_ | refine blk_alloc ?_ _)); refine blk_put (cs := #[.int .i64 t405, .int .i64 t406, .int .i64 t407, .slice Ao24 t408.length co24, .int .i64 t411, .string t412, .string t413, .int .i64 0, .int .i64 0, .int .i64 0]) ?_ 7 _ rfl; (with_reducible repeat (first | refine blk_drewN ?_ _ | refine blk_drew ?_ | refine blk_alloc ?_ _)); refine blk_put (cs := #[.int .i64 t405, .int .i64 t406, .int .i64 t407, .slice Ao24 t408.length co24, .int .i64 t411, .string t412, .string (⟨#[]⟩ : ByteArray), .int .i64 0, .int .i64 0, .int .i64 0]) ?_ 6 _ rfl; (with_reducible repeat (first | refine blk_drewN ?_ _ | refine blk_drew ?_ | refine blk_alloc ?_ _)); refine blk_put (cs := #[.int .i64 t405, .int .i64 t406, .int .i64 t407, .slice Ao24 t408.length co24, .int .i64 t411, .string (⟨#[]⟩ : ByteArray), .string (⟨#[]⟩ : ByteArray), .int .i64 0, .int .i64 0, .int .i64 0]) ?_ 5 _ rfl; (with_reducible repeat (first | refine blk_drewN ?_ _ | refine blk_drew ?_ | refine blk_alloc ?_ _)); refine blk_put (cs := #[.int .i64 t405, .int .i64 t406, .int .i64 t407, .slice Ao24 t408.length co24, .int .i64 0, .string (⟨#[]⟩ : ByteArray), .string (⟨#[]⟩ : ByteArray), .int .i64 0, .int .i64 0, .int .i64 0]) ?_ 4 _ rfl; (with_reducible repeat (first | refine blk_drewN ?_ _ | refine blk_drew ?_ | refine blk_alloc ?_ _)); refine blk_put (cs := #[.int .i64 t405, .int .i64 t406, .int .i64 t407, .slice none 0 0, .int .i64 0, .string (⟨#[]⟩ : ByteArray), .string (⟨#[]⟩ : ByteArray), .int .i64 0, .int .i64 0, .int .i64 0]) ?_ 3 _ rfl; (with_reducible repeat (first | refine blk_drewN ?_ _ | refine blk_drew ?_ | refine blk_alloc ?_ _)); refine blk_put (cs := #[.int .i64 t405, .int .i64 t406, .int .i64 0, .slice none 0 0, .int .i64 0, .string (⟨#[]⟩ : ByteArray), .string (⟨#[]⟩ : ByteArray), .int .i64 0, .int .i64 0, .int .i64 0]) ?_ 2 _ rfl; (with_reducible repeat (first | refine blk_drewN ?_ _ | refine blk_drew ?_ | refine blk_alloc ?_ _)); refine blk_put (cs := #[.int .i64 t405, .int .i64 0, .int .i64 0, .slice none 0 0, .int .i64 0, .string (⟨#[]⟩ : ByteArray), .string (⟨#[]⟩ : ByteArray), .int .i64 0, .int .i64 0, .int .i64 0]) ?_ 1 _ rfl; (with_reducible repeat (first | refine blk_drewN ?_ _ | refine blk_drew ?_ | refine blk_alloc ?_ _)); refine blk_put (cs := #[.int .i64 0, .int .i64 0, .int .i64 0, .slice none 0 0, .int .i64 0, .string (⟨#[]⟩ : ByteArray), .string (⟨#[]⟩ : ByteArray), .int .i64 0, .int .i64 0, .int .i64 0]) ?_ 0 _ rfl; (with_reducible repeat (first | refine blk_drewN ?_ _ | refine blk_drew ?_ | refine blk_alloc ?_ _)); exact BK417.out) hb); have n4_ := Aside0.mk (below_step z15_2 hb); clear HO396; clear HO410; clear BK389; clear BK417; clear HB; have HO396 := n0_; have HO410 := n1_; have BK389 := n2_; have BK417 := n3_; have HB := n4_; clear n0_ n1_ n2_ n3_ n4_))
  (try simp only [Act.put, List.setIfInBounds_toArray, List.set_cons_zero, List.set_cons_succ])
  go_cut [34] (fun v34 wc => ∃ (kq : Nat) (x34_10 : Bool), v34 = .bool x34_10 ∧ Aside0 (laws_FnExactActText.j0 kq x34_10 a0_0 a0_1 a0_2 l0_3 a0_4 a0_5 a0_6 a0_7 a0_8 a0_9 t405 t406 t407 t408 t411 t412 t413 t414 t415 t416 = some true) ∧ Aside0 (kq ≤ k) ∧ Aside0 (Kd.R (Kd.int .i64) 3 wc w.heap.size (fun _ => True) (.slice Ao24 t408.length co24) t408) ∧ Aside0 (wc.heap[gb389]? = some (.cells #[.int .i64 a0_0, .int .i64 a0_1, .int .i64 a0_2, (.slice A0_3 l0_3.length c0_3), .int .i64 a0_4, .string a0_5, .string a0_6, .int .i64 a0_7, .int .i64 a0_8, .int .i64 a0_9] 26 (0, 0))) ∧ Aside0 (wc.heap[gb417]? = some (.cells #[.int .i64 t405, .int .i64 t406, .int .i64 t407, (.slice Ao24 t408.length co24), .int .i64 t411, .string t412, .string t413, .int .i64 t414, .int .i64 t415, .int .i64 t416] 31 (0, 0))) ∧ Aside0 (Below w.heap.size w wc))
  case first =>
   have H := HC11.out
   clear HC11
   by_cases c26 : t418.toList = t403.toList
   ·
    rw [if_pos c26] at H
    have c26b0 : (t418.toList == t403.toList) = true := beq_iff_eq.mpr c26
    have c26b1 : (t418.toList != t403.toList) = false := bne_eq_false_iff_eq.mpr c26
    clear c26
    (first | rw [c26b0] | (simp only [i64_w, i32_w]; rw [c26b0]) | skip)
    have H' := Aside0.mk H
    clear H
    go_wp2
    go_meet
    case rel => exact ⟨_, ((t419 != t404)), (by first | rfl | (simp; done) | (simp [*]; done)), H', ⟨by first | omega | exact Nat.le_refl _⟩, ⟨z15_10⟩, ⟨z15_1⟩, ⟨z15_6⟩, ⟨z15_2⟩⟩
   ·
    rw [if_neg c26] at H
    have c26b0 : (t418.toList == t403.toList) = false := beq_eq_false_iff_ne.mpr c26
    have c26b1 : (t418.toList != t403.toList) = true := bne_iff_ne.mpr c26
    (first | rw [c26b0] | (simp only [i64_w, i32_w]; rw [c26b0]) | skip)
    have H' := Aside0.mk H
    clear H
    go_wp2
    go_meet
    case rel => exact ⟨_, (true), (by first | rfl | (simp; done) | (simp [*]; done)), H', ⟨by first | omega | exact Nat.le_refl _⟩, ⟨z15_10⟩, ⟨z15_1⟩, ⟨z15_6⟩, ⟨z15_2⟩⟩
  case rest =>
   clear HC11
   try clear c1
   try clear c2
   try clear p2
   try clear c3
   try clear c3b0
   try clear c5
   try clear c14
   try clear c16
   try clear c21
   try clear c22
   try clear c26
   try clear c26b0
   try clear c26b1
   try clear hcz13_0
   try clear hcz13_1
   try clear hcz13_2
   try clear hcz13_3
   try clear hcz13_4
   try clear hcz13_5
   try clear hcz13_6
   try clear hcz13_7
   try clear hcz13_8
   try clear hcz13_9
   try clear hcz15_0
   try clear hcz15_1
   try clear hcz15_2
   try clear hcz15_3
   try clear hcz15_4
   try clear hcz15_5
   try clear hcz15_6
   try clear hcz15_7
   try clear hcz15_8
   try clear hcz15_9
   try clear hcz19_0
   try clear hcz19_1
   try clear hcz19_2
   try clear hcz19_3
   try clear hcz19_4
   try clear hcz19_5
   try clear hcz19_6
   try clear hcz19_7
   try clear hcz19_8
   try clear hcz19_9
   try clear hcz23_0
   try clear hcz23_1
   try clear hcz23_2
   try clear hcz23_3
   try clear hcz23_4
   try clear hcz23_5
   try clear hcz23_6
   try clear hcz23_7
   try clear hcz23_8
   try clear hcz23_9
   try clear hcz5_0
   try clear hcz5_1
   try clear hcz5_2
   try clear hcz5_3
   try clear hcz5_4
   try clear hcz5_5
   try clear hcz5_6
   try clear hcz5_7
   try clear hcz5_8
   try clear hcz5_9
   try clear hfz13_0
   try clear hfz13_1
   try clear hfz13_2
   try clear hfz13_3
   try clear hfz13_4
   try clear hfz13_5
   try clear hfz13_6
   try clear hfz13_7
   try clear hfz13_8
   try clear hfz13_9
   try clear hfz15_0
   try clear hfz15_1
   try clear hfz15_2
   try clear hfz15_3
   try clear hfz15_4
   try clear hfz15_5
   try clear hfz15_6
   try clear hfz15_7
   try clear hfz15_8
   try clear hfz15_9
   try clear hfz19_0
   try clear hfz19_1
   try clear hfz19_2
   try clear hfz19_3
   try clear hfz19_4
   try clear hfz19_5
   try clear hfz19_6
   try clear hfz19_7
   try clear hfz19_8
   try clear hfz19_9
   try clear hfz23_0
   try clear hfz23_1
   try clear hfz23_2
   try clear hfz23_3
   try clear hfz23_4
   try clear hfz23_5
   try clear hfz23_6
   try clear hfz23_7
   try clear hfz23_8
   try clear hfz23_9
   try clear hfz5_0
   try clear hfz5_1
   try clear hfz5_2
   try clear hfz5_3
   try clear hfz5_4
   try clear hfz5_5
   try clear hfz5_6
   try clear hfz5_7
   try clear hfz5_8
   try clear hfz5_9
   obtain ⟨kq, x34_10, rfl, HA, HJ10, HO_418003, BK389, BK417, HB⟩ := hcut
   cases kq with
   | zero => exact absurd HA.out (by simp [laws_FnExactActText.j0])
   | succ kj10 =>
    have H := HA.out
    clear HA
    simp only [laws_FnExactActText.j0] at H
    by_cases c27 : x34_10 = true
    ·
     subst c27
     rw [if_pos rfl] at H
     exact absurd H (by simp)
    ·
     replace c27 := Bool.eq_false_iff.mpr c27
     subst c27
     rw [if_neg (show ¬ (false = true) by decide)] at H
     replace H := Option.bind_eq_some_iff.mp H
     obtain ⟨⟨t420, t421, t422, t423, t426, t427, t428, t429, t430, t431⟩, A280, H⟩ := H
     (try dsimp only at H)
     have A28 := Aside0.mk A280
     clear A280
     replace H := Option.bind_eq_some_iff.mp H
     obtain ⟨t432, A290, H⟩ := H
     (try dsimp only at H)
     have A29 := Aside0.mk A290
     clear A290
     by_cases c30 : t432 = true
     ·
      subst c30
      have H1 : (some true) = some true := rfl
      clear H
      have H := H1
      clear H1
      clear H
      try go_wp2
      have n0_ := Aside0.mk (Kd.R_drew HO_418003.out)
      have n1_ := Aside0.mk (blk_drew BK389.out)
      have n2_ := Aside0.mk (blk_drew BK417.out)
      have n3_ := Aside0.mk (below_drew1 HB.out)
      clear HO_418003
      clear BK389
      clear BK417
      clear HB
      have HO_418003 := n0_
      have BK389 := n1_
      have BK417 := n2_
      have HB := n3_
      clear n0_ n1_ n2_ n3_
      refine start_ (n := 5) (S := fun w' => w'.cell? ⟨gb417, 0, none⟩ = some (.int .i64 t405) ∧ w'.cell? ⟨gb417, 1, none⟩ = some (.int .i64 t406) ∧ w'.cell? ⟨gb417, 2, none⟩ = some (.int .i64 t407) ∧ w'.cell? ⟨gb417, 3, none⟩ = some (.slice Ao24 t408.length co24) ∧ w'.cell? ⟨gb417, 4, none⟩ = some (.int .i64 t411) ∧ w'.cell? ⟨gb417, 5, none⟩ = some (.string t412) ∧ w'.cell? ⟨gb417, 6, none⟩ = some (.string t413) ∧ w'.cell? ⟨gb417, 7, none⟩ = some (.int .i64 t414) ∧ w'.cell? ⟨gb417, 8, none⟩ = some (.int .i64 t415) ∧ w'.cell? ⟨gb417, 9, none⟩ = some (.int .i64 t416) ∧ w'.cell? ⟨gb389, 0, none⟩ = some (.int .i64 a0_0) ∧ w'.cell? ⟨gb389, 1, none⟩ = some (.int .i64 a0_1) ∧ w'.cell? ⟨gb389, 2, none⟩ = some (.int .i64 a0_2) ∧ w'.cell? ⟨gb389, 3, none⟩ = some (.slice A0_3 l0_3.length c0_3) ∧ w'.cell? ⟨gb389, 4, none⟩ = some (.int .i64 a0_4) ∧ w'.cell? ⟨gb389, 5, none⟩ = some (.string a0_5) ∧ w'.cell? ⟨gb389, 6, none⟩ = some (.string a0_6) ∧ w'.cell? ⟨gb389, 7, none⟩ = some (.int .i64 a0_7) ∧ w'.cell? ⟨gb389, 8, none⟩ = some (.int .i64 a0_8) ∧ w'.cell? ⟨gb389, 9, none⟩ = some (.int .i64 a0_9)) (ds := []) #[false, false, false, false, false] z15_11 rfl rfl ⟨(blk_cell BK417.out 0).trans rfl, (blk_cell BK417.out 1).trans rfl, (blk_cell BK417.out 2).trans rfl, (blk_cell BK417.out 3).trans rfl, (blk_cell BK417.out 4).trans rfl, (blk_cell BK417.out 5).trans rfl, (blk_cell BK417.out 6).trans rfl, (blk_cell BK417.out 7).trans rfl, (blk_cell BK417.out 8).trans rfl, (blk_cell BK417.out 9).trans rfl, (blk_cell BK389.out 0).trans rfl, (blk_cell BK389.out 1).trans rfl, (blk_cell BK389.out 2).trans rfl, (blk_cell BK389.out 3).trans rfl, (blk_cell BK389.out 4).trans rfl, (blk_cell BK389.out 5).trans rfl, (blk_cell BK389.out 6).trans rfl, (blk_cell BK389.out 7).trans rfl, (blk_cell BK389.out 8).trans rfl, (blk_cell BK389.out 9).trans rfl⟩ (fun hHeld => ?_)
      generalize wc.drew = w31 at HO_418003 BK389 BK417 HB hHeld ⊢
      refine take_ (i := 0) (N := some 35) (v := ?_) (a' := ?_) #[true, false, false, false, false] rfl rfl z15_11 (fun _ _ _ h => h) (Or.inl ⟨by rfl, ?_⟩) hHeld ?_ ?_
      rotate_left
      ·
       rintro w' ⟨s0, s1, s2, s3, s4, s5, s6, s7, s8, s9, s10, s11, s12, s13, s14, s15, s16, s17, s18, s19⟩
       go_simp
       with_reducible rfl
      rotate_left
      ·
       exact z15_9
      refine take_ (i := 1) (N := some 36) (v := ?_) (a' := ?_) #[true, true, false, false, false] rfl rfl z15_11 (fun _ _ _ h => h) (Or.inl ⟨by rfl, ?_⟩) hHeld ?_ ?_
      rotate_left
      ·
       rintro w' ⟨s0, s1, s2, s3, s4, s5, s6, s7, s8, s9, s10, s11, s12, s13, s14, s15, s16, s17, s18, s19⟩
       go_simp
       with_reducible rfl
      rotate_left
      ·
       exact z15_9
      refine one_ (i := 2) (N := some 37) #[true, true, true, false, false] rfl rfl z15_11 (by decide) (fun K hK => ?_)
      refine goes_ Try.func16 z15_11 rfl #[.agg #[.int .i64 a0_0, .int .i64 a0_1, .int .i64 a0_2, .slice A0_3 l0_3.length c0_3, .int .i64 a0_4, .string a0_5, .string a0_6, .int .i64 a0_7, .int .i64 a0_8, .int .i64 a0_9]] (by rfl) rfl rfl z15_5 ?_
      with_reducible refine (laws_toAct.calls kj10 a0_0 a0_1 a0_2 _ _ l0_3 a0_4 a0_5 a0_6 a0_7 a0_8 a0_9 t420 t421 t422 t423 t426 t427 t428 t429 t430 t431 _ ?side1 ?side2 A28.out).mono ?_
      (case side1 => repeat (first | exact (Kd.C_below HR0_3.out HB.out) | (with_reducible refine Kd.C_alloc ?_ _) | (with_reducible refine Kd.C_drewN ?_ _) | (with_reducible refine Kd.C_drew ?_)))
      (case side2 => exact HC0_3.out)
      rintro e w32 ⟨v424, rfl, ho0, hb⟩
      refine ⟨_, rfl, ?_⟩
      have n0_ := Aside0.mk (Kd.R_elder' z15_8 (Kd.R_base ho0) hb)
      have n1_ := Aside0.mk (Kd.R_lower (Kd.R_new' ho0 (Kd.R_lt z15_8)) (below_size z15_2))
      have n2_ := Aside0.mk (blk_below (g := gb389) (o := .cells #[.int .i64 a0_0, .int .i64 a0_1, .int .i64 a0_2, .slice A0_3 l0_3.length c0_3, .int .i64 a0_4, .string a0_5, .string a0_6, .int .i64 a0_7, .int .i64 a0_8, .int .i64 a0_9] 26 (0, 0)) z15_1 hb)
      have n3_ := Aside0.mk (blk_below (g := gb417) (o := .cells #[.int .i64 t405, .int .i64 t406, .int .i64 t407, .slice Ao24 t408.length co24, .int .i64 t411, .string t412, .string t413, .int .i64 t414, .int .i64 t415, .int .i64 t416] 31 (0, 0)) z15_6 hb)
      have n4_ := Aside0.mk (below_step z15_2 hb)
      clear HO_418003
      clear BK389
      clear BK417
      clear HB
      have HO_418003 := n0_
      have HO425 := n1_
      have BK389 := n2_
      have BK417 := n3_
      have HB := n4_
      clear n0_ n1_ n2_ n3_ n4_
      (try clear hb)
      (try clear hb2)
      (try clear hk)
      (try clear hi)
      (try clear ho0)
      obtain ⟨Ao33, co33, eo33⟩ := Kd.R_slice HO425.out
      (first | subst eo33 | (injection eo33 with f1_ f2_ f3_; have f4_ := f1_.symm; have f5_ := f3_.symm; clear f1_ f2_ f3_; subst f4_; subst f5_))
      refine hK.out _ _ ⟨(blk_cell BK417.out 0).trans rfl, (blk_cell BK417.out 1).trans rfl, (blk_cell BK417.out 2).trans rfl, (blk_cell BK417.out 3).trans rfl, (blk_cell BK417.out 4).trans rfl, (blk_cell BK417.out 5).trans rfl, (blk_cell BK417.out 6).trans rfl, (blk_cell BK417.out 7).trans rfl, (blk_cell BK417.out 8).trans rfl, (blk_cell BK417.out 9).trans rfl, (blk_cell BK389.out 0).trans rfl, (blk_cell BK389.out 1).trans rfl, (blk_cell BK389.out 2).trans rfl, (blk_cell BK389.out 3).trans rfl, (blk_cell BK389.out 4).trans rfl, (blk_cell BK389.out 5).trans rfl, (blk_cell BK389.out 6).trans rfl, (blk_cell BK389.out 7).trans rfl, (blk_cell BK389.out 8).trans rfl, (blk_cell BK389.out 9).trans rfl⟩ (fun hHeld => ?_)
      clear hK K
      refine norm_ (a' := ?_) ?_ ?_
      rotate_left
      ·
       show Act.put _ (some 37) _ = _
       simp only [Act.put, List.setIfInBounds_toArray, List.set_cons_zero, List.set_cons_succ, i64_w, i32_w]
       rfl
      refine one_ (i := 3) (N := some 38) #[true, true, true, true, false] rfl rfl z15_11 (by decide) (fun K hK => ?_)
      refine goes_ Try.func18 z15_11 rfl #[.agg #[.int .i64 t405, .int .i64 t406, .int .i64 t407, .slice Ao24 t408.length co24, .int .i64 t411, .string t412, .string t413, .int .i64 t414, .int .i64 t415, .int .i64 t416], .agg #[.int .i64 t420, .int .i64 t421, .int .i64 t422, .slice Ao33 t423.length co33, .int .i64 t426, .string t427, .string t428, .int .i64 t429, .int .i64 t430, .int .i64 t431]] (by rfl) rfl rfl z15_5 ?_
      with_reducible refine (laws_eqAct.calls kj10 t405 t406 t407 _ _ t408 t411 t412 t413 t414 t415 t416 t420 t421 t422 _ _ t423 t426 t427 t428 t429 t430 t431 true _ ?side1 ?side2 ?side3 ?side4 A29.out).mono ?_
      (case side1 => repeat (first | exact (Kd.R_reads' HO_418003.out).2.2 | (with_reducible refine Kd.C_alloc ?_ _) | (with_reducible refine Kd.C_drewN ?_ _) | (with_reducible refine Kd.C_drew ?_)))
      (case side2 => exact (Kd.R_reads' HO_418003.out).2.1)
      (case side3 => repeat (first | exact (Kd.R_reads' HO425.out).2.2 | (with_reducible refine Kd.C_alloc ?_ _) | (with_reducible refine Kd.C_drewN ?_ _) | (with_reducible refine Kd.C_drew ?_)))
      (case side4 => exact (Kd.R_reads' HO425.out).2.1)
      rintro e w34 ⟨rfl, hb⟩
      refine ⟨_, rfl, ?_⟩
      have n0_ := Aside0.mk (Kd.R_below z15_8 hb)
      have n1_ := Aside0.mk (Kd.R_below (by (with_reducible repeat (first | apply Kd.R_alloc | apply Kd.R_drewN | apply Kd.R_drew)); exact HO425.out) hb)
      have n2_ := Aside0.mk (blk_below (g := gb389) (o := .cells #[.int .i64 a0_0, .int .i64 a0_1, .int .i64 a0_2, .slice A0_3 l0_3.length c0_3, .int .i64 a0_4, .string a0_5, .string a0_6, .int .i64 a0_7, .int .i64 a0_8, .int .i64 a0_9] 26 (0, 0)) z15_1 hb)
      have n3_ := Aside0.mk (blk_below (g := gb417) (o := .cells #[.int .i64 t405, .int .i64 t406, .int .i64 t407, .slice Ao24 t408.length co24, .int .i64 t411, .string t412, .string t413, .int .i64 t414, .int .i64 t415, .int .i64 t416] 31 (0, 0)) z15_6 hb)
      have n4_ := Aside0.mk (below_step z15_2 hb)
      clear HO_418003
      clear HO425
      clear BK389
      clear BK417
      clear HB
      have HO_418003 := n0_
      have HO425 := n1_
      have BK389 := n2_
      have BK417 := n3_
      have HB := n4_
      clear n0_ n1_ n2_ n3_ n4_
      (try clear hb)
      (try clear hb2)
      (try clear hk)
      (try clear hi)
      refine hK.out _ _ ⟨(blk_cell BK417.out 0).trans rfl, (blk_cell BK417.out 1).trans rfl, (blk_cell BK417.out 2).trans rfl, (blk_cell BK417.out 3).trans rfl, (blk_cell BK417.out 4).trans rfl, (blk_cell BK417.out 5).trans rfl, (blk_cell BK417.out 6).trans rfl, (blk_cell BK417.out 7).trans rfl, (blk_cell BK417.out 8).trans rfl, (blk_cell BK417.out 9).trans rfl, (blk_cell BK389.out 0).trans rfl, (blk_cell BK389.out 1).trans rfl, (blk_cell BK389.out 2).trans rfl, (blk_cell BK389.out 3).trans rfl, (blk_cell BK389.out 4).trans rfl, (blk_cell BK389.out 5).trans rfl, (blk_cell BK389.out 6).trans rfl, (blk_cell BK389.out 7).trans rfl, (blk_cell BK389.out 8).trans rfl, (blk_cell BK389.out 9).trans rfl⟩ (fun hHeld => ?_)
      clear hK K
      refine norm_ (a' := ?_) ?_ ?_
      rotate_left
      ·
       show Act.put _ (some 38) _ = _
       simp only [Act.put, List.setIfInBounds_toArray, List.set_cons_zero, List.set_cons_succ, i64_w, i32_w]
       rfl
      refine pure_ (i := 4) (N := some 39) (v := ?_) (a' := ?_) #[true, true, true, true, true] rfl rfl z15_11 (fun _ _ _ h => h) (Or.inl ⟨by rfl, ?_⟩) ?_ ?_
      rotate_left
      ·
       exact (by intro w'; go_simp; with_reducible rfl)
      rotate_left
      ·
       exact z15_9
      refine done_ z15_11 ?_
      try go_wp2
      go_ret
      exact ⟨by first | rfl | (simp [errW_none, errW_some] <;> rfl) | (simp [*, errW_none, errW_some] <;> rfl), z15_2⟩
     ·
      replace c30 := Bool.eq_false_iff.mpr c30
      subst c30
      rw [if_neg (show ¬ (false = true) by decide)] at H
      exact absurd H (by simp)
end Go.Proofs.Ytmohbiagcbfkpaa.QAct
