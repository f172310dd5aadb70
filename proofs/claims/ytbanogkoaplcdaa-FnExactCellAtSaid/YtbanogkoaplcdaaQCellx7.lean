/- What the functions behind Cell compute, and that the program's calls come to just that. Written by a program of this session on the base of the kit's print. No condition. -/
import Derived.Test.YtbanogkoaplcdaaGCellCellAt
import Derived.Test.YtbanogkoaplcdaaQCellx0
import Derived.Test.YtbanogkoaplcdaaQCellx2
import Derived.Test.YtbanogkoaplcdaaQCellx3
import Derived.Test.YtbanogkoaplcdaaQCellx6
namespace Go.Proofs.Ytbanogkoaplcdaa.QCell
open Go.RowKit Go.Proofs.YtbanogkoaplcdaaW.PrintWords Go.Proofs.YtbanogkoaplcdaaW.PrintLast Go.Proofs.YtbanogkoaplcdaaW.PrintMore
attribute [local go_sem] max2_int min2_int max_two min_two max_three min_three max_four min_four   -- for this text's walks alone
set_option linter.unusedVariables false
set_option linter.unusedSimpArgs false

theorem z7_17 {P : Prop} (h : P := by kernel_rfl) : P := h
theorem z7_16 {P : Prop} (h : P := by (with_reducible repeat (first | refine blk_drewN ?_ _ | refine blk_drew ?_ | refine blk_alloc ?_ _)); exact BK246.out) : P := h
theorem z7_15 {P : Prop} (h : P := by (with_reducible repeat (first | apply Kd.R_alloc | apply Kd.R_drewN | apply Kd.R_drew)); exact HO236.out) : P := h
theorem z7_14 {P : Prop} (h : P := by (with_reducible repeat (first | apply Kd.R_alloc | apply Kd.R_drewN | apply Kd.R_drew)); exact HO239.out) : P := h
theorem z7_13 {P : Prop} (h : P := by (with_reducible repeat (first | apply Kd.R_alloc | apply Kd.R_drewN | apply Kd.R_drew)); exact HO242.out) : P := h
theorem z7_12 {P : Prop} (h : P := by (with_reducible repeat (first | apply Kd.R_alloc | apply Kd.R_drewN | apply Kd.R_drew)); exact HO245.out) : P := h
theorem z7_11 {P : Prop} (h : P := by repeat (first | (with_reducible first | exact HB.out | apply below_alloc | apply pw_below_drewN | apply below_drew1) | exact HB.out)) : P := h
theorem z7_10 {P : Prop} (h : P := by repeat (first | (with_reducible first | exact HB.out | apply below_alloc | apply pw_below_drewN | apply below_drew1 | refine below_set ?_ GE216.out) | exact HB.out)) : P := h
theorem z7_9 {P : Prop} (h : P := by first | rfl | (simp only [List.map_toArray, List.map_cons, List.map_nil]; first | done | rfl)) : P := h
theorem z7_8 {P : Prop} (h : P := by simp only [Act.put, List.setIfInBounds_toArray, List.set_cons_zero, List.set_cons_succ, i64_w, i32_w]; rfl) : P := h
theorem z7_7 {P : Prop} (h : P := by (with_reducible repeat (first | apply Kd.R_alloc | apply Kd.R_drewN | apply Kd.R_drew)); exact HO221.out) : P := h
theorem z7_6 {P : Prop} (h : P := by (with_reducible repeat (first | apply Kd.R_alloc | apply Kd.R_drewN | apply Kd.R_drew)); exact HO224.out) : P := h
theorem z7_5 {P : Prop} (h : P := by (with_reducible repeat (first | apply Kd.R_alloc | apply Kd.R_drewN | apply Kd.R_drew)); exact HO227.out) : P := h
theorem z7_4 {P : Prop} (h : P := by (with_reducible repeat (first | apply Kd.R_alloc | apply Kd.R_drewN | apply Kd.R_drew)); exact HO230.out) : P := h
theorem z7_3 {P : Prop} (h : P := by (with_reducible repeat (first | refine blk_drewN ?_ _ | refine blk_drew ?_ | refine blk_alloc ?_ _)); exact BK217.out) : P := h
theorem z7_2 {P : Prop} (h : P := by repeat (first | (with_reducible first | exact HB.out | apply below_alloc | apply pw_below_drewN | apply below_drew1 | refine below_set ?_ GE216.out | refine below_set ?_ GE217.out | refine below_set ?_ GE246.out) | exact HB.out)) : P := h
theorem z7_1 {P : Prop} (h : P := by (with_reducible repeat (first | refine blk_drewN ?_ _ | refine blk_drew ?_ | refine blk_alloc ?_ _)); exact BK216.out) : P := h
theorem z7_0 {P : Prop} (h : P := by repeat (first | (with_reducible first | exact HB.out | apply below_alloc | apply pw_below_drewN | apply below_drew1 | refine below_set ?_ GE216.out | refine below_set ?_ GE217.out) | exact HB.out)) : P := h

/-! ### laws_FnExactCellAt: function 3 -/
def laws_FnExactCellAt.f (k : Nat) (l0_0 : List Int) (l0_1 : List (S112)) (l0_2 : List (S115)) (l0_3 : List (S118)) (a1_0 : Int) (a1_1 : Int) : Option (Bool) := (laws_szState.f k l0_0 l0_1 l0_2 l0_3 1048576).bind fun t218 => (if t218 < 0 then (some true) else ((laws_toState.f k l0_0 l0_1 l0_2 l0_3).bind fun bt219 => ((laws_toDot.f a1_0 a1_1).bind fun bt231 => ((spec_CellAt.f k bt219.1 bt219.2.1 bt219.2.2.1 bt219.2.2.2 bt231.1 bt231.2).bind fun t233 => ((laws_toState.f k l0_0 l0_1 l0_2 l0_3).bind fun bt234 => ((laws_toDot.f a1_0 a1_1).bind fun bt247 => ((impl_CellAt.f bt234.1 bt234.2.1 bt234.2.2.1 bt234.2.2.2 bt247.1 bt247.2).bind fun t249 => (if t249 = t233 then ((laws_toState.f k l0_0 l0_1 l0_2 l0_3).bind fun bt250 => ((laws_eqState.f k bt234.1 bt234.2.1 bt234.2.2.1 bt234.2.2.2 bt250.1 bt250.2.1 bt250.2.2.1 bt250.2.2.2).bind fun t262 => (if t262 = true then (some true) else (some false)))) else (some false)))))))))
theorem laws_FnExactCellAt.mono : ∀ a0 a1 a2 a3 a4 a5 k, LeO (laws_FnExactCellAt.f k a0 a1 a2 a3 a4 a5) (laws_FnExactCellAt.f (k + 1) a0 a1 a2 a3 a4 a5) := by
 intro a0 a1 a2 a3 a4 a5 k
 unfold laws_FnExactCellAt.f
 repeat' first
   | (with_reducible exact laws_eqState.mono _ _ _ _ _ _ _ _ _)
   | (with_reducible exact laws_szState.mono _ _ _ _ _ _)
   | (with_reducible exact laws_toState.mono _ _ _ _ _)
   | (with_reducible exact spec_CellAt.mono _ _ _ _ _ _ _)
   | (with_reducible exact LeO.refl _)
   | (with_reducible exact LeO.none _)
   | (with_reducible refine LeO.ite ?_ ?_)
   | (with_reducible refine LeO.bind ?_ (fun _ => ?_))
   | exact laws_eqState.mono _ _ _ _ _ _ _ _ _
   | exact laws_szState.mono _ _ _ _ _ _
   | exact laws_toState.mono _ _ _ _ _
   | exact spec_CellAt.mono _ _ _ _ _ _ _
   | exact LeO.none _
   | refine LeO.ite ?_ ?_
   | refine LeO.bind ?_ (fun _ => ?_)
set_option maxHeartbeats 8000000 in
set_option maxRecDepth 100000 in
theorem laws_FnExactCellAt.calls_true (k : Nat) (A0_0 : Option Addr) (c0_0 : Nat) (l0_0 : List Int) (A0_1 : Option Addr) (c0_1 : Nat) (l0_1 : List (S112)) (A0_2 : Option Addr) (c0_2 : Nat) (l0_2 : List (S115)) (A0_3 : Option Addr) (c0_3 : Nat) (l0_3 : List (S118)) (a1_0 : Int) (a1_1 : Int) (w : World) (hr0_0 : Kd.C (Kd.int .i64) w A0_0 l0_0.length l0_0) (hc0_0 : l0_0.length ≤ c0_0) (hr0_1 : Kd.C k112 w A0_1 l0_1.length l0_1) (hc0_1 : l0_1.length ≤ c0_1) (hr0_2 : Kd.C k115 w A0_2 l0_2.length l0_2) (hc0_2 : l0_2.length ≤ c0_2) (hr0_3 : Kd.C k118 w A0_3 l0_3.length l0_3) (hc0_3 : l0_3.length ≤ c0_3) (h : laws_FnExactCellAt.f k l0_0 l0_1 l0_2 l0_3 a1_0 a1_1 = some true) :
  Calls Try.prog 3 #[.agg #[.slice A0_0 l0_0.length c0_0, .slice A0_1 l0_1.length c0_1, .slice A0_2 l0_2.length c0_2, .slice A0_3 l0_3.length c0_3], .agg #[.int .i64 a1_0, .int .i64 a1_1]] w fun e w' => e = .returned (.bool true) ∧ Below w.heap.size w w' := by
 have hu27 := Try.underlying27
 have hu29 := Try.underlying29
 have hu36 := Try.underlying36
 have HR0_0 := Aside0.mk hr0_0
 have HC0_0 := Aside0.mk hc0_0
 clear hr0_0 hc0_0
 have HR0_1 := Aside0.mk hr0_1
 have HC0_1 := Aside0.mk hc0_1
 clear hr0_1 hc0_1
 have HR0_2 := Aside0.mk hr0_2
 have HC0_2 := Aside0.mk hc0_2
 clear hr0_2 hc0_2
 have HR0_3 := Aside0.mk hr0_3
 have HC0_3 := Aside0.mk hc0_3
 clear hr0_3 hc0_3
 have HB := Aside0.mk (Below.refl w.heap.size w)
 have H : ((laws_szState.f k l0_0 l0_1 l0_2 l0_3 1048576).bind fun t218 => (if t218 < 0 then (some true) else ((laws_toState.f k l0_0 l0_1 l0_2 l0_3).bind fun bt219 => ((laws_toDot.f a1_0 a1_1).bind fun bt231 => ((spec_CellAt.f k bt219.1 bt219.2.1 bt219.2.2.1 bt219.2.2.2 bt231.1 bt231.2).bind fun t233 => ((laws_toState.f k l0_0 l0_1 l0_2 l0_3).bind fun bt234 => ((laws_toDot.f a1_0 a1_1).bind fun bt247 => ((impl_CellAt.f bt234.1 bt234.2.1 bt234.2.2.1 bt234.2.2.2 bt247.1 bt247.2).bind fun t249 => (if t249 = t233 then ((laws_toState.f k l0_0 l0_1 l0_2 l0_3).bind fun bt250 => ((laws_eqState.f k bt234.1 bt234.2.1 bt234.2.2.1 bt234.2.2.2 bt250.1 bt250.2.1 bt250.2.2.1 bt250.2.2.2).bind fun t262 => (if t262 = true then (some true) else (some false)))) else (some false)))))))))) = some true := h
 clear h
 replace H := Option.bind_eq_some_iff.mp H
 obtain ⟨t218, A30, H⟩ := H
 (try dsimp only at H)
 have A3 := Aside0.mk A30
 clear A30
 by_cases c4 : t218 < 0
 ·
  rw [if_pos c4] at H
  have c4b0 : decide (t218 < 0) = true := decide_eq_true c4
  clear c4
  clear H
  go_enter Try.func3, Try.ntmps3
  go_wp2_with (first | ((with_reducible refine gate_dst (N := 2) rfl ?_); refine box_event ?hg (N := 2) ?hd (cs := #[.slice A0_0 l0_0.length c0_0, .slice A0_1 l0_1.length c0_1, .slice A0_2 l0_2.length c0_2, .slice A0_3 l0_3.length c0_3]) (t := 27) ?hr ?_; (case hd => rfl); (case hg => rfl); (case hr => first | (go_simp; done) | (go_simp; rfl)); intro gb216 hg w5 hbox hb; have n0_ := Aside0.mk (below_step z7_11 hb); have n1_ := Aside0.mk (hbox); have n2_ := Aside0.mk ((by rw [hg]; exact (below_size z7_11) : w.heap.size ≤ gb216)); have n3_ := Aside0.mk ((by rw [hg]; exact (below_size z7_11) : w.heap.size ≤ gb216)); clear HB; have HB := n0_; have BK216 := n1_; have GW216 := n2_; have GE216 := n3_; clear n0_ n1_ n2_ n3_; clear hb hbox hg) | ((with_reducible refine gate_dst (N := 3) rfl ?_); refine box_event ?hg (N := 3) ?hd (cs := #[.int .i64 a1_0, .int .i64 a1_1]) (t := 29) ?hr ?_; (case hd => rfl); (case hg => rfl); (case hr => first | (go_simp; done) | (go_simp; rfl)); intro gb217 hg w6 hbox hb; have n0_ := Aside0.mk (blk_below (g := gb216) (o := .cells #[.slice A0_0 l0_0.length c0_0, .slice A0_1 l0_1.length c0_1, .slice A0_2 l0_2.length c0_2, .slice A0_3 l0_3.length c0_3] 27 (0, 0)) z7_1 hb); have n1_ := Aside0.mk (below_step z7_10 hb); have n2_ := Aside0.mk (hbox); have n3_ := Aside0.mk ((by rw [hg]; exact (below_size z7_10) : w.heap.size ≤ gb217)); have n4_ := Aside0.mk ((by rw [hg]; exact (below_size z7_10) : w.heap.size ≤ gb217)); have n5_ := Aside0.mk ((by rw [hg]; exact Nat.ne_of_lt (blk_lt (g := gb216) (o := .cells #[.slice A0_0 l0_0.length c0_0, .slice A0_1 l0_1.length c0_1, .slice A0_2 l0_2.length c0_2, .slice A0_3 l0_3.length c0_3] 27 (0, 0)) z7_1) : gb216 ≠ gb217)); have n6_ := Aside0.mk ((by rw [hg]; exact Nat.ne_of_gt (blk_lt (g := gb216) (o := .cells #[.slice A0_0 l0_0.length c0_0, .slice A0_1 l0_1.length c0_1, .slice A0_2 l0_2.length c0_2, .slice A0_3 l0_3.length c0_3] 27 (0, 0)) z7_1) : gb217 ≠ gb216)); clear BK216; clear HB; have BK216 := n0_; have HB := n1_; have BK217 := n2_; have GW217 := n3_; have GE217 := n4_; have NB216_217 := n5_; have NB217_216 := n6_; clear n0_ n1_ n2_ n3_ n4_ n5_ n6_; clear hb hbox hg; have hnb7 := NB216_217.out; have hnc7 := NB217_216.out; have hcz8_0 : w6.cell? ⟨gb216, 0, none⟩ = some (.slice A0_0 l0_0.length c0_0) := (blk_cell BK216.out 0).trans rfl; have hcz8_1 : w6.cell? ⟨gb216, 1, none⟩ = some (.slice A0_1 l0_1.length c0_1) := (blk_cell BK216.out 1).trans rfl; have hcz8_2 : w6.cell? ⟨gb216, 2, none⟩ = some (.slice A0_2 l0_2.length c0_2) := (blk_cell BK216.out 2).trans rfl; have hcz8_3 : w6.cell? ⟨gb216, 3, none⟩ = some (.slice A0_3 l0_3.length c0_3) := (blk_cell BK216.out 3).trans rfl; have hfz8_0 := blk_frozen BK216.out 0; have hfz8_1 := blk_frozen BK216.out 1; have hfz8_2 := blk_frozen BK216.out 2; have hfz8_3 := blk_frozen BK216.out 3) | ((with_reducible refine gate_callee (f := 9) rfl ?_); refine goesL_ (some 11) rfl rfl Try.func9 z7_17 rfl #[.agg #[.slice A0_0 l0_0.length c0_0, .slice A0_1 l0_1.length c0_1, .slice A0_2 l0_2.length c0_2, .slice A0_3 l0_3.length c0_3], .int .i64 1048576] rfl z7_9 ?_; (with_reducible refine (laws_szState.calls k _ _ l0_0 _ _ l0_1 _ _ l0_2 _ _ l0_3 1048576 t218 _ ?side1 ?side2 ?side3 ?side4 ?side5 ?side6 ?side7 ?side8 A3.out).mono ?_); (case side1 => repeat (first | exact (Kd.C_below HR0_0.out HB.out) | (with_reducible refine Kd.C_alloc ?_ _) | (with_reducible refine Kd.C_drewN ?_ _) | (with_reducible refine Kd.C_drew ?_))); (case side2 => exact HC0_0.out); (case side3 => repeat (first | exact (Kd.C_below HR0_1.out HB.out) | (with_reducible refine Kd.C_alloc ?_ _) | (with_reducible refine Kd.C_drewN ?_ _) | (with_reducible refine Kd.C_drew ?_))); (case side4 => exact HC0_1.out); (case side5 => repeat (first | exact (Kd.C_below HR0_2.out HB.out) | (with_reducible refine Kd.C_alloc ?_ _) | (with_reducible refine Kd.C_drewN ?_ _) | (with_reducible refine Kd.C_drew ?_))); (case side6 => exact HC0_2.out); (case side7 => repeat (first | exact (Kd.C_below HR0_3.out HB.out) | (with_reducible refine Kd.C_alloc ?_ _) | (with_reducible refine Kd.C_drewN ?_ _) | (with_reducible refine Kd.C_drew ?_))); (case side8 => exact HC0_3.out); rintro e w9 ⟨rfl, hb⟩; refine ⟨_, rfl, ?_⟩; have n0_ := Aside0.mk (blk_below (g := gb216) (o := .cells #[.slice A0_0 l0_0.length c0_0, .slice A0_1 l0_1.length c0_1, .slice A0_2 l0_2.length c0_2, .slice A0_3 l0_3.length c0_3] 27 (0, 0)) z7_1 hb); have n1_ := Aside0.mk (blk_below (g := gb217) (o := .cells #[.int .i64 a1_0, .int .i64 a1_1] 29 (0, 0)) z7_3 hb); have n2_ := Aside0.mk (below_step z7_0 hb); clear BK216; clear BK217; clear HB; have BK216 := n0_; have BK217 := n1_; have HB := n2_; clear n0_ n1_ n2_))
  go_ret
  exact ⟨by first | rfl | (simp [errW_none, errW_some] <;> rfl) | (simp [*, errW_none, errW_some] <;> rfl), z7_0⟩
 ·
  rw [if_neg c4] at H
  have c4b0 : decide (t218 < 0) = false := decide_eq_false c4
  clear c4
  replace H := Option.bind_eq_some_iff.mp H
  obtain ⟨⟨t219, t222, t225, t228⟩, A100, H⟩ := H
  (try dsimp only at H)
  have A10 := Aside0.mk A100
  clear A100
  replace H := Option.bind_eq_some_iff.mp H
  obtain ⟨⟨t231, t232⟩, A110, H⟩ := H
  (try dsimp only at H)
  have A11 := Aside0.mk A110
  clear A110
  replace H := Option.bind_eq_some_iff.mp H
  obtain ⟨t233, A120, H⟩ := H
  (try dsimp only at H)
  have A12 := Aside0.mk A120
  clear A120
  replace H := Option.bind_eq_some_iff.mp H
  obtain ⟨⟨t234, t237, t240, t243⟩, A130, H⟩ := H
  (try dsimp only at H)
  have A13 := Aside0.mk A130
  clear A130
  replace H := Option.bind_eq_some_iff.mp H
  obtain ⟨⟨t247, t248⟩, A140, H⟩ := H
  (try dsimp only at H)
  have A14 := Aside0.mk A140
  clear A140
  replace H := Option.bind_eq_some_iff.mp H
  obtain ⟨t249, A150, H⟩ := H
  (try dsimp only at H)
  have A15 := Aside0.mk A150
  clear A150
  by_cases c16 : t249 = t233
  ·
   rw [if_pos c16] at H
   have c16b0 : (t249 == t233) = true := beq_iff_eq.mpr c16
   have c16b1 : (t249 != t233) = false := bne_eq_false_iff_eq.mpr c16
   clear c16
   replace H := Option.bind_eq_some_iff.mp H
   obtain ⟨⟨t250, t253, t256, t259⟩, A170, H⟩ := H
   (try dsimp only at H)
   have A17 := Aside0.mk A170
   clear A170
   replace H := Option.bind_eq_some_iff.mp H
   obtain ⟨t262, A180, H⟩ := H
   (try dsimp only at H)
   have A18 := Aside0.mk A180
   clear A180
   by_cases c19 : t262 = true
   ·
    subst c19
    have H1 : (some true) = some true := rfl
    clear H
    have H := H1
    clear H1
    clear H
    go_enter Try.func3, Try.ntmps3
    try go_wp2_with (first | ((with_reducible refine gate_dst (N := 2) rfl ?_); refine box_event ?hg (N := 2) ?hd (cs := #[.slice A0_0 l0_0.length c0_0, .slice A0_1 l0_1.length c0_1, .slice A0_2 l0_2.length c0_2, .slice A0_3 l0_3.length c0_3]) (t := 27) ?hr ?_; (case hd => rfl); (case hg => rfl); (case hr => first | (go_simp; done) | (go_simp; rfl)); intro gb216 hg w20 hbox hb; have n0_ := Aside0.mk (below_step z7_11 hb); have n1_ := Aside0.mk (hbox); have n2_ := Aside0.mk ((by rw [hg]; exact (below_size z7_11) : w.heap.size ≤ gb216)); have n3_ := Aside0.mk ((by rw [hg]; exact (below_size z7_11) : w.heap.size ≤ gb216)); clear HB; have HB := n0_; have BK216 := n1_; have GW216 := n2_; have GE216 := n3_; clear n0_ n1_ n2_ n3_; clear hb hbox hg) | ((with_reducible refine gate_dst (N := 3) rfl ?_); refine box_event ?hg (N := 3) ?hd (cs := #[.int .i64 a1_0, .int .i64 a1_1]) (t := 29) ?hr ?_; (case hd => rfl); (case hg => rfl); (case hr => first | (go_simp; done) | (go_simp; rfl)); intro gb217 hg w21 hbox hb; have n0_ := Aside0.mk (blk_below (g := gb216) (o := .cells #[.slice A0_0 l0_0.length c0_0, .slice A0_1 l0_1.length c0_1, .slice A0_2 l0_2.length c0_2, .slice A0_3 l0_3.length c0_3] 27 (0, 0)) z7_1 hb); have n1_ := Aside0.mk (below_step z7_10 hb); have n2_ := Aside0.mk (hbox); have n3_ := Aside0.mk ((by rw [hg]; exact (below_size z7_10) : w.heap.size ≤ gb217)); have n4_ := Aside0.mk ((by rw [hg]; exact (below_size z7_10) : w.heap.size ≤ gb217)); have n5_ := Aside0.mk ((by rw [hg]; exact Nat.ne_of_lt (blk_lt (g := gb216) (o := .cells #[.slice A0_0 l0_0.length c0_0, .slice A0_1 l0_1.length c0_1, .slice A0_2 l0_2.length c0_2, .slice A0_3 l0_3.length c0_3] 27 (0, 0)) z7_1) : gb216 ≠ gb217)); have n6_ := Aside0.mk ((by rw [hg]; exact Nat.ne_of_gt (blk_lt (g := gb216) (o := .cells #[.slice A0_0 l0_0.length c0_0, .slice A0_1 l0_1.length c0_1, .slice A0_2 l0_2.length c0_2, .slice A0_3 l0_3.length c0_3] 27 (0, 0)) z7_1) : gb217 ≠ gb216)); clear BK216; clear HB; have BK216 := n0_; have HB := n1_; have BK217 := n2_; have GW217 := n3_; have GE217 := n4_; have NB216_217 := n5_; have NB217_216 := n6_; clear n0_ n1_ n2_ n3_ n4_ n5_ n6_; clear hb hbox hg; have hnb22 := NB216_217.out; have hnc22 := NB217_216.out; have hcz23_0 : w21.cell? ⟨gb216, 0, none⟩ = some (.slice A0_0 l0_0.length c0_0) := (blk_cell BK216.out 0).trans rfl; have hcz23_1 : w21.cell? ⟨gb216, 1, none⟩ = some (.slice A0_1 l0_1.length c0_1) := (blk_cell BK216.out 1).trans rfl; have hcz23_2 : w21.cell? ⟨gb216, 2, none⟩ = some (.slice A0_2 l0_2.length c0_2) := (blk_cell BK216.out 2).trans rfl; have hcz23_3 : w21.cell? ⟨gb216, 3, none⟩ = some (.slice A0_3 l0_3.length c0_3) := (blk_cell BK216.out 3).trans rfl; have hfz23_0 := blk_frozen BK216.out 0; have hfz23_1 := blk_frozen BK216.out 1; have hfz23_2 := blk_frozen BK216.out 2; have hfz23_3 := blk_frozen BK216.out 3) | ((with_reducible refine gate_callee (f := 9) rfl ?_); refine goesL_ (some 11) rfl rfl Try.func9 z7_17 rfl #[.agg #[.slice A0_0 l0_0.length c0_0, .slice A0_1 l0_1.length c0_1, .slice A0_2 l0_2.length c0_2, .slice A0_3 l0_3.length c0_3], .int .i64 1048576] rfl z7_9 ?_; (with_reducible refine (laws_szState.calls k _ _ l0_0 _ _ l0_1 _ _ l0_2 _ _ l0_3 1048576 t218 _ ?side1 ?side2 ?side3 ?side4 ?side5 ?side6 ?side7 ?side8 A3.out).mono ?_); (case side1 => repeat (first | exact (Kd.C_below HR0_0.out HB.out) | (with_reducible refine Kd.C_alloc ?_ _) | (with_reducible refine Kd.C_drewN ?_ _) | (with_reducible refine Kd.C_drew ?_))); (case side2 => exact HC0_0.out); (case side3 => repeat (first | exact (Kd.C_below HR0_1.out HB.out) | (with_reducible refine Kd.C_alloc ?_ _) | (with_reducible refine Kd.C_drewN ?_ _) | (with_reducible refine Kd.C_drew ?_))); (case side4 => exact HC0_1.out); (case side5 => repeat (first | exact (Kd.C_below HR0_2.out HB.out) | (with_reducible refine Kd.C_alloc ?_ _) | (with_reducible refine Kd.C_drewN ?_ _) | (with_reducible refine Kd.C_drew ?_))); (case side6 => exact HC0_2.out); (case side7 => repeat (first | exact (Kd.C_below HR0_3.out HB.out) | (with_reducible refine Kd.C_alloc ?_ _) | (with_reducible refine Kd.C_drewN ?_ _) | (with_reducible refine Kd.C_drew ?_))); (case side8 => exact HC0_3.out); rintro e w24 ⟨rfl, hb⟩; refine ⟨_, rfl, ?_⟩; have n0_ := Aside0.mk (blk_below (g := gb216) (o := .cells #[.slice A0_0 l0_0.length c0_0, .slice A0_1 l0_1.length c0_1, .slice A0_2 l0_2.length c0_2, .slice A0_3 l0_3.length c0_3] 27 (0, 0)) z7_1 hb); have n1_ := Aside0.mk (blk_below (g := gb217) (o := .cells #[.int .i64 a1_0, .int .i64 a1_1] 29 (0, 0)) z7_3 hb); have n2_ := Aside0.mk (below_step z7_0 hb); clear BK216; clear BK217; clear HB; have BK216 := n0_; have BK217 := n1_; have HB := n2_; clear n0_ n1_ n2_))
    have n0_ := Aside0.mk (blk_drew BK216.out)
    have n1_ := Aside0.mk (blk_drew BK217.out)
    have n2_ := Aside0.mk (below_drew1 HB.out)
    clear BK216
    clear BK217
    clear HB
    have BK216 := n0_
    have BK217 := n1_
    have HB := n2_
    clear n0_ n1_ n2_
    refine start_ (n := 6) (S := fun w' => w'.cell? ⟨gb216, 0, none⟩ = some (.slice A0_0 l0_0.length c0_0) ∧ w'.cell? ⟨gb216, 1, none⟩ = some (.slice A0_1 l0_1.length c0_1) ∧ w'.cell? ⟨gb216, 2, none⟩ = some (.slice A0_2 l0_2.length c0_2) ∧ w'.cell? ⟨gb216, 3, none⟩ = some (.slice A0_3 l0_3.length c0_3) ∧ w'.cell? ⟨gb217, 0, none⟩ = some (.int .i64 a1_0) ∧ w'.cell? ⟨gb217, 1, none⟩ = some (.int .i64 a1_1)) (ds := []) #[false, false, false, false, false, false] z7_17 rfl rfl ⟨(blk_cell BK216.out 0).trans rfl, (blk_cell BK216.out 1).trans rfl, (blk_cell BK216.out 2).trans rfl, (blk_cell BK216.out 3).trans rfl, (blk_cell BK217.out 0).trans rfl, (blk_cell BK217.out 1).trans rfl⟩ (fun hHeld => ?_)
    generalize w24.drew = w25 at BK216 BK217 HB hHeld ⊢
    refine take_ (i := 0) (N := some 14) (v := ?_) (a' := ?_) #[true, false, false, false, false, false] rfl rfl z7_17 (fun _ _ _ h => h) (Or.inl ⟨by rfl, ?_⟩) hHeld ?_ ?_
    rotate_left
    ·
     rintro w' ⟨s0, s1, s2, s3, s4, s5⟩
     go_simp
     with_reducible rfl
    rotate_left
    ·
     exact z7_8
    refine take_ (i := 2) (N := some 16) (v := ?_) (a' := ?_) #[true, false, true, false, false, false] rfl rfl z7_17 (fun _ _ _ h => h) (Or.inl ⟨by rfl, ?_⟩) hHeld ?_ ?_
    rotate_left
    ·
     rintro w' ⟨s0, s1, s2, s3, s4, s5⟩
     go_simp
     with_reducible rfl
    rotate_left
    ·
     exact z7_8
    refine one_ (i := 1) (N := some 15) #[true, true, true, false, false, false] rfl rfl z7_17 (by decide) (fun K hK => ?_)
    refine goes_ Try.func11 z7_17 rfl #[.agg #[.slice A0_0 l0_0.length c0_0, .slice A0_1 l0_1.length c0_1, .slice A0_2 l0_2.length c0_2, .slice A0_3 l0_3.length c0_3]] (by rfl) rfl rfl z7_9 ?_
    with_reducible refine (laws_toState.calls k _ _ l0_0 _ _ l0_1 _ _ l0_2 _ _ l0_3 t219 t222 t225 t228 _ ?side1 ?side2 ?side3 ?side4 ?side5 ?side6 ?side7 ?side8 A10.out).mono ?_
    (case side1 => repeat (first | exact (Kd.C_below HR0_0.out HB.out) | (with_reducible refine Kd.C_alloc ?_ _) | (with_reducible refine Kd.C_drewN ?_ _) | (with_reducible refine Kd.C_drew ?_)))
    (case side2 => exact HC0_0.out)
    (case side3 => repeat (first | exact (Kd.C_below HR0_1.out HB.out) | (with_reducible refine Kd.C_alloc ?_ _) | (with_reducible refine Kd.C_drewN ?_ _) | (with_reducible refine Kd.C_drew ?_)))
    (case side4 => exact HC0_1.out)
    (case side5 => repeat (first | exact (Kd.C_below HR0_2.out HB.out) | (with_reducible refine Kd.C_alloc ?_ _) | (with_reducible refine Kd.C_drewN ?_ _) | (with_reducible refine Kd.C_drew ?_)))
    (case side6 => exact HC0_2.out)
    (case side7 => repeat (first | exact (Kd.C_below HR0_3.out HB.out) | (with_reducible refine Kd.C_alloc ?_ _) | (with_reducible refine Kd.C_drewN ?_ _) | (with_reducible refine Kd.C_drew ?_)))
    (case side8 => exact HC0_3.out)
    rintro e w26 ⟨v220, v223, v226, v229, rfl, ho0, ho1, ho2, ho3, hb⟩
    refine ⟨_, rfl, ?_⟩
    have n0_ := Aside0.mk (Kd.R_lower ho0 (below_size z7_0))
    have n1_ := Aside0.mk (Kd.R_lower ho1 (below_size z7_0))
    have n2_ := Aside0.mk (Kd.R_lower ho2 (below_size z7_0))
    have n3_ := Aside0.mk (Kd.R_lower ho3 (below_size z7_0))
    have n4_ := Aside0.mk (blk_below (g := gb216) (o := .cells #[.slice A0_0 l0_0.length c0_0, .slice A0_1 l0_1.length c0_1, .slice A0_2 l0_2.length c0_2, .slice A0_3 l0_3.length c0_3] 27 (0, 0)) z7_1 hb)
    have n5_ := Aside0.mk (blk_below (g := gb217) (o := .cells #[.int .i64 a1_0, .int .i64 a1_1] 29 (0, 0)) z7_3 hb)
    have n6_ := Aside0.mk (below_step z7_0 hb)
    clear BK216
    clear BK217
    clear HB
    have HO221 := n0_
    have HO224 := n1_
    have HO227 := n2_
    have HO230 := n3_
    have BK216 := n4_
    have BK217 := n5_
    have HB := n6_
    clear n0_ n1_ n2_ n3_ n4_ n5_ n6_
    (try clear hb)
    (try clear hb2)
    (try clear hk)
    (try clear hi)
    (try clear ho0)
    (try clear ho1)
    (try clear ho2)
    (try clear ho3)
    refine hK.out _ _ ⟨(blk_cell BK216.out 0).trans rfl, (blk_cell BK216.out 1).trans rfl, (blk_cell BK216.out 2).trans rfl, (blk_cell BK216.out 3).trans rfl, (blk_cell BK217.out 0).trans rfl, (blk_cell BK217.out 1).trans rfl⟩ (fun hHeld => ?_)
    clear hK K
    refine norm_ (a' := ?_) ?_ ?_
    rotate_left
    ·
     show Act.put _ (some 15) _ = _
     simp only [Act.put, List.setIfInBounds_toArray, List.set_cons_zero, List.set_cons_succ, i64_w, i32_w]
     rfl
    refine one_ (i := 3) (N := some 17) #[true, true, true, true, false, false] rfl rfl z7_17 (by decide) (fun K hK => ?_)
    refine goes_ Try.func12 z7_17 rfl #[.agg #[.int .i64 a1_0, .int .i64 a1_1]] (by rfl) rfl rfl z7_9 ?_
    with_reducible refine (laws_toDot.calls a1_0 a1_1 t231 t232 _ A11.out).mono ?_
    rintro e w27 ⟨rfl, hb⟩
    refine ⟨_, rfl, ?_⟩
    have n0_ := Aside0.mk (Kd.R_below z7_7 hb)
    have n1_ := Aside0.mk (Kd.R_below z7_6 hb)
    have n2_ := Aside0.mk (Kd.R_below z7_5 hb)
    have n3_ := Aside0.mk (Kd.R_below z7_4 hb)
    have n4_ := Aside0.mk (blk_below (g := gb216) (o := .cells #[.slice A0_0 l0_0.length c0_0, .slice A0_1 l0_1.length c0_1, .slice A0_2 l0_2.length c0_2, .slice A0_3 l0_3.length c0_3] 27 (0, 0)) z7_1 hb)
    have n5_ := Aside0.mk (blk_below (g := gb217) (o := .cells #[.int .i64 a1_0, .int .i64 a1_1] 29 (0, 0)) z7_3 hb)
    have n6_ := Aside0.mk (below_step z7_0 hb)
    clear HO221
    clear HO224
    clear HO227
    clear HO230
    clear BK216
    clear BK217
    clear HB
    have HO221 := n0_
    have HO224 := n1_
    have HO227 := n2_
    have HO230 := n3_
    have BK216 := n4_
    have BK217 := n5_
    have HB := n6_
    clear n0_ n1_ n2_ n3_ n4_ n5_ n6_
    (try clear hb)
    (try clear hb2)
    (try clear hk)
    (try clear hi)
    obtain ⟨Ao28, co28, eo28⟩ := Kd.R_slice HO221.out
    (first | subst eo28 | (injection eo28 with f1_ f2_ f3_; have f4_ := f1_.symm; have f5_ := f3_.symm; clear f1_ f2_ f3_; subst f4_; subst f5_))
    obtain ⟨Ao29, co29, eo29⟩ := Kd.R_slice HO224.out
    (first | subst eo29 | (injection eo29 with f1_ f2_ f3_; have f4_ := f1_.symm; have f5_ := f3_.symm; clear f1_ f2_ f3_; subst f4_; subst f5_))
    obtain ⟨Ao30, co30, eo30⟩ := Kd.R_slice HO227.out
    (first | subst eo30 | (injection eo30 with f1_ f2_ f3_; have f4_ := f1_.symm; have f5_ := f3_.symm; clear f1_ f2_ f3_; subst f4_; subst f5_))
    obtain ⟨Ao31, co31, eo31⟩ := Kd.R_slice HO230.out
    (first | subst eo31 | (injection eo31 with f1_ f2_ f3_; have f4_ := f1_.symm; have f5_ := f3_.symm; clear f1_ f2_ f3_; subst f4_; subst f5_))
    refine hK.out _ _ ⟨(blk_cell BK216.out 0).trans rfl, (blk_cell BK216.out 1).trans rfl, (blk_cell BK216.out 2).trans rfl, (blk_cell BK216.out 3).trans rfl, (blk_cell BK217.out 0).trans rfl, (blk_cell BK217.out 1).trans rfl⟩ (fun hHeld => ?_)
    clear hK K
    refine norm_ (a' := ?_) ?_ ?_
    rotate_left
    ·
     show Act.put _ (some 17) _ = _
     simp only [Act.put, List.setIfInBounds_toArray, List.set_cons_zero, List.set_cons_succ, i64_w, i32_w]
     rfl
    refine one_ (i := 4) (N := some 18) #[true, true, true, true, true, false] rfl rfl z7_17 (by decide) (fun K hK => ?_)
    refine goes_ Try.func10 z7_17 rfl #[.agg #[.slice Ao28 t219.length co28, .slice Ao29 t222.length co29, .slice Ao30 t225.length co30, .slice Ao31 t228.length co31], .agg #[.int .i64 t231, .int .i64 t232]] (by rfl) rfl rfl z7_9 ?_
    with_reducible refine (spec_CellAt.calls k _ _ t219 _ _ t222 _ _ t225 _ _ t228 t231 t232 t233 _ ?side1 ?side2 ?side3 ?side4 ?side5 ?side6 ?side7 ?side8 A12.out).mono ?_
    (case side1 => repeat (first | exact (Kd.R_reads' HO221.out).2.2 | (with_reducible refine Kd.C_alloc ?_ _) | (with_reducible refine Kd.C_drewN ?_ _) | (with_reducible refine Kd.C_drew ?_)))
    (case side2 => exact (Kd.R_reads' HO221.out).2.1)
    (case side3 => repeat (first | exact (Kd.R_reads' HO224.out).2.2 | (with_reducible refine Kd.C_alloc ?_ _) | (with_reducible refine Kd.C_drewN ?_ _) | (with_reducible refine Kd.C_drew ?_)))
    (case side4 => exact (Kd.R_reads' HO224.out).2.1)
    (case side5 => repeat (first | exact (Kd.R_reads' HO227.out).2.2 | (with_reducible refine Kd.C_alloc ?_ _) | (with_reducible refine Kd.C_drewN ?_ _) | (with_reducible refine Kd.C_drew ?_)))
    (case side6 => exact (Kd.R_reads' HO227.out).2.1)
    (case side7 => repeat (first | exact (Kd.R_reads' HO230.out).2.2 | (with_reducible refine Kd.C_alloc ?_ _) | (with_reducible refine Kd.C_drewN ?_ _) | (with_reducible refine Kd.C_drew ?_)))
    (case side8 => exact (Kd.R_reads' HO230.out).2.1)
    rintro e w32 ⟨rfl, hb⟩
    refine ⟨_, rfl, ?_⟩
    have n0_ := Aside0.mk (Kd.R_below z7_7 hb)
    have n1_ := Aside0.mk (Kd.R_below z7_6 hb)
    have n2_ := Aside0.mk (Kd.R_below z7_5 hb)
    have n3_ := Aside0.mk (Kd.R_below z7_4 hb)
    have n4_ := Aside0.mk (blk_below (g := gb216) (o := .cells #[.slice A0_0 l0_0.length c0_0, .slice A0_1 l0_1.length c0_1, .slice A0_2 l0_2.length c0_2, .slice A0_3 l0_3.length c0_3] 27 (0, 0)) z7_1 hb)
    have n5_ := Aside0.mk (blk_below (g := gb217) (o := .cells #[.int .i64 a1_0, .int .i64 a1_1] 29 (0, 0)) z7_3 hb)
    have n6_ := Aside0.mk (below_step z7_0 hb)
    clear HO221
    clear HO224
    clear HO227
    clear HO230
    clear BK216
    clear BK217
    clear HB
    have HO221 := n0_
    have HO224 := n1_
    have HO227 := n2_
    have HO230 := n3_
    have BK216 := n4_
    have BK217 := n5_
    have HB := n6_
    clear n0_ n1_ n2_ n3_ n4_ n5_ n6_
    (try clear hb)
    (try clear hb2)
    (try clear hk)
    (try clear hi)
    refine hK.out _ _ ⟨(blk_cell BK216.out 0).trans rfl, (blk_cell BK216.out 1).trans rfl, (blk_cell BK216.out 2).trans rfl, (blk_cell BK216.out 3).trans rfl, (blk_cell BK217.out 0).trans rfl, (blk_cell BK217.out 1).trans rfl⟩ (fun hHeld => ?_)
    clear hK K
    refine norm_ (a' := ?_) ?_ ?_
    rotate_left
    ·
     show Act.put _ (some 18) _ = _
     simp only [Act.put, List.setIfInBounds_toArray, List.set_cons_zero, List.set_cons_succ, i64_w, i32_w]
     rfl
    refine pure_ (i := 5) (N := some 6) (v := ?_) (a' := ?_) #[true, true, true, true, true, true] rfl rfl z7_17 (fun _ _ _ h => h) (Or.inl ⟨by rfl, ?_⟩) ?_ ?_
    rotate_left
    ·
     exact (by intro w'; go_simp; with_reducible rfl)
    rotate_left
    ·
     exact z7_8
    refine done_ z7_17 ?_
    have hcz33_0 : w32.cell? ⟨gb216, 0, none⟩ = some (.slice A0_0 l0_0.length c0_0) := (blk_cell BK216.out 0).trans rfl
    have hcz33_1 : w32.cell? ⟨gb216, 1, none⟩ = some (.slice A0_1 l0_1.length c0_1) := (blk_cell BK216.out 1).trans rfl
    have hcz33_2 : w32.cell? ⟨gb216, 2, none⟩ = some (.slice A0_2 l0_2.length c0_2) := (blk_cell BK216.out 2).trans rfl
    have hcz33_3 : w32.cell? ⟨gb216, 3, none⟩ = some (.slice A0_3 l0_3.length c0_3) := (blk_cell BK216.out 3).trans rfl
    have hfz33_0 := blk_frozen BK216.out 0
    have hfz33_1 := blk_frozen BK216.out 1
    have hfz33_2 := blk_frozen BK216.out 2
    have hfz33_3 := blk_frozen BK216.out 3
    try go_wp2_with (first | ((with_reducible refine gate_callee (f := 11) rfl ?_); refine goesL_ (some 20) rfl rfl Try.func11 z7_17 rfl #[.agg #[.slice A0_0 l0_0.length c0_0, .slice A0_1 l0_1.length c0_1, .slice A0_2 l0_2.length c0_2, .slice A0_3 l0_3.length c0_3]] rfl z7_9 ?_; (with_reducible refine (laws_toState.calls k _ _ l0_0 _ _ l0_1 _ _ l0_2 _ _ l0_3 t234 t237 t240 t243 _ ?side1 ?side2 ?side3 ?side4 ?side5 ?side6 ?side7 ?side8 A13.out).mono ?_); (case side1 => repeat (first | exact (Kd.C_below HR0_0.out HB.out) | (with_reducible refine Kd.C_alloc ?_ _) | (with_reducible refine Kd.C_drewN ?_ _) | (with_reducible refine Kd.C_drew ?_))); (case side2 => exact HC0_0.out); (case side3 => repeat (first | exact (Kd.C_below HR0_1.out HB.out) | (with_reducible refine Kd.C_alloc ?_ _) | (with_reducible refine Kd.C_drewN ?_ _) | (with_reducible refine Kd.C_drew ?_))); (case side4 => exact HC0_1.out); (case side5 => repeat (first | exact (Kd.C_below HR0_2.out HB.out) | (with_reducible refine Kd.C_alloc ?_ _) | (with_reducible refine Kd.C_drewN ?_ _) | (with_reducible refine Kd.C_drew ?_))); (case side6 => exact HC0_2.out); (case side7 => repeat (first | exact (Kd.C_below HR0_3.out HB.out) | (with_reducible refine Kd.C_alloc ?_ _) | (with_reducible refine Kd.C_drewN ?_ _) | (with_reducible refine Kd.C_drew ?_))); (case side8 => exact HC0_3.out); rintro e w34 ⟨v235, v238, v241, v244, rfl, ho0, ho1, ho2, ho3, hb⟩; refine ⟨_, rfl, ?_⟩; have n0_ := Aside0.mk (Kd.R_elder' z7_7 (Kd.R_base ho0) hb); have n1_ := Aside0.mk (Kd.R_elder' z7_6 (Kd.R_base ho1) hb); have n2_ := Aside0.mk (Kd.R_elder' z7_5 (Kd.R_base ho2) hb); have n3_ := Aside0.mk (Kd.R_elder' z7_4 (Kd.R_base ho3) hb); have n4_ := Aside0.mk (Kd.R_lower (Kd.R_new' ho0 (Kd.R_lt z7_7)) (below_size z7_0)); have n5_ := Aside0.mk (Kd.R_lower (Kd.R_new' ho1 (Kd.R_lt z7_6)) (below_size z7_0)); have n6_ := Aside0.mk (Kd.R_lower (Kd.R_new' ho2 (Kd.R_lt z7_5)) (below_size z7_0)); have n7_ := Aside0.mk (Kd.R_lower (Kd.R_new' ho3 (Kd.R_lt z7_4)) (below_size z7_0)); have n8_ := Aside0.mk (blk_below (g := gb216) (o := .cells #[.slice A0_0 l0_0.length c0_0, .slice A0_1 l0_1.length c0_1, .slice A0_2 l0_2.length c0_2, .slice A0_3 l0_3.length c0_3] 27 (0, 0)) z7_1 hb); have n9_ := Aside0.mk (blk_below (g := gb217) (o := .cells #[.int .i64 a1_0, .int .i64 a1_1] 29 (0, 0)) z7_3 hb); have n10_ := Aside0.mk (below_step z7_0 hb); clear HO221; clear HO224; clear HO227; clear HO230; clear BK216; clear BK217; clear HB; have HO221 := n0_; have HO224 := n1_; have HO227 := n2_; have HO230 := n3_; have HO236 := n4_; have HO239 := n5_; have HO242 := n6_; have HO245 := n7_; have BK216 := n8_; have BK217 := n9_; have HB := n10_; clear n0_ n1_ n2_ n3_ n4_ n5_ n6_ n7_ n8_ n9_ n10_; (try clear ho0); (try clear ho1); (try clear ho2); (try clear ho3)) | ((with_reducible refine gate_dst (N := 7) rfl ?_); refine box_event ?hg (N := 7) ?hd (cs := #[.slice none 0 0, .slice none 0 0, .slice none 0 0, .slice none 0 0]) (t := 36) ?hr ?_; (case hd => rfl); (case hg => rfl); (case hr => first | (go_simp; done) | (go_simp; rfl)); intro gb246 hg w35 hbox hb; have n0_ := Aside0.mk (Kd.R_below z7_7 hb); have n1_ := Aside0.mk (Kd.R_below z7_6 hb); have n2_ := Aside0.mk (Kd.R_below z7_5 hb); have n3_ := Aside0.mk (Kd.R_below z7_4 hb); have n4_ := Aside0.mk (Kd.R_below z7_15 hb); have n5_ := Aside0.mk (Kd.R_below z7_14 hb); have n6_ := Aside0.mk (Kd.R_below z7_13 hb); have n7_ := Aside0.mk (Kd.R_below z7_12 hb); have n8_ := Aside0.mk (blk_below (g := gb216) (o := .cells #[.slice A0_0 l0_0.length c0_0, .slice A0_1 l0_1.length c0_1, .slice A0_2 l0_2.length c0_2, .slice A0_3 l0_3.length c0_3] 27 (0, 0)) z7_1 hb); have n9_ := Aside0.mk (blk_below (g := gb217) (o := .cells #[.int .i64 a1_0, .int .i64 a1_1] 29 (0, 0)) z7_3 hb); have n10_ := Aside0.mk (below_step z7_0 hb); have n11_ := Aside0.mk (hbox); have n12_ := Aside0.mk ((by rw [hg]; exact (below_size z7_0) : w.heap.size ≤ gb246)); have n13_ := Aside0.mk ((by rw [hg]; exact (below_size z7_0) : w.heap.size ≤ gb246)); have n14_ := Aside0.mk ((by rw [hg]; exact Nat.ne_of_lt (blk_lt (g := gb216) (o := .cells #[.slice A0_0 l0_0.length c0_0, .slice A0_1 l0_1.length c0_1, .slice A0_2 l0_2.length c0_2, .slice A0_3 l0_3.length c0_3] 27 (0, 0)) z7_1) : gb216 ≠ gb246)); have n15_ := Aside0.mk ((by rw [hg]; exact Nat.ne_of_gt (blk_lt (g := gb216) (o := .cells #[.slice A0_0 l0_0.length c0_0, .slice A0_1 l0_1.length c0_1, .slice A0_2 l0_2.length c0_2, .slice A0_3 l0_3.length c0_3] 27 (0, 0)) z7_1) : gb246 ≠ gb216)); have n16_ := Aside0.mk ((by rw [hg]; exact Nat.ne_of_lt (blk_lt (g := gb217) (o := .cells #[.int .i64 a1_0, .int .i64 a1_1] 29 (0, 0)) z7_3) : gb217 ≠ gb246)); have n17_ := Aside0.mk ((by rw [hg]; exact Nat.ne_of_gt (blk_lt (g := gb217) (o := .cells #[.int .i64 a1_0, .int .i64 a1_1] 29 (0, 0)) z7_3) : gb246 ≠ gb217)); clear HO221; clear HO224; clear HO227; clear HO230; clear HO236; clear HO239; clear HO242; clear HO245; clear BK216; clear BK217; clear HB; have HO221 := n0_; have HO224 := n1_; have HO227 := n2_; have HO230 := n3_; have HO236 := n4_; have HO239 := n5_; have HO242 := n6_; have HO245 := n7_; have BK216 := n8_; have BK217 := n9_; have HB := n10_; have BK246 := n11_; have GW246 := n12_; have GE246 := n13_; have NB216_246 := n14_; have NB246_216 := n15_; have NB217_246 := n16_; have NB246_217 := n17_; clear n0_ n1_ n2_ n3_ n4_ n5_ n6_ n7_ n8_ n9_ n10_ n11_ n12_ n13_ n14_ n15_ n16_ n17_; clear hb hbox hg; obtain ⟨Ao36, co36, eo36⟩ := Kd.R_slice HO236.out; subst eo36; have hnb37 := NB246_216.out; have hnc37 := NB216_246.out; have hnb38 := NB246_217.out; have hnc38 := NB217_246.out; have hcz39_0 : w35.cell? ⟨gb246, 0, none⟩ = some (.slice none 0 0) := (blk_cell BK246.out 0).trans rfl; have hcz39_1 : w35.cell? ⟨gb246, 1, none⟩ = some (.slice none 0 0) := (blk_cell BK246.out 1).trans rfl; have hcz39_2 : w35.cell? ⟨gb246, 2, none⟩ = some (.slice none 0 0) := (blk_cell BK246.out 2).trans rfl; have hcz39_3 : w35.cell? ⟨gb246, 3, none⟩ = some (.slice none 0 0) := (blk_cell BK246.out 3).trans rfl; have hfz39_0 := blk_frozen BK246.out 0; have hfz39_1 := blk_frozen BK246.out 1; have hfz39_2 := blk_frozen BK246.out 2; have hfz39_3 := blk_frozen BK246.out 3; obtain ⟨Ao40, co40, eo40⟩ := Kd.R_slice HO239.out; subst eo40; obtain ⟨Ao41, co41, eo41⟩ := Kd.R_slice HO242.out; subst eo41; obtain ⟨Ao42, co42, eo42⟩ := Kd.R_slice HO245.out; subst eo42))
    have n0_ : Aside0 (Kd.R (Kd.int .i64) 3 ((((w35.setCell ⟨gb246, 0, none⟩ (.slice Ao36 t234.length co36)).setCell ⟨gb246, 1, none⟩ (.slice Ao40 t237.length co40)).setCell ⟨gb246, 2, none⟩ (.slice Ao41 t240.length co41)).setCell ⟨gb246, 3, none⟩ (.slice Ao42 t243.length co42)) w.heap.size (fun k_ => some k_ ≠ (.slice Ao36 t234.length co36 : Value).ownBlock) (.slice Ao28 t219.length co28) t219) := ⟨by (with_reducible repeat (first | apply Kd.R_alloc | apply Kd.R_drewN | apply Kd.R_drew)); exact Kd.R_mono (Kd.R_far (p := ⟨gb246, 3, none⟩) (Kd.R_far (p := ⟨gb246, 2, none⟩) (Kd.R_far (p := ⟨gb246, 1, none⟩) (Kd.R_far (p := ⟨gb246, 0, none⟩) (Kd.R_types HO221.out BK246.out (by decide)) (fun _ hk => by first | exact hk.2 | trivial) (.slice Ao36 t234.length co36)) (fun _ hk => by first | exact hk.2 | trivial) (.slice Ao40 t237.length co40)) (fun _ hk => by first | exact hk.2 | trivial) (.slice Ao41 t240.length co41)) (fun _ hk => by first | exact hk.2 | trivial) (.slice Ao42 t243.length co42)) (fun _ hk => hk.1.2)⟩
    have n1_ : Aside0 (Kd.R k84 84 ((((w35.setCell ⟨gb246, 0, none⟩ (.slice Ao36 t234.length co36)).setCell ⟨gb246, 1, none⟩ (.slice Ao40 t237.length co40)).setCell ⟨gb246, 2, none⟩ (.slice Ao41 t240.length co41)).setCell ⟨gb246, 3, none⟩ (.slice Ao42 t243.length co42)) w.heap.size (fun k_ => some k_ ≠ (.slice Ao40 t237.length co40 : Value).ownBlock) (.slice Ao29 t222.length co29) t222) := ⟨by (with_reducible repeat (first | apply Kd.R_alloc | apply Kd.R_drewN | apply Kd.R_drew)); exact Kd.R_mono (Kd.R_far (p := ⟨gb246, 3, none⟩) (Kd.R_far (p := ⟨gb246, 2, none⟩) (Kd.R_far (p := ⟨gb246, 1, none⟩) (Kd.R_far (p := ⟨gb246, 0, none⟩) (Kd.R_types HO224.out BK246.out (by decide)) (fun _ hk => by first | exact hk.2 | trivial) (.slice Ao36 t234.length co36)) (fun _ hk => by first | exact hk.2 | trivial) (.slice Ao40 t237.length co40)) (fun _ hk => by first | exact hk.2 | trivial) (.slice Ao41 t240.length co41)) (fun _ hk => by first | exact hk.2 | trivial) (.slice Ao42 t243.length co42)) (fun _ hk => hk.1.2)⟩
    have n2_ : Aside0 (Kd.R k86 86 ((((w35.setCell ⟨gb246, 0, none⟩ (.slice Ao36 t234.length co36)).setCell ⟨gb246, 1, none⟩ (.slice Ao40 t237.length co40)).setCell ⟨gb246, 2, none⟩ (.slice Ao41 t240.length co41)).setCell ⟨gb246, 3, none⟩ (.slice Ao42 t243.length co42)) w.heap.size (fun k_ => some k_ ≠ (.slice Ao41 t240.length co41 : Value).ownBlock) (.slice Ao30 t225.length co30) t225) := ⟨by (with_reducible repeat (first | apply Kd.R_alloc | apply Kd.R_drewN | apply Kd.R_drew)); exact Kd.R_mono (Kd.R_far (p := ⟨gb246, 3, none⟩) (Kd.R_far (p := ⟨gb246, 2, none⟩) (Kd.R_far (p := ⟨gb246, 1, none⟩) (Kd.R_far (p := ⟨gb246, 0, none⟩) (Kd.R_types HO227.out BK246.out (by decide)) (fun _ hk => by first | exact hk.2 | trivial) (.slice Ao36 t234.length co36)) (fun _ hk => by first | exact hk.2 | trivial) (.slice Ao40 t237.length co40)) (fun _ hk => by first | exact hk.2 | trivial) (.slice Ao41 t240.length co41)) (fun _ hk => by first | exact hk.2 | trivial) (.slice Ao42 t243.length co42)) (fun _ hk => hk.1.2)⟩
    have n3_ : Aside0 (Kd.R k73 73 ((((w35.setCell ⟨gb246, 0, none⟩ (.slice Ao36 t234.length co36)).setCell ⟨gb246, 1, none⟩ (.slice Ao40 t237.length co40)).setCell ⟨gb246, 2, none⟩ (.slice Ao41 t240.length co41)).setCell ⟨gb246, 3, none⟩ (.slice Ao42 t243.length co42)) w.heap.size (fun k_ => some k_ ≠ (.slice Ao42 t243.length co42 : Value).ownBlock) (.slice Ao31 t228.length co31) t228) := ⟨by (with_reducible repeat (first | apply Kd.R_alloc | apply Kd.R_drewN | apply Kd.R_drew)); exact Kd.R_mono (Kd.R_far (p := ⟨gb246, 3, none⟩) (Kd.R_far (p := ⟨gb246, 2, none⟩) (Kd.R_far (p := ⟨gb246, 1, none⟩) (Kd.R_far (p := ⟨gb246, 0, none⟩) (Kd.R_types HO230.out BK246.out (by decide)) (fun _ hk => by first | exact hk.2 | trivial) (.slice Ao36 t234.length co36)) (fun _ hk => by first | exact hk.2 | trivial) (.slice Ao40 t237.length co40)) (fun _ hk => by first | exact hk.2 | trivial) (.slice Ao41 t240.length co41)) (fun _ hk => by first | exact hk.2 | trivial) (.slice Ao42 t243.length co42)) (fun _ hk => hk.1.2)⟩
    have n4_ : Aside0 (Kd.R (Kd.int .i64) 3 ((((w35.setCell ⟨gb246, 0, none⟩ (.slice Ao36 t234.length co36)).setCell ⟨gb246, 1, none⟩ (.slice Ao40 t237.length co40)).setCell ⟨gb246, 2, none⟩ (.slice Ao41 t240.length co41)).setCell ⟨gb246, 3, none⟩ (.slice Ao42 t243.length co42)) w.heap.size (fun k_ => some k_ ≠ (.slice Ao28 t219.length co28 : Value).ownBlock) (.slice Ao36 t234.length co36) t234) := ⟨by (with_reducible repeat (first | apply Kd.R_alloc | apply Kd.R_drewN | apply Kd.R_drew)); exact Kd.R_mono (Kd.R_far (p := ⟨gb246, 3, none⟩) (Kd.R_far (p := ⟨gb246, 2, none⟩) (Kd.R_far (p := ⟨gb246, 1, none⟩) (Kd.R_far (p := ⟨gb246, 0, none⟩) (Kd.R_types HO236.out BK246.out (by decide)) (fun _ hk => by first | exact hk.2 | trivial) (.slice Ao36 t234.length co36)) (fun _ hk => by first | exact hk.2 | trivial) (.slice Ao40 t237.length co40)) (fun _ hk => by first | exact hk.2 | trivial) (.slice Ao41 t240.length co41)) (fun _ hk => by first | exact hk.2 | trivial) (.slice Ao42 t243.length co42)) (fun _ hk => hk.1.2)⟩
    have n5_ : Aside0 (Kd.R k84 84 ((((w35.setCell ⟨gb246, 0, none⟩ (.slice Ao36 t234.length co36)).setCell ⟨gb246, 1, none⟩ (.slice Ao40 t237.length co40)).setCell ⟨gb246, 2, none⟩ (.slice Ao41 t240.length co41)).setCell ⟨gb246, 3, none⟩ (.slice Ao42 t243.length co42)) w.heap.size (fun k_ => some k_ ≠ (.slice Ao29 t222.length co29 : Value).ownBlock) (.slice Ao40 t237.length co40) t237) := ⟨by (with_reducible repeat (first | apply Kd.R_alloc | apply Kd.R_drewN | apply Kd.R_drew)); exact Kd.R_mono (Kd.R_far (p := ⟨gb246, 3, none⟩) (Kd.R_far (p := ⟨gb246, 2, none⟩) (Kd.R_far (p := ⟨gb246, 1, none⟩) (Kd.R_far (p := ⟨gb246, 0, none⟩) (Kd.R_types HO239.out BK246.out (by decide)) (fun _ hk => by first | exact hk.2 | trivial) (.slice Ao36 t234.length co36)) (fun _ hk => by first | exact hk.2 | trivial) (.slice Ao40 t237.length co40)) (fun _ hk => by first | exact hk.2 | trivial) (.slice Ao41 t240.length co41)) (fun _ hk => by first | exact hk.2 | trivial) (.slice Ao42 t243.length co42)) (fun _ hk => hk.1.2)⟩
    have n6_ : Aside0 (Kd.R k86 86 ((((w35.setCell ⟨gb246, 0, none⟩ (.slice Ao36 t234.length co36)).setCell ⟨gb246, 1, none⟩ (.slice Ao40 t237.length co40)).setCell ⟨gb246, 2, none⟩ (.slice Ao41 t240.length co41)).setCell ⟨gb246, 3, none⟩ (.slice Ao42 t243.length co42)) w.heap.size (fun k_ => some k_ ≠ (.slice Ao30 t225.length co30 : Value).ownBlock) (.slice Ao41 t240.length co41) t240) := ⟨by (with_reducible repeat (first | apply Kd.R_alloc | apply Kd.R_drewN | apply Kd.R_drew)); exact Kd.R_mono (Kd.R_far (p := ⟨gb246, 3, none⟩) (Kd.R_far (p := ⟨gb246, 2, none⟩) (Kd.R_far (p := ⟨gb246, 1, none⟩) (Kd.R_far (p := ⟨gb246, 0, none⟩) (Kd.R_types HO242.out BK246.out (by decide)) (fun _ hk => by first | exact hk.2 | trivial) (.slice Ao36 t234.length co36)) (fun _ hk => by first | exact hk.2 | trivial) (.slice Ao40 t237.length co40)) (fun _ hk => by first | exact hk.2 | trivial) (.slice Ao41 t240.length co41)) (fun _ hk => by first | exact hk.2 | trivial) (.slice Ao42 t243.length co42)) (fun _ hk => hk.1.2)⟩
    have n7_ : Aside0 (Kd.R k73 73 ((((w35.setCell ⟨gb246, 0, none⟩ (.slice Ao36 t234.length co36)).setCell ⟨gb246, 1, none⟩ (.slice Ao40 t237.length co40)).setCell ⟨gb246, 2, none⟩ (.slice Ao41 t240.length co41)).setCell ⟨gb246, 3, none⟩ (.slice Ao42 t243.length co42)) w.heap.size (fun k_ => some k_ ≠ (.slice Ao31 t228.length co31 : Value).ownBlock) (.slice Ao42 t243.length co42) t243) := ⟨by (with_reducible repeat (first | apply Kd.R_alloc | apply Kd.R_drewN | apply Kd.R_drew)); exact Kd.R_mono (Kd.R_far (p := ⟨gb246, 3, none⟩) (Kd.R_far (p := ⟨gb246, 2, none⟩) (Kd.R_far (p := ⟨gb246, 1, none⟩) (Kd.R_far (p := ⟨gb246, 0, none⟩) (Kd.R_types HO245.out BK246.out (by decide)) (fun _ hk => by first | exact hk.2 | trivial) (.slice Ao36 t234.length co36)) (fun _ hk => by first | exact hk.2 | trivial) (.slice Ao40 t237.length co40)) (fun _ hk => by first | exact hk.2 | trivial) (.slice Ao41 t240.length co41)) (fun _ hk => by first | exact hk.2 | trivial) (.slice Ao42 t243.length co42)) (fun _ hk => hk.1.2)⟩
    have n8_ : Aside0 (((((w35.setCell ⟨gb246, 0, none⟩ (.slice Ao36 t234.length co36)).setCell ⟨gb246, 1, none⟩ (.slice Ao40 t237.length co40)).setCell ⟨gb246, 2, none⟩ (.slice Ao41 t240.length co41)).setCell ⟨gb246, 3, none⟩ (.slice Ao42 t243.length co42)).heap[gb216]? = some (.cells #[.slice A0_0 l0_0.length c0_0, .slice A0_1 l0_1.length c0_1, .slice A0_2 l0_2.length c0_2, .slice A0_3 l0_3.length c0_3] 27 (0, 0))) := ⟨by (with_reducible repeat (first | refine blk_drewN ?_ _ | refine blk_drew ?_ | refine blk_alloc ?_ _)); refine blk_far ?_ NB216_246.out _; (with_reducible repeat (first | refine blk_drewN ?_ _ | refine blk_drew ?_ | refine blk_alloc ?_ _)); refine blk_far ?_ NB216_246.out _; (with_reducible repeat (first | refine blk_drewN ?_ _ | refine blk_drew ?_ | refine blk_alloc ?_ _)); refine blk_far ?_ NB216_246.out _; (with_reducible repeat (first | refine blk_drewN ?_ _ | refine blk_drew ?_ | refine blk_alloc ?_ _)); refine blk_far ?_ NB216_246.out _; (with_reducible repeat (first | refine blk_drewN ?_ _ | refine blk_drew ?_ | refine blk_alloc ?_ _)); exact BK216.out⟩
    have n9_ : Aside0 (((((w35.setCell ⟨gb246, 0, none⟩ (.slice Ao36 t234.length co36)).setCell ⟨gb246, 1, none⟩ (.slice Ao40 t237.length co40)).setCell ⟨gb246, 2, none⟩ (.slice Ao41 t240.length co41)).setCell ⟨gb246, 3, none⟩ (.slice Ao42 t243.length co42)).heap[gb217]? = some (.cells #[.int .i64 a1_0, .int .i64 a1_1] 29 (0, 0))) := ⟨by (with_reducible repeat (first | refine blk_drewN ?_ _ | refine blk_drew ?_ | refine blk_alloc ?_ _)); refine blk_far ?_ NB217_246.out _; (with_reducible repeat (first | refine blk_drewN ?_ _ | refine blk_drew ?_ | refine blk_alloc ?_ _)); refine blk_far ?_ NB217_246.out _; (with_reducible repeat (first | refine blk_drewN ?_ _ | refine blk_drew ?_ | refine blk_alloc ?_ _)); refine blk_far ?_ NB217_246.out _; (with_reducible repeat (first | refine blk_drewN ?_ _ | refine blk_drew ?_ | refine blk_alloc ?_ _)); refine blk_far ?_ NB217_246.out _; (with_reducible repeat (first | refine blk_drewN ?_ _ | refine blk_drew ?_ | refine blk_alloc ?_ _)); exact BK217.out⟩
    have n10_ : Aside0 (((((w35.setCell ⟨gb246, 0, none⟩ (.slice Ao36 t234.length co36)).setCell ⟨gb246, 1, none⟩ (.slice Ao40 t237.length co40)).setCell ⟨gb246, 2, none⟩ (.slice Ao41 t240.length co41)).setCell ⟨gb246, 3, none⟩ (.slice Ao42 t243.length co42)).heap[gb246]? = some (.cells #[.slice Ao36 t234.length co36, .slice Ao40 t237.length co40, .slice Ao41 t240.length co41, .slice Ao42 t243.length co42] 36 (0, 0))) := ⟨by (with_reducible repeat (first | refine blk_drewN ?_ _ | refine blk_drew ?_ | refine blk_alloc ?_ _)); refine blk_put (cs := #[.slice Ao36 t234.length co36, .slice Ao40 t237.length co40, .slice Ao41 t240.length co41, .slice none 0 0]) ?_ 3 _ rfl; (with_reducible repeat (first | refine blk_drewN ?_ _ | refine blk_drew ?_ | refine blk_alloc ?_ _)); refine blk_put (cs := #[.slice Ao36 t234.length co36, .slice Ao40 t237.length co40, .slice none 0 0, .slice none 0 0]) ?_ 2 _ rfl; (with_reducible repeat (first | refine blk_drewN ?_ _ | refine blk_drew ?_ | refine blk_alloc ?_ _)); refine blk_put (cs := #[.slice Ao36 t234.length co36, .slice none 0 0, .slice none 0 0, .slice none 0 0]) ?_ 1 _ rfl; (with_reducible repeat (first | refine blk_drewN ?_ _ | refine blk_drew ?_ | refine blk_alloc ?_ _)); refine blk_put (cs := #[.slice none 0 0, .slice none 0 0, .slice none 0 0, .slice none 0 0]) ?_ 0 _ rfl; (with_reducible repeat (first | refine blk_drewN ?_ _ | refine blk_drew ?_ | refine blk_alloc ?_ _)); exact BK246.out⟩
    have n11_ : Aside0 (Below w.heap.size w ((((w35.setCell ⟨gb246, 0, none⟩ (.slice Ao36 t234.length co36)).setCell ⟨gb246, 1, none⟩ (.slice Ao40 t237.length co40)).setCell ⟨gb246, 2, none⟩ (.slice Ao41 t240.length co41)).setCell ⟨gb246, 3, none⟩ (.slice Ao42 t243.length co42))) := ⟨z7_2⟩
    (try clear HO221)
    (try clear HO224)
    (try clear HO227)
    (try clear HO230)
    (try clear HO236)
    (try clear HO239)
    (try clear HO242)
    (try clear HO245)
    (try clear BK216)
    (try clear BK217)
    (try clear BK246)
    (try clear HB)
    generalize ((((w35.setCell ⟨gb246, 0, none⟩ (.slice Ao36 t234.length co36)).setCell ⟨gb246, 1, none⟩ (.slice Ao40 t237.length co40)).setCell ⟨gb246, 2, none⟩ (.slice Ao41 t240.length co41)).setCell ⟨gb246, 3, none⟩ (.slice Ao42 t243.length co42)) = w43 at n0_ n1_ n2_ n3_ n4_ n5_ n6_ n7_ n8_ n9_ n10_ n11_ ⊢
    have HO221 := n0_
    have HO224 := n1_
    have HO227 := n2_
    have HO230 := n3_
    have HO236 := n4_
    have HO239 := n5_
    have HO242 := n6_
    have HO245 := n7_
    have BK216 := n8_
    have BK217 := n9_
    have BK246 := n10_
    have HB := n11_
    clear n0_ n1_ n2_ n3_ n4_ n5_ n6_ n7_ n8_ n9_ n10_ n11_
    have n0_ := Aside0.mk (Kd.R_drew HO221.out)
    have n1_ := Aside0.mk (Kd.R_drew HO224.out)
    have n2_ := Aside0.mk (Kd.R_drew HO227.out)
    have n3_ := Aside0.mk (Kd.R_drew HO230.out)
    have n4_ := Aside0.mk (Kd.R_drew HO236.out)
    have n5_ := Aside0.mk (Kd.R_drew HO239.out)
    have n6_ := Aside0.mk (Kd.R_drew HO242.out)
    have n7_ := Aside0.mk (Kd.R_drew HO245.out)
    have n8_ := Aside0.mk (blk_drew BK216.out)
    have n9_ := Aside0.mk (blk_drew BK217.out)
    have n10_ := Aside0.mk (blk_drew BK246.out)
    have n11_ := Aside0.mk (below_drew1 HB.out)
    clear HO221
    clear HO224
    clear HO227
    clear HO230
    clear HO236
    clear HO239
    clear HO242
    clear HO245
    clear BK216
    clear BK217
    clear BK246
    clear HB
    have HO221 := n0_
    have HO224 := n1_
    have HO227 := n2_
    have HO230 := n3_
    have HO236 := n4_
    have HO239 := n5_
    have HO242 := n6_
    have HO245 := n7_
    have BK216 := n8_
    have BK217 := n9_
    have BK246 := n10_
    have HB := n11_
    clear n0_ n1_ n2_ n3_ n4_ n5_ n6_ n7_ n8_ n9_ n10_ n11_
    refine start_ (n := 5) (S := fun w' => w'.cell? ⟨gb246, 0, none⟩ = some (.slice Ao36 t234.length co36) ∧ w'.cell? ⟨gb246, 1, none⟩ = some (.slice Ao40 t237.length co40) ∧ w'.cell? ⟨gb246, 2, none⟩ = some (.slice Ao41 t240.length co41) ∧ w'.cell? ⟨gb246, 3, none⟩ = some (.slice Ao42 t243.length co42) ∧ w'.cell? ⟨gb217, 0, none⟩ = some (.int .i64 a1_0) ∧ w'.cell? ⟨gb217, 1, none⟩ = some (.int .i64 a1_1)) (ds := []) #[false, false, false, false, false] z7_17 rfl rfl ⟨(blk_cell BK246.out 0).trans rfl, (blk_cell BK246.out 1).trans rfl, (blk_cell BK246.out 2).trans rfl, (blk_cell BK246.out 3).trans rfl, (blk_cell BK217.out 0).trans rfl, (blk_cell BK217.out 1).trans rfl⟩ (fun hHeld => ?_)
    generalize w43.drew = w44 at HO221 HO224 HO227 HO230 HO236 HO239 HO242 HO245 BK216 BK217 BK246 HB hHeld ⊢
    refine take_ (i := 0) (N := some 21) (v := ?_) (a' := ?_) #[true, false, false, false, false] rfl rfl z7_17 (fun _ _ _ h => h) (Or.inl ⟨by rfl, ?_⟩) hHeld ?_ ?_
    rotate_left
    ·
     rintro w' ⟨s0, s1, s2, s3, s4, s5⟩
     go_simp
     with_reducible rfl
    rotate_left
    ·
     exact z7_8
    refine take_ (i := 1) (N := some 22) (v := ?_) (a' := ?_) #[true, true, false, false, false] rfl rfl z7_17 (fun _ _ _ h => h) (Or.inl ⟨by rfl, ?_⟩) hHeld ?_ ?_
    rotate_left
    ·
     rintro w' ⟨s0, s1, s2, s3, s4, s5⟩
     go_simp
     with_reducible rfl
    rotate_left
    ·
     exact z7_8
    refine one_ (i := 2) (N := some 23) #[true, true, true, false, false] rfl rfl z7_17 (by decide) (fun K hK => ?_)
    refine goes_ Try.func12 z7_17 rfl #[.agg #[.int .i64 a1_0, .int .i64 a1_1]] (by rfl) rfl rfl z7_9 ?_
    with_reducible refine (laws_toDot.calls a1_0 a1_1 t247 t248 _ A14.out).mono ?_
    rintro e w45 ⟨rfl, hb⟩
    refine ⟨_, rfl, ?_⟩
    have n0_ := Aside0.mk (Kd.R_below z7_7 hb)
    have n1_ := Aside0.mk (Kd.R_below z7_6 hb)
    have n2_ := Aside0.mk (Kd.R_below z7_5 hb)
    have n3_ := Aside0.mk (Kd.R_below z7_4 hb)
    have n4_ := Aside0.mk (Kd.R_below z7_15 hb)
    have n5_ := Aside0.mk (Kd.R_below z7_14 hb)
    have n6_ := Aside0.mk (Kd.R_below z7_13 hb)
    have n7_ := Aside0.mk (Kd.R_below z7_12 hb)
    have n8_ := Aside0.mk (blk_below (g := gb216) (o := .cells #[.slice A0_0 l0_0.length c0_0, .slice A0_1 l0_1.length c0_1, .slice A0_2 l0_2.length c0_2, .slice A0_3 l0_3.length c0_3] 27 (0, 0)) z7_1 hb)
    have n9_ := Aside0.mk (blk_below (g := gb217) (o := .cells #[.int .i64 a1_0, .int .i64 a1_1] 29 (0, 0)) z7_3 hb)
    have n10_ := Aside0.mk (blk_below (g := gb246) (o := .cells #[.slice Ao36 t234.length co36, .slice Ao40 t237.length co40, .slice Ao41 t240.length co41, .slice Ao42 t243.length co42] 36 (0, 0)) z7_16 hb)
    have n11_ := Aside0.mk (below_step z7_2 hb)
    clear HO221
    clear HO224
    clear HO227
    clear HO230
    clear HO236
    clear HO239
    clear HO242
    clear HO245
    clear BK216
    clear BK217
    clear BK246
    clear HB
    have HO221 := n0_
    have HO224 := n1_
    have HO227 := n2_
    have HO230 := n3_
    have HO236 := n4_
    have HO239 := n5_
    have HO242 := n6_
    have HO245 := n7_
    have BK216 := n8_
    have BK217 := n9_
    have BK246 := n10_
    have HB := n11_
    clear n0_ n1_ n2_ n3_ n4_ n5_ n6_ n7_ n8_ n9_ n10_ n11_
    (try clear hb)
    (try clear hb2)
    (try clear hk)
    (try clear hi)
    refine hK.out _ _ ⟨(blk_cell BK246.out 0).trans rfl, (blk_cell BK246.out 1).trans rfl, (blk_cell BK246.out 2).trans rfl, (blk_cell BK246.out 3).trans rfl, (blk_cell BK217.out 0).trans rfl, (blk_cell BK217.out 1).trans rfl⟩ (fun hHeld => ?_)
    clear hK K
    refine norm_ (a' := ?_) ?_ ?_
    rotate_left
    ·
     show Act.put _ (some 23) _ = _
     simp only [Act.put, List.setIfInBounds_toArray, List.set_cons_zero, List.set_cons_succ, i64_w, i32_w]
     rfl
    refine one_ (i := 3) (N := some 24) #[true, true, true, true, false] rfl rfl z7_17 (by decide) (fun K hK => ?_)
    refine goes_ Try.func13 z7_17 rfl #[.agg #[.slice Ao36 t234.length co36, .slice Ao40 t237.length co40, .slice Ao41 t240.length co41, .slice Ao42 t243.length co42], .agg #[.int .i64 t247, .int .i64 t248]] (by rfl) rfl rfl z7_9 ?_
    with_reducible refine (impl_CellAt.calls _ _ t234 _ _ t237 _ _ t240 _ _ t243 t247 t248 t249 _ ?side1 ?side2 ?side3 ?side4 ?side5 ?side6 ?side7 ?side8 A15.out).mono ?_
    (case side1 => repeat (first | exact (Kd.R_reads' HO236.out).2.2 | (with_reducible refine Kd.C_alloc ?_ _) | (with_reducible refine Kd.C_drewN ?_ _) | (with_reducible refine Kd.C_drew ?_)))
    (case side2 => exact (Kd.R_reads' HO236.out).2.1)
    (case side3 => repeat (first | exact (Kd.R_reads' HO239.out).2.2 | (with_reducible refine Kd.C_alloc ?_ _) | (with_reducible refine Kd.C_drewN ?_ _) | (with_reducible refine Kd.C_drew ?_)))
    (case side4 => exact (Kd.R_reads' HO239.out).2.1)
    (case side5 => repeat (first | exact (Kd.R_reads' HO242.out).2.2 | (with_reducible refine Kd.C_alloc ?_ _) | (with_reducible refine Kd.C_drewN ?_ _) | (with_reducible refine Kd.C_drew ?_)))
    (case side6 => exact (Kd.R_reads' HO242.out).2.1)
    (case side7 => repeat (first | exact (Kd.R_reads' HO245.out).2.2 | (with_reducible refine Kd.C_alloc ?_ _) | (with_reducible refine Kd.C_drewN ?_ _) | (with_reducible refine Kd.C_drew ?_)))
    (case side8 => exact (Kd.R_reads' HO245.out).2.1)
    rintro e w46 ⟨rfl, hb⟩
    refine ⟨_, rfl, ?_⟩
    have n0_ := Aside0.mk (Kd.R_below z7_7 hb)
    have n1_ := Aside0.mk (Kd.R_below z7_6 hb)
    have n2_ := Aside0.mk (Kd.R_below z7_5 hb)
    have n3_ := Aside0.mk (Kd.R_below z7_4 hb)
    have n4_ := Aside0.mk (Kd.R_below z7_15 hb)
    have n5_ := Aside0.mk (Kd.R_below z7_14 hb)
    have n6_ := Aside0.mk (Kd.R_below z7_13 hb)
    have n7_ := Aside0.mk (Kd.R_below z7_12 hb)
    have n8_ := Aside0.mk (blk_below (g := gb216) (o := .cells #[.slice A0_0 l0_0.length c0_0, .slice A0_1 l0_1.length c0_1, .slice A0_2 l0_2.length c0_2, .slice A0_3 l0_3.length c0_3] 27 (0, 0)) z7_1 hb)
    have n9_ := Aside0.mk (blk_below (g := gb217) (o := .cells #[.int .i64 a1_0, .int .i64 a1_1] 29 (0, 0)) z7_3 hb)
    have n10_ := Aside0.mk (blk_below (g := gb246) (o := .cells #[.slice Ao36 t234.length co36, .slice Ao40 t237.length co40, .slice Ao41 t240.length co41, .slice Ao42 t243.length co42] 36 (0, 0)) z7_16 hb)
    have n11_ := Aside0.mk (below_step z7_2 hb)
    clear HO221
    clear HO224
    clear HO227
    clear HO230
    clear HO236
    clear HO239
    clear HO242
    clear HO245
    clear BK216
    clear BK217
    clear BK246
    clear HB
    have HO221 := n0_
    have HO224 := n1_
    have HO227 := n2_
    have HO230 := n3_
    have HO236 := n4_
    have HO239 := n5_
    have HO242 := n6_
    have HO245 := n7_
    have BK216 := n8_
    have BK217 := n9_
    have BK246 := n10_
    have HB := n11_
    clear n0_ n1_ n2_ n3_ n4_ n5_ n6_ n7_ n8_ n9_ n10_ n11_
    (try clear hb)
    (try clear hb2)
    (try clear hk)
    (try clear hi)
    refine hK.out _ _ ⟨(blk_cell BK246.out 0).trans rfl, (blk_cell BK246.out 1).trans rfl, (blk_cell BK246.out 2).trans rfl, (blk_cell BK246.out 3).trans rfl, (blk_cell BK217.out 0).trans rfl, (blk_cell BK217.out 1).trans rfl⟩ (fun hHeld => ?_)
    clear hK K
    refine norm_ (a' := ?_) ?_ ?_
    rotate_left
    ·
     show Act.put _ (some 24) _ = _
     simp only [Act.put, List.setIfInBounds_toArray, List.set_cons_zero, List.set_cons_succ, i64_w, i32_w]
     rfl
    refine pure_ (i := 4) (N := some 8) (v := ?_) (a' := ?_) #[true, true, true, true, true] rfl rfl z7_17 (fun _ _ _ h => h) (Or.inl ⟨by rfl, ?_⟩) ?_ ?_
    rotate_left
    ·
     exact (by intro w'; go_simp; with_reducible rfl)
    rotate_left
    ·
     exact z7_8
    refine done_ z7_17 ?_
    try go_wp2
    have n0_ := Aside0.mk (Kd.R_drew HO221.out)
    have n1_ := Aside0.mk (Kd.R_drew HO224.out)
    have n2_ := Aside0.mk (Kd.R_drew HO227.out)
    have n3_ := Aside0.mk (Kd.R_drew HO230.out)
    have n4_ := Aside0.mk (Kd.R_drew HO236.out)
    have n5_ := Aside0.mk (Kd.R_drew HO239.out)
    have n6_ := Aside0.mk (Kd.R_drew HO242.out)
    have n7_ := Aside0.mk (Kd.R_drew HO245.out)
    have n8_ := Aside0.mk (blk_drew BK216.out)
    have n9_ := Aside0.mk (blk_drew BK217.out)
    have n10_ := Aside0.mk (blk_drew BK246.out)
    have n11_ := Aside0.mk (below_drew1 HB.out)
    clear HO221
    clear HO224
    clear HO227
    clear HO230
    clear HO236
    clear HO239
    clear HO242
    clear HO245
    clear BK216
    clear BK217
    clear BK246
    clear HB
    have HO221 := n0_
    have HO224 := n1_
    have HO227 := n2_
    have HO230 := n3_
    have HO236 := n4_
    have HO239 := n5_
    have HO242 := n6_
    have HO245 := n7_
    have BK216 := n8_
    have BK217 := n9_
    have BK246 := n10_
    have HB := n11_
    clear n0_ n1_ n2_ n3_ n4_ n5_ n6_ n7_ n8_ n9_ n10_ n11_
    refine start_ (n := 5) (S := fun w' => w'.cell? ⟨gb246, 0, none⟩ = some (.slice Ao36 t234.length co36) ∧ w'.cell? ⟨gb246, 1, none⟩ = some (.slice Ao40 t237.length co40) ∧ w'.cell? ⟨gb246, 2, none⟩ = some (.slice Ao41 t240.length co41) ∧ w'.cell? ⟨gb246, 3, none⟩ = some (.slice Ao42 t243.length co42) ∧ w'.cell? ⟨gb216, 0, none⟩ = some (.slice A0_0 l0_0.length c0_0) ∧ w'.cell? ⟨gb216, 1, none⟩ = some (.slice A0_1 l0_1.length c0_1) ∧ w'.cell? ⟨gb216, 2, none⟩ = some (.slice A0_2 l0_2.length c0_2) ∧ w'.cell? ⟨gb216, 3, none⟩ = some (.slice A0_3 l0_3.length c0_3)) (ds := []) #[false, false, false, false, false] z7_17 rfl rfl ⟨(blk_cell BK246.out 0).trans rfl, (blk_cell BK246.out 1).trans rfl, (blk_cell BK246.out 2).trans rfl, (blk_cell BK246.out 3).trans rfl, (blk_cell BK216.out 0).trans rfl, (blk_cell BK216.out 1).trans rfl, (blk_cell BK216.out 2).trans rfl, (blk_cell BK216.out 3).trans rfl⟩ (fun hHeld => ?_)
    generalize w46.drew = w47 at HO221 HO224 HO227 HO230 HO236 HO239 HO242 HO245 BK216 BK217 BK246 HB hHeld ⊢
    refine take_ (i := 0) (N := some 28) (v := ?_) (a' := ?_) #[true, false, false, false, false] rfl rfl z7_17 (fun _ _ _ h => h) (Or.inl ⟨by rfl, ?_⟩) hHeld ?_ ?_
    rotate_left
    ·
     rintro w' ⟨s0, s1, s2, s3, s4, s5, s6, s7⟩
     go_simp
     with_reducible rfl
    rotate_left
    ·
     exact z7_8
    refine take_ (i := 1) (N := some 29) (v := ?_) (a' := ?_) #[true, true, false, false, false] rfl rfl z7_17 (fun _ _ _ h => h) (Or.inl ⟨by rfl, ?_⟩) hHeld ?_ ?_
    rotate_left
    ·
     rintro w' ⟨s0, s1, s2, s3, s4, s5, s6, s7⟩
     go_simp
     with_reducible rfl
    rotate_left
    ·
     exact z7_8
    refine one_ (i := 2) (N := some 30) #[true, true, true, false, false] rfl rfl z7_17 (by decide) (fun K hK => ?_)
    refine goes_ Try.func11 z7_17 rfl #[.agg #[.slice A0_0 l0_0.length c0_0, .slice A0_1 l0_1.length c0_1, .slice A0_2 l0_2.length c0_2, .slice A0_3 l0_3.length c0_3]] (by rfl) rfl rfl z7_9 ?_
    with_reducible refine (laws_toState.calls k _ _ l0_0 _ _ l0_1 _ _ l0_2 _ _ l0_3 t250 t253 t256 t259 _ ?side1 ?side2 ?side3 ?side4 ?side5 ?side6 ?side7 ?side8 A17.out).mono ?_
    (case side1 => repeat (first | exact (Kd.C_below HR0_0.out HB.out) | (with_reducible refine Kd.C_alloc ?_ _) | (with_reducible refine Kd.C_drewN ?_ _) | (with_reducible refine Kd.C_drew ?_)))
    (case side2 => exact HC0_0.out)
    (case side3 => repeat (first | exact (Kd.C_below HR0_1.out HB.out) | (with_reducible refine Kd.C_alloc ?_ _) | (with_reducible refine Kd.C_drewN ?_ _) | (with_reducible refine Kd.C_drew ?_)))
    (case side4 => exact HC0_1.out)
    (case side5 => repeat (first | exact (Kd.C_below HR0_2.out HB.out) | (with_reducible refine Kd.C_alloc ?_ _) | (with_reducible refine Kd.C_drewN ?_ _) | (with_reducible refine Kd.C_drew ?_)))
    (case side6 => exact HC0_2.out)
    (case side7 => repeat (first | exact (Kd.C_below HR0_3.out HB.out) | (with_reducible refine Kd.C_alloc ?_ _) | (with_reducible refine Kd.C_drewN ?_ _) | (with_reducible refine Kd.C_drew ?_)))
    (case side8 => exact HC0_3.out)
    rintro e w48 ⟨v251, v254, v257, v260, rfl, ho0, ho1, ho2, ho3, hb⟩
    refine ⟨_, rfl, ?_⟩
    have n0_ := Aside0.mk (Kd.R_elder' z7_7 (Kd.R_base ho0) hb)
    have n1_ := Aside0.mk (Kd.R_elder' z7_6 (Kd.R_base ho1) hb)
    have n2_ := Aside0.mk (Kd.R_elder' z7_5 (Kd.R_base ho2) hb)
    have n3_ := Aside0.mk (Kd.R_elder' z7_4 (Kd.R_base ho3) hb)
    have n4_ := Aside0.mk (Kd.R_elder' z7_15 (Kd.R_base ho0) hb)
    have n5_ := Aside0.mk (Kd.R_elder' z7_14 (Kd.R_base ho1) hb)
    have n6_ := Aside0.mk (Kd.R_elder' z7_13 (Kd.R_base ho2) hb)
    have n7_ := Aside0.mk (Kd.R_elder' z7_12 (Kd.R_base ho3) hb)
    have n8_ := Aside0.mk (Kd.R_lower (Kd.R_new' (Kd.R_new' ho0 (Kd.R_lt z7_7)) (Kd.R_lt z7_15)) (below_size z7_2))
    have n9_ := Aside0.mk (Kd.R_lower (Kd.R_new' (Kd.R_new' ho1 (Kd.R_lt z7_6)) (Kd.R_lt z7_14)) (below_size z7_2))
    have n10_ := Aside0.mk (Kd.R_lower (Kd.R_new' (Kd.R_new' ho2 (Kd.R_lt z7_5)) (Kd.R_lt z7_13)) (below_size z7_2))
    have n11_ := Aside0.mk (Kd.R_lower (Kd.R_new' (Kd.R_new' ho3 (Kd.R_lt z7_4)) (Kd.R_lt z7_12)) (below_size z7_2))
    have n12_ := Aside0.mk (blk_below (g := gb216) (o := .cells #[.slice A0_0 l0_0.length c0_0, .slice A0_1 l0_1.length c0_1, .slice A0_2 l0_2.length c0_2, .slice A0_3 l0_3.length c0_3] 27 (0, 0)) z7_1 hb)
    have n13_ := Aside0.mk (blk_below (g := gb217) (o := .cells #[.int .i64 a1_0, .int .i64 a1_1] 29 (0, 0)) z7_3 hb)
    have n14_ := Aside0.mk (blk_below (g := gb246) (o := .cells #[.slice Ao36 t234.length co36, .slice Ao40 t237.length co40, .slice Ao41 t240.length co41, .slice Ao42 t243.length co42] 36 (0, 0)) z7_16 hb)
    have n15_ := Aside0.mk (below_step z7_2 hb)
    clear HO221
    clear HO224
    clear HO227
    clear HO230
    clear HO236
    clear HO239
    clear HO242
    clear HO245
    clear BK216
    clear BK217
    clear BK246
    clear HB
    have HO221 := n0_
    have HO224 := n1_
    have HO227 := n2_
    have HO230 := n3_
    have HO236 := n4_
    have HO239 := n5_
    have HO242 := n6_
    have HO245 := n7_
    have HO252 := n8_
    have HO255 := n9_
    have HO258 := n10_
    have HO261 := n11_
    have BK216 := n12_
    have BK217 := n13_
    have BK246 := n14_
    have HB := n15_
    clear n0_ n1_ n2_ n3_ n4_ n5_ n6_ n7_ n8_ n9_ n10_ n11_ n12_ n13_ n14_ n15_
    (try clear hb)
    (try clear hb2)
    (try clear hk)
    (try clear hi)
    (try clear ho0)
    (try clear ho1)
    (try clear ho2)
    (try clear ho3)
    obtain ⟨Ao49, co49, eo49⟩ := Kd.R_slice HO252.out
    (first | subst eo49 | (injection eo49 with f1_ f2_ f3_; have f4_ := f1_.symm; have f5_ := f3_.symm; clear f1_ f2_ f3_; subst f4_; subst f5_))
    obtain ⟨Ao50, co50, eo50⟩ := Kd.R_slice HO255.out
    (first | subst eo50 | (injection eo50 with f1_ f2_ f3_; have f4_ := f1_.symm; have f5_ := f3_.symm; clear f1_ f2_ f3_; subst f4_; subst f5_))
    obtain ⟨Ao51, co51, eo51⟩ := Kd.R_slice HO258.out
    (first | subst eo51 | (injection eo51 with f1_ f2_ f3_; have f4_ := f1_.symm; have f5_ := f3_.symm; clear f1_ f2_ f3_; subst f4_; subst f5_))
    obtain ⟨Ao52, co52, eo52⟩ := Kd.R_slice HO261.out
    (first | subst eo52 | (injection eo52 with f1_ f2_ f3_; have f4_ := f1_.symm; have f5_ := f3_.symm; clear f1_ f2_ f3_; subst f4_; subst f5_))
    refine hK.out _ _ ⟨(blk_cell BK246.out 0).trans rfl, (blk_cell BK246.out 1).trans rfl, (blk_cell BK246.out 2).trans rfl, (blk_cell BK246.out 3).trans rfl, (blk_cell BK216.out 0).trans rfl, (blk_cell BK216.out 1).trans rfl, (blk_cell BK216.out 2).trans rfl, (blk_cell BK216.out 3).trans rfl⟩ (fun hHeld => ?_)
    clear hK K
    refine norm_ (a' := ?_) ?_ ?_
    rotate_left
    ·
     show Act.put _ (some 30) _ = _
     simp only [Act.put, List.setIfInBounds_toArray, List.set_cons_zero, List.set_cons_succ, i64_w, i32_w]
     rfl
    refine one_ (i := 3) (N := some 31) #[true, true, true, true, false] rfl rfl z7_17 (by decide) (fun K hK => ?_)
    refine goes_ Try.func14 z7_17 rfl #[.agg #[.slice Ao36 t234.length co36, .slice Ao40 t237.length co40, .slice Ao41 t240.length co41, .slice Ao42 t243.length co42], .agg #[.slice Ao49 t250.length co49, .slice Ao50 t253.length co50, .slice Ao51 t256.length co51, .slice Ao52 t259.length co52]] (by rfl) rfl rfl z7_9 ?_
    with_reducible refine (laws_eqState.calls k _ _ t234 _ _ t237 _ _ t240 _ _ t243 _ _ t250 _ _ t253 _ _ t256 _ _ t259 true _ ?side1 ?side2 ?side3 ?side4 ?side5 ?side6 ?side7 ?side8 ?side9 ?side10 ?side11 ?side12 ?side13 ?side14 ?side15 ?side16 A18.out).mono ?_
    (case side1 => repeat (first | exact (Kd.R_reads' HO236.out).2.2 | (with_reducible refine Kd.C_alloc ?_ _) | (with_reducible refine Kd.C_drewN ?_ _) | (with_reducible refine Kd.C_drew ?_)))
    (case side2 => exact (Kd.R_reads' HO236.out).2.1)
    (case side3 => repeat (first | exact (Kd.R_reads' HO239.out).2.2 | (with_reducible refine Kd.C_alloc ?_ _) | (with_reducible refine Kd.C_drewN ?_ _) | (with_reducible refine Kd.C_drew ?_)))
    (case side4 => exact (Kd.R_reads' HO239.out).2.1)
    (case side5 => repeat (first | exact (Kd.R_reads' HO242.out).2.2 | (with_reducible refine Kd.C_alloc ?_ _) | (with_reducible refine Kd.C_drewN ?_ _) | (with_reducible refine Kd.C_drew ?_)))
    (case side6 => exact (Kd.R_reads' HO242.out).2.1)
    (case side7 => repeat (first | exact (Kd.R_reads' HO245.out).2.2 | (with_reducible refine Kd.C_alloc ?_ _) | (with_reducible refine Kd.C_drewN ?_ _) | (with_reducible refine Kd.C_drew ?_)))
    (case side8 => exact (Kd.R_reads' HO245.out).2.1)
    (case side9 => repeat (first | exact (Kd.R_reads' HO252.out).2.2 | (with_reducible refine Kd.C_alloc ?_ _) | (with_reducible refine Kd.C_drewN ?_ _) | (with_reducible refine Kd.C_drew ?_)))
    (case side10 => exact (Kd.R_reads' HO252.out).2.1)
    (case side11 => repeat (first | exact (Kd.R_reads' HO255.out).2.2 | (with_reducible refine Kd.C_alloc ?_ _) | (with_reducible refine Kd.C_drewN ?_ _) | (with_reducible refine Kd.C_drew ?_)))
    (case side12 => exact (Kd.R_reads' HO255.out).2.1)
    (case side13 => repeat (first | exact (Kd.R_reads' HO258.out).2.2 | (with_reducible refine Kd.C_alloc ?_ _) | (with_reducible refine Kd.C_drewN ?_ _) | (with_reducible refine Kd.C_drew ?_)))
    (case side14 => exact (Kd.R_reads' HO258.out).2.1)
    (case side15 => repeat (first | exact (Kd.R_reads' HO261.out).2.2 | (with_reducible refine Kd.C_alloc ?_ _) | (with_reducible refine Kd.C_drewN ?_ _) | (with_reducible refine Kd.C_drew ?_)))
    (case side16 => exact (Kd.R_reads' HO261.out).2.1)
    rintro e w53 ⟨rfl, hb⟩
    refine ⟨_, rfl, ?_⟩
    have n0_ := Aside0.mk (Kd.R_below z7_7 hb)
    have n1_ := Aside0.mk (Kd.R_below z7_6 hb)
    have n2_ := Aside0.mk (Kd.R_below z7_5 hb)
    have n3_ := Aside0.mk (Kd.R_below z7_4 hb)
    have n4_ := Aside0.mk (Kd.R_below z7_15 hb)
    have n5_ := Aside0.mk (Kd.R_below z7_14 hb)
    have n6_ := Aside0.mk (Kd.R_below z7_13 hb)
    have n7_ := Aside0.mk (Kd.R_below z7_12 hb)
    have n8_ := Aside0.mk (Kd.R_below (by (with_reducible repeat (first | apply Kd.R_alloc | apply Kd.R_drewN | apply Kd.R_drew)); exact HO252.out) hb)
    have n9_ := Aside0.mk (Kd.R_below (by (with_reducible repeat (first | apply Kd.R_alloc | apply Kd.R_drewN | apply Kd.R_drew)); exact HO255.out) hb)
    have n10_ := Aside0.mk (Kd.R_below (by (with_reducible repeat (first | apply Kd.R_alloc | apply Kd.R_drewN | apply Kd.R_drew)); exact HO258.out) hb)
    have n11_ := Aside0.mk (Kd.R_below (by (with_reducible repeat (first | apply Kd.R_alloc | apply Kd.R_drewN | apply Kd.R_drew)); exact HO261.out) hb)
    have n12_ := Aside0.mk (blk_below (g := gb216) (o := .cells #[.slice A0_0 l0_0.length c0_0, .slice A0_1 l0_1.length c0_1, .slice A0_2 l0_2.length c0_2, .slice A0_3 l0_3.length c0_3] 27 (0, 0)) z7_1 hb)
    have n13_ := Aside0.mk (blk_below (g := gb217) (o := .cells #[.int .i64 a1_0, .int .i64 a1_1] 29 (0, 0)) z7_3 hb)
    have n14_ := Aside0.mk (blk_below (g := gb246) (o := .cells #[.slice Ao36 t234.length co36, .slice Ao40 t237.length co40, .slice Ao41 t240.length co41, .slice Ao42 t243.length co42] 36 (0, 0)) z7_16 hb)
    have n15_ := Aside0.mk (below_step z7_2 hb)
    clear HO221
    clear HO224
    clear HO227
    clear HO230
    clear HO236
    clear HO239
    clear HO242
    clear HO245
    clear HO252
    clear HO255
    clear HO258
    clear HO261
    clear BK216
    clear BK217
    clear BK246
    clear HB
    have HO221 := n0_
    have HO224 := n1_
    have HO227 := n2_
    have HO230 := n3_
    have HO236 := n4_
    have HO239 := n5_
    have HO242 := n6_
    have HO245 := n7_
    have HO252 := n8_
    have HO255 := n9_
    have HO258 := n10_
    have HO261 := n11_
    have BK216 := n12_
    have BK217 := n13_
    have BK246 := n14_
    have HB := n15_
    clear n0_ n1_ n2_ n3_ n4_ n5_ n6_ n7_ n8_ n9_ n10_ n11_ n12_ n13_ n14_ n15_
    (try clear hb)
    (try clear hb2)
    (try clear hk)
    (try clear hi)
    refine hK.out _ _ ⟨(blk_cell BK246.out 0).trans rfl, (blk_cell BK246.out 1).trans rfl, (blk_cell BK246.out 2).trans rfl, (blk_cell BK246.out 3).trans rfl, (blk_cell BK216.out 0).trans rfl, (blk_cell BK216.out 1).trans rfl, (blk_cell BK216.out 2).trans rfl, (blk_cell BK216.out 3).trans rfl⟩ (fun hHeld => ?_)
    clear hK K
    refine norm_ (a' := ?_) ?_ ?_
    rotate_left
    ·
     show Act.put _ (some 31) _ = _
     simp only [Act.put, List.setIfInBounds_toArray, List.set_cons_zero, List.set_cons_succ, i64_w, i32_w]
     rfl
    refine pure_ (i := 4) (N := some 32) (v := ?_) (a' := ?_) #[true, true, true, true, true] rfl rfl z7_17 (fun _ _ _ h => h) (Or.inl ⟨by rfl, ?_⟩) ?_ ?_
    rotate_left
    ·
     exact (by intro w'; go_simp; with_reducible rfl)
    rotate_left
    ·
     exact z7_8
    refine done_ z7_17 ?_
    try go_wp2
    go_ret
    exact ⟨by first | rfl | (simp [errW_none, errW_some] <;> rfl) | (simp [*, errW_none, errW_some] <;> rfl), z7_2⟩
   ·
    replace c19 := Bool.eq_false_iff.mpr c19
    subst c19
    rw [if_neg (show ¬ (false = true) by decide)] at H
    exact absurd H (by simp)
  ·
   rw [if_neg c16] at H
   have c16b0 : (t249 == t233) = false := beq_eq_false_iff_ne.mpr c16
   have c16b1 : (t249 != t233) = true := bne_iff_ne.mpr c16
   exact absurd H (by simp)

end Go.Proofs.Ytbanogkoaplcdaa.QCell
