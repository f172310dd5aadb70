/- Parts of the proof of FnExactSettled, one behind the other. No condition. -/
import Derived.Test.YtbanogkoaplcdaaVFnExactSettledM3
import Derived.Test.YtbanogkoaplcdaaVFnExactSettledM7
import Derived.Test.YtbanogkoaplcdaaVFnExactSettledM8
import Derived.Test.YtbanogkoaplcdaaVFnExactSettledM9
namespace Go.Proofs.Ytbanogkoaplcdaa.QSe
open Go.RowKit Go.Proofs.Ytbanogkoaplcdaa.Short Go.Proofs.YtbanogkoaplcdaaW.PrintWords Go.Proofs.YtbanogkoaplcdaaW.PrintLast Go.Proofs.YtbanogkoaplcdaaW.PrintMore
attribute [local go_sem] max2_int min2_int max_two min_two max_three min_three max_four min_four   -- for this text's walks alone
set_option linter.unusedVariables false
set_option linter.unusedSimpArgs false
attribute [local go_sem high] eqA38
theorem z9_13 {P : Prop} (h : P := by (with_reducible repeat (first | refine blk_drewN ?_ _ | refine blk_drew ?_ | refine blk_alloc ?_ _)); exact BK195.out) : P := h
theorem z9_12 {P : Prop} (h : P := by kernel_rfl) : P := h
theorem z9_11 {P : Prop} (h : P := by repeat (first | (with_reducible first | exact HB.out | apply below_alloc | apply pw_below_drewN | apply below_drew1 | refine below_set ?_ GE190.out) | exact HB.out)) : P := h
theorem z9_10 {P : Prop} (h : P := by repeat (first | (with_reducible first | exact HB.out | apply below_alloc | apply pw_below_drewN | apply below_drew1 | refine below_set ?_ GE194.out | refine below_set ?_ GE195.out) | exact HB.out)) : P := h
theorem z9_9 {P : Prop} (h : P := by repeat (first | exact Drawn0.refl _ | apply Drawn0.step)) : P := h
theorem z9_8 {P : Prop} (h : P := by first | rfl | (simp; done) | (simp [*]; done)) : P := h
theorem z9_7 {P : Prop} (h : P := by (with_reducible repeat (first | refine blk_drewN ?_ _ | refine blk_drew ?_ | refine blk_alloc ?_ _)); exact BK185.out) : P := h
theorem z9_6 {P : Prop} (h : P := by first | (with_reducible assumption) | assumption) : P := h
theorem z9_5 {P : Prop} (h : P := by (with_reducible repeat (first | refine blk_drewN ?_ _ | refine blk_drew ?_ | refine blk_alloc ?_ _)); exact BK194.out) : P := h
theorem z9_4 {P : Prop} (h : P := by first | rfl | (simp [errW_none, errW_some] <;> rfl) | (simp [*, errW_none, errW_some] <;> rfl)) : P := h
theorem z9_3 {P : Prop} (h : P := by repeat (first | (with_reducible first | exact HB.out | apply below_alloc | apply pw_below_drewN | apply below_drew1 | refine below_set ?_ GE194.out) | exact HB.out)) : P := h
theorem z9_2 {P : Prop} (h : P := by first | rfl | (simp only [List.map_toArray, List.map_cons, List.map_nil]; first | done | rfl)) : P := h
theorem z9_1 {P : Prop} (h : P := by repeat (first | (with_reducible first | exact HB.out | apply below_alloc | apply pw_below_drewN | apply below_drew1 | refine below_set ?_ GE185.out) | exact HB.out)) : P := h
theorem z9_0 {P : Prop} (h : P := by repeat (first | (with_reducible first | exact HB.out | apply below_alloc | apply pw_below_drewN | apply below_drew1) | exact HB.out)) : P := h
theorem z9_14 {P : Prop} (h : P := by repeat (first | exact (Kd.C_below HR0_0.out HB.out) | (with_reducible refine Kd.C_alloc ?_ _) | (with_reducible refine Kd.C_drewN ?_ _) | (with_reducible refine Kd.C_drew ?_))) : P := h
theorem z9_15 {P : Prop} (h : P := by repeat (first | exact (Kd.C_below HR0_1.out z9_1) | (with_reducible refine Kd.C_alloc ?_ _) | (with_reducible refine Kd.C_drewN ?_ _) | (with_reducible refine Kd.C_drew ?_))) : P := h
theorem z9_16 {P : Prop} (h : P := by repeat (first | exact (Kd.C_below HR0_2.out HB.out) | (with_reducible refine Kd.C_alloc ?_ _) | (with_reducible refine Kd.C_drewN ?_ _) | (with_reducible refine Kd.C_drew ?_))) : P := h
theorem z9_17 {P : Prop} (h : P := by repeat (first | exact (Kd.C_below HR0_3.out HB.out) | (with_reducible refine Kd.C_alloc ?_ _) | (with_reducible refine Kd.C_drewN ?_ _) | (with_reducible refine Kd.C_drew ?_))) : P := h
theorem z9_18 {P : Prop} (h : P := by repeat (first | exact (Kd.C_below HR192_3.out HB.out) | (with_reducible refine Kd.C_alloc ?_ _) | (with_reducible refine Kd.C_drewN ?_ _) | (with_reducible refine Kd.C_drew ?_))) : P := h
def laws_heldState.f (k : Nat) (l0_0 : List Int) (l0_1 : List (S84)) (l0_2 : List (S86)) (l0_3 : List (S73)) (a1 : Int) : Option (Int) := (laws_heldIntS.f k l0_0 a1).bind fun t186 => (if t186 < 0 then (some (-1)) else ((laws_heldTallyS.f k l0_1 t186).bind fun t187 => (if t187 < 0 then (some (-1)) else ((laws_heldLiveS.f k l0_2 t187).bind fun t188 => (if t188 < 0 then (some (-1)) else ((laws_heldCellS.f k l0_3 t188).bind fun t189 => (if t189 < 0 then (some (-1)) else (some t189))))))))
set_option maxHeartbeats 8000000 in
set_option maxRecDepth 100000 in
theorem laws_heldState.calls (k : Nat) (A0_0 : Option Addr) (c0_0 : Nat) (l0_0 : List Int) (A0_1 : Option Addr) (c0_1 : Nat) (l0_1 : List (S84)) (A0_2 : Option Addr) (c0_2 : Nat) (l0_2 : List (S86)) (A0_3 : Option Addr) (c0_3 : Nat) (l0_3 : List (S73)) (a1 : Int) (r : Int) (w : World) (hr0_0 : Kd.C (Kd.int .i64) w A0_0 l0_0.length l0_0) (hc0_0 : l0_0.length ≤ c0_0) (hr0_1 : Kd.C k84 w A0_1 l0_1.length l0_1) (hc0_1 : l0_1.length ≤ c0_1) (hr0_2 : Kd.C k86 w A0_2 l0_2.length l0_2) (hc0_2 : l0_2.length ≤ c0_2) (hr0_3 : Kd.C k73 w A0_3 l0_3.length l0_3) (hc0_3 : l0_3.length ≤ c0_3) (h : laws_heldState.f k l0_0 l0_1 l0_2 l0_3 a1 = some r) :
  Calls Try.prog 26 #[.agg #[.slice A0_0 l0_0.length c0_0, .slice A0_1 l0_1.length c0_1, .slice A0_2 l0_2.length c0_2, .slice A0_3 l0_3.length c0_3], .int .i64 a1] w fun e w' => e = .returned (.int .i64 r) ∧ Below w.heap.size w w' := by
 have hu36 := Try.underlying36
 have HR0_0 := Aside0.mk hr0_0
 have HC0_0 := Aside0.mk hc0_0
 clear hr0_0 hc0_0
 have HR0_1 := Aside0.mk hr0_1
 have HC0_1 := Aside0.mk hc0_1
 clear hr0_1 hc0_1
 have HR0_2 := Aside0.mk hr0_2
 have HC0_2 := Aside0.mk hc0_2
 clear hr0_2 hc0_2
 have HR0_3 := Aside0.mk hr0_3
 have HC0_3 := Aside0.mk hc0_3
 clear hr0_3 hc0_3
 have HB := Aside0.mk (Below.refl w.heap.size w)
 have H := h
 unfold laws_heldState.f at H
 clear h
 replace H := Option.bind_eq_some_iff.mp H
 obtain ⟨t186, A30, H⟩ := H
 (try dsimp only at H)
 have A3 := Aside0.mk A30
 clear A30
 by_cases c4 : t186 < 0
 ·
  rw [if_pos c4] at H
  have c4b0 : decide (t186 < 0) = true := decide_eq_true c4
  clear c4
  obtain rfl := Option.some.inj H
  go_enter Try.func26, Try.ntmps26
  go_wp2_with (first | ((with_reducible refine gate_dst (N := 2) rfl ?_); refine box_event ?hg (N := 2) ?hd (cs := #[.slice A0_0 l0_0.length c0_0, .slice A0_1 l0_1.length c0_1, .slice A0_2 l0_2.length c0_2, .slice A0_3 l0_3.length c0_3]) (t := 36) ?hr ?_; (case hd => rfl); (case hg => rfl); (case hr => first | (go_simp; done) | (go_simp; rfl)); intro gb185 hg w5 hbox hb; have BK185 := Aside0.mk (hbox); have GW185 := gw_ w z9_0 hg; have GE185 := gw_ w z9_0 hg; replace HB := Aside0.mk (below_step z9_0 hb); clear hb hbox hg; have hcz6 := bc4 BK185.out) | ((with_reducible refine gate_callee (f := 37) rfl ?_); refine goesL_ (some 8) rfl rfl Try.func37 z9_12 rfl #[.slice A0_0 l0_0.length c0_0, .int .i64 a1] rfl z9_2 ?_; (with_reducible refine (laws_heldIntS.calls k _ _ l0_0 a1 t186 _ ?side1 ?side2 A3.out).mono ?_); (case side1 => exact z9_14); (case side2 => exact HC0_0.out); rintro e w' ⟨rfl, ⟨nd, rfl⟩⟩; refine ⟨_, rfl, ?_⟩))
  go_ret
  exact ⟨z9_4, z9_1⟩
 rw [if_neg c4] at H
 have c4b0 : decide (t186 < 0) = false := decide_eq_false c4
 clear c4
 replace H := Option.bind_eq_some_iff.mp H
 obtain ⟨t187, A70, H⟩ := H
 (try dsimp only at H)
 have A7 := Aside0.mk A70
 clear A70
 by_cases c8 : t187 < 0
 ·
  rw [if_pos c8] at H
  have c8b0 : decide (t187 < 0) = true := decide_eq_true c8
  clear c8
  obtain rfl := Option.some.inj H
  go_enter Try.func26, Try.ntmps26
  go_wp2_with (first | ((with_reducible refine gate_dst (N := 2) rfl ?_); refine box_event ?hg (N := 2) ?hd (cs := #[.slice A0_0 l0_0.length c0_0, .slice A0_1 l0_1.length c0_1, .slice A0_2 l0_2.length c0_2, .slice A0_3 l0_3.length c0_3]) (t := 36) ?hr ?_; (case hd => rfl); (case hg => rfl); (case hr => first | (go_simp; done) | (go_simp; rfl)); intro gb185 hg w9 hbox hb; have BK185 := Aside0.mk (hbox); have GW185 := gw_ w z9_0 hg; have GE185 := gw_ w z9_0 hg; replace HB := Aside0.mk (below_step z9_0 hb); clear hb hbox hg; have hcz10 := bc4 BK185.out) | ((with_reducible refine gate_callee (f := 37) rfl ?_); refine goesL_ (some 8) rfl rfl Try.func37 z9_12 rfl #[.slice A0_0 l0_0.length c0_0, .int .i64 a1] rfl z9_2 ?_; (with_reducible refine (laws_heldIntS.calls k _ _ l0_0 a1 t186 _ ?side1 ?side2 A3.out).mono ?_); (case side1 => exact z9_14); (case side2 => exact HC0_0.out); rintro e w' ⟨rfl, ⟨nd, rfl⟩⟩; refine ⟨_, rfl, ?_⟩) | ((with_reducible refine gate_callee (f := 84) rfl ?_); refine goesL_ (some 14) rfl rfl Try.func84 z9_12 rfl #[.slice A0_1 l0_1.length c0_1, .int .i64 t186] rfl z9_2 ?_; (with_reducible refine (laws_heldTallyS.calls k _ _ l0_1 t186 t187 _ ?side1 ?side2 A7.out).mono ?_); (case side1 => exact z9_15); (case side2 => exact HC0_1.out); rintro e w11 ⟨rfl, hb⟩; refine ⟨_, rfl, ?_⟩; replace BK185 := bb_ BK185 z9_7 hb; replace HB := Aside0.mk (below_step z9_1 hb)))
  go_ret
  exact ⟨z9_4, z9_1⟩
 rw [if_neg c8] at H
 have c8b0 : decide (t187 < 0) = false := decide_eq_false c8
 clear c8
 replace H := Option.bind_eq_some_iff.mp H
 obtain ⟨t188, A120, H⟩ := H
 (try dsimp only at H)
 have A12 := Aside0.mk A120
 clear A120
 by_cases c13 : t188 < 0
 ·
  rw [if_pos c13] at H
  have c13b0 : decide (t188 < 0) = true := decide_eq_true c13
  clear c13
  obtain rfl := Option.some.inj H
  go_enter Try.func26, Try.ntmps26
  go_wp2_with (first | ((with_reducible refine gate_dst (N := 2) rfl ?_); refine box_event ?hg (N := 2) ?hd (cs := #[.slice A0_0 l0_0.length c0_0, .slice A0_1 l0_1.length c0_1, .slice A0_2 l0_2.length c0_2, .slice A0_3 l0_3.length c0_3]) (t := 36) ?hr ?_; (case hd => rfl); (case hg => rfl); (case hr => first | (go_simp; done) | (go_simp; rfl)); intro gb185 hg w14 hbox hb; have BK185 := Aside0.mk (hbox); have GW185 := gw_ w z9_0 hg; have GE185 := gw_ w z9_0 hg; replace HB := Aside0.mk (below_step z9_0 hb); clear hb hbox hg; have hcz15 := bc4 BK185.out) | ((with_reducible refine gate_callee (f := 37) rfl ?_); refine goesL_ (some 8) rfl rfl Try.func37 z9_12 rfl #[.slice A0_0 l0_0.length c0_0, .int .i64 a1] rfl z9_2 ?_; (with_reducible refine (laws_heldIntS.calls k _ _ l0_0 a1 t186 _ ?side1 ?side2 A3.out).mono ?_); (case side1 => exact z9_14); (case side2 => exact HC0_0.out); rintro e w' ⟨rfl, ⟨nd, rfl⟩⟩; refine ⟨_, rfl, ?_⟩) | ((with_reducible refine gate_callee (f := 84) rfl ?_); refine goesL_ (some 14) rfl rfl Try.func84 z9_12 rfl #[.slice A0_1 l0_1.length c0_1, .int .i64 t186] rfl z9_2 ?_; (with_reducible refine (laws_heldTallyS.calls k _ _ l0_1 t186 t187 _ ?side1 ?side2 A7.out).mono ?_); (case side1 => exact z9_15); (case side2 => exact HC0_1.out); rintro e w16 ⟨rfl, hb⟩; refine ⟨_, rfl, ?_⟩; replace BK185 := bb_ BK185 z9_7 hb; replace HB := Aside0.mk (below_step z9_1 hb); have hcz17 := bc4 BK185.out) | ((with_reducible refine gate_callee (f := 85) rfl ?_); refine goesL_ (some 20) rfl rfl Try.func85 z9_12 rfl #[.slice A0_2 l0_2.length c0_2, .int .i64 t187] rfl z9_2 ?_; (with_reducible refine (laws_heldLiveS.calls k _ _ l0_2 t187 t188 _ ?side1 ?side2 A12.out).mono ?_); (case side1 => exact z9_16); (case side2 => exact HC0_2.out); rintro e w18 ⟨rfl, hb⟩; refine ⟨_, rfl, ?_⟩; replace BK185 := bb_ BK185 z9_7 hb; replace HB := Aside0.mk (below_step z9_1 hb)))
  go_ret
  exact ⟨z9_4, z9_1⟩
 rw [if_neg c13] at H
 have c13b0 : decide (t188 < 0) = false := decide_eq_false c13
 clear c13
 replace H := Option.bind_eq_some_iff.mp H
 obtain ⟨t189, A190, H⟩ := H
 (try dsimp only at H)
 have A19 := Aside0.mk A190
 clear A190
 by_cases c20 : t189 < 0
 ·
  rw [if_pos c20] at H
  have c20b0 : decide (t189 < 0) = true := decide_eq_true c20
  clear c20
  obtain rfl := Option.some.inj H
  go_enter Try.func26, Try.ntmps26
  go_wp2_with (first | ((with_reducible refine gate_dst (N := 2) rfl ?_); refine box_event ?hg (N := 2) ?hd (cs := #[.slice A0_0 l0_0.length c0_0, .slice A0_1 l0_1.length c0_1, .slice A0_2 l0_2.length c0_2, .slice A0_3 l0_3.length c0_3]) (t := 36) ?hr ?_; (case hd => rfl); (case hg => rfl); (case hr => first | (go_simp; done) | (go_simp; rfl)); intro gb185 hg w21 hbox hb; have BK185 := Aside0.mk (hbox); have GW185 := gw_ w z9_0 hg; have GE185 := gw_ w z9_0 hg; replace HB := Aside0.mk (below_step z9_0 hb); clear hb hbox hg; have hcz22 := bc4 BK185.out) | ((with_reducible refine gate_callee (f := 37) rfl ?_); refine goesL_ (some 8) rfl rfl Try.func37 z9_12 rfl #[.slice A0_0 l0_0.length c0_0, .int .i64 a1] rfl z9_2 ?_; (with_reducible refine (laws_heldIntS.calls k _ _ l0_0 a1 t186 _ ?side1 ?side2 A3.out).mono ?_); (case side1 => exact z9_14); (case side2 => exact HC0_0.out); rintro e w' ⟨rfl, ⟨nd, rfl⟩⟩; refine ⟨_, rfl, ?_⟩) | ((with_reducible refine gate_callee (f := 84) rfl ?_); refine goesL_ (some 14) rfl rfl Try.func84 z9_12 rfl #[.slice A0_1 l0_1.length c0_1, .int .i64 t186] rfl z9_2 ?_; (with_reducible refine (laws_heldTallyS.calls k _ _ l0_1 t186 t187 _ ?side1 ?side2 A7.out).mono ?_); (case side1 => exact z9_15); (case side2 => exact HC0_1.out); rintro e w23 ⟨rfl, hb⟩; refine ⟨_, rfl, ?_⟩; replace BK185 := bb_ BK185 z9_7 hb; replace HB := Aside0.mk (below_step z9_1 hb); have hcz24 := bc4 BK185.out) | ((with_reducible refine gate_callee (f := 85) rfl ?_); refine goesL_ (some 20) rfl rfl Try.func85 z9_12 rfl #[.slice A0_2 l0_2.length c0_2, .int .i64 t187] rfl z9_2 ?_; (with_reducible refine (laws_heldLiveS.calls k _ _ l0_2 t187 t188 _ ?side1 ?side2 A12.out).mono ?_); (case side1 => exact z9_16); (case side2 => exact HC0_2.out); rintro e w25 ⟨rfl, hb⟩; refine ⟨_, rfl, ?_⟩; replace BK185 := bb_ BK185 z9_7 hb; replace HB := Aside0.mk (below_step z9_1 hb); have hcz26 := bc4 BK185.out) | ((with_reducible refine gate_callee (f := 86) rfl ?_); refine goesL_ (some 26) rfl rfl Try.func86 z9_12 rfl #[.slice A0_3 l0_3.length c0_3, .int .i64 t188] rfl z9_2 ?_; (with_reducible refine (laws_heldCellS.calls k _ _ l0_3 t188 t189 _ ?side1 ?side2 A19.out).mono ?_); (case side1 => exact z9_17); (case side2 => exact HC0_3.out); rintro e w27 ⟨rfl, hb⟩; refine ⟨_, rfl, ?_⟩; replace BK185 := bb_ BK185 z9_7 hb; replace HB := Aside0.mk (below_step z9_1 hb)))
  go_ret
  exact ⟨z9_4, z9_1⟩
 rw [if_neg c20] at H
 have c20b0 : decide (t189 < 0) = false := decide_eq_false c20
 clear c20
 obtain rfl := Option.some.inj H
 go_enter Try.func26, Try.ntmps26
 go_wp2_with (first | ((with_reducible refine gate_dst (N := 2) rfl ?_); refine box_event ?hg (N := 2) ?hd (cs := #[.slice A0_0 l0_0.length c0_0, .slice A0_1 l0_1.length c0_1, .slice A0_2 l0_2.length c0_2, .slice A0_3 l0_3.length c0_3]) (t := 36) ?hr ?_; (case hd => rfl); (case hg => rfl); (case hr => first | (go_simp; done) | (go_simp; rfl)); intro gb185 hg w28 hbox hb; have BK185 := Aside0.mk (hbox); have GW185 := gw_ w z9_0 hg; have GE185 := gw_ w z9_0 hg; replace HB := Aside0.mk (below_step z9_0 hb); clear hb hbox hg; have hcz29 := bc4 BK185.out) | ((with_reducible refine gate_callee (f := 37) rfl ?_); refine goesL_ (some 8) rfl rfl Try.func37 z9_12 rfl #[.slice A0_0 l0_0.length c0_0, .int .i64 a1] rfl z9_2 ?_; (with_reducible refine (laws_heldIntS.calls k _ _ l0_0 a1 t186 _ ?side1 ?side2 A3.out).mono ?_); (case side1 => exact z9_14); (case side2 => exact HC0_0.out); rintro e w' ⟨rfl, ⟨nd, rfl⟩⟩; refine ⟨_, rfl, ?_⟩) | ((with_reducible refine gate_callee (f := 84) rfl ?_); refine goesL_ (some 14) rfl rfl Try.func84 z9_12 rfl #[.slice A0_1 l0_1.length c0_1, .int .i64 t186] rfl z9_2 ?_; (with_reducible refine (laws_heldTallyS.calls k _ _ l0_1 t186 t187 _ ?side1 ?side2 A7.out).mono ?_); (case side1 => exact z9_15); (case side2 => exact HC0_1.out); rintro e w30 ⟨rfl, hb⟩; refine ⟨_, rfl, ?_⟩; replace BK185 := bb_ BK185 z9_7 hb; replace HB := Aside0.mk (below_step z9_1 hb); have hcz31 := bc4 BK185.out) | ((with_reducible refine gate_callee (f := 85) rfl ?_); refine goesL_ (some 20) rfl rfl Try.func85 z9_12 rfl #[.slice A0_2 l0_2.length c0_2, .int .i64 t187] rfl z9_2 ?_; (with_reducible refine (laws_heldLiveS.calls k _ _ l0_2 t187 t188 _ ?side1 ?side2 A12.out).mono ?_); (case side1 => exact z9_16); (case side2 => exact HC0_2.out); rintro e w32 ⟨rfl, hb⟩; refine ⟨_, rfl, ?_⟩; replace BK185 := bb_ BK185 z9_7 hb; replace HB := Aside0.mk (below_step z9_1 hb); have hcz33 := bc4 BK185.out) | ((with_reducible refine gate_callee (f := 86) rfl ?_); refine goesL_ (some 26) rfl rfl Try.func86 z9_12 rfl #[.slice A0_3 l0_3.length c0_3, .int .i64 t188] rfl z9_2 ?_; (with_reducible refine (laws_heldCellS.calls k _ _ l0_3 t188 t189 _ ?side1 ?side2 A19.out).mono ?_); (case side1 => exact z9_17); (case side2 => exact HC0_3.out); rintro e w34 ⟨rfl, hb⟩; refine ⟨_, rfl, ?_⟩; replace BK185 := bb_ BK185 z9_7 hb; replace HB := Aside0.mk (below_step z9_1 hb)))
 go_ret
 exact ⟨z9_4, z9_1⟩
def laws_szIntS.f (l0 : List Int) (a1 : Int) : Option (Int) := if (wrap64 (a1 - (l0.length : Int))) < 0 then (some (-1)) else (some (wrap64 (a1 - (l0.length : Int))))
set_option maxHeartbeats 8000000 in
set_option maxRecDepth 100000 in
theorem laws_szIntS.calls (A0 : Option Addr) (c0 : Nat) (l0 : List Int) (a1 : Int) (r : Int) (w : World) (hr0 : Kd.C (Kd.int .i64) w A0 l0.length l0) (hc0 : l0.length ≤ c0) (h : laws_szIntS.f l0 a1 = some r) :
  Calls Try.prog 38 #[.slice A0 l0.length c0, .int .i64 a1] w fun e w' => e = .returned (.int .i64 r) ∧ Drawn0 w w' := by
 have HR0 := Aside0.mk hr0
 have HC0 := Aside0.mk hc0
 clear hr0 hc0
 have H : (if (wrap64 (a1 - (l0.length : Int))) < 0 then (some (-1)) else (some (wrap64 (a1 - (l0.length : Int))))) = some r := h
 clear h
 by_cases c3 : (wrap64 (a1 - (l0.length : Int))) < 0
 ·
  rw [if_pos c3] at H
  have c3b0 : decide ((wrap64 (a1 - (l0.length : Int))) < 0) = true := decide_eq_true c3
  clear c3
  obtain rfl := Option.some.inj H
  go_enter Try.func38, Try.ntmps38
  go_wp2
  go_ret
  exact ⟨z9_8, z9_9⟩
 rw [if_neg c3] at H
 have c3b0 : decide ((wrap64 (a1 - (l0.length : Int))) < 0) = false := decide_eq_false c3
 clear c3
 obtain rfl := Option.some.inj H
 go_enter Try.func38, Try.ntmps38
 go_wp2
 go_ret
 exact ⟨z9_8, z9_9⟩
def laws_szAct.f (a0_0 : Int) (a0_1 : Int) (a0_2 : Int) (l0_3 : List Int) (a0_4 : Int) (a0_5 : ByteArray) (a0_6 : ByteArray) (a0_7 : Int) (a0_8 : Int) (a0_9 : Int) (a1 : Int) : Option (Int) := (laws_szIntS.f l0_3 a1).bind fun t191 => (if t191 < 0 then (some (-1)) else (if (wrap64 (t191 - (a0_5.size : Int))) < 0 then (some (-1)) else (if (wrap64 ((wrap64 (t191 - (a0_5.size : Int))) - (a0_6.size : Int))) < 0 then (some (-1)) else (some (wrap64 ((wrap64 (t191 - (a0_5.size : Int))) - (a0_6.size : Int)))))))
set_option maxHeartbeats 8000000 in
set_option maxRecDepth 100000 in
theorem laws_szAct.calls (a0_0 : Int) (a0_1 : Int) (a0_2 : Int) (A0_3 : Option Addr) (c0_3 : Nat) (l0_3 : List Int) (a0_4 : Int) (a0_5 : ByteArray) (a0_6 : ByteArray) (a0_7 : Int) (a0_8 : Int) (a0_9 : Int) (a1 : Int) (r : Int) (w : World) (hr0_3 : Kd.C (Kd.int .i64) w A0_3 l0_3.length l0_3) (hc0_3 : l0_3.length ≤ c0_3) (h : laws_szAct.f a0_0 a0_1 a0_2 l0_3 a0_4 a0_5 a0_6 a0_7 a0_8 a0_9 a1 = some r) :
  Calls Try.prog 19 #[.agg #[.int .i64 a0_0, .int .i64 a0_1, .int .i64 a0_2, .slice A0_3 l0_3.length c0_3, .int .i64 a0_4, .string a0_5, .string a0_6, .int .i64 a0_7, .int .i64 a0_8, .int .i64 a0_9], .int .i64 a1] w fun e w' => e = .returned (.int .i64 r) ∧ Below w.heap.size w w' := by
 have hu46 := Try.underlying46
 have HR0_3 := Aside0.mk hr0_3
 have HC0_3 := Aside0.mk hc0_3
 clear hr0_3 hc0_3
 have HB := Aside0.mk (Below.refl w.heap.size w)
 have H := h
 unfold laws_szAct.f at H
 clear h
 replace H := Option.bind_eq_some_iff.mp H
 obtain ⟨t191, A30, H⟩ := H
 (try dsimp only at H)
 have A3 := Aside0.mk A30
 clear A30
 by_cases c4 : t191 < 0
 ·
  rw [if_pos c4] at H
  have c4b0 : decide (t191 < 0) = true := decide_eq_true c4
  clear c4
  obtain rfl := Option.some.inj H
  go_enter Try.func19, Try.ntmps19
  go_wp2_with (first | ((with_reducible refine gate_dst (N := 2) rfl ?_); refine box_event ?hg (N := 2) ?hd (cs := #[.int .i64 a0_0, .int .i64 a0_1, .int .i64 a0_2, .slice A0_3 l0_3.length c0_3, .int .i64 a0_4, .string a0_5, .string a0_6, .int .i64 a0_7, .int .i64 a0_8, .int .i64 a0_9]) (t := 46) ?hr ?_; (case hd => rfl); (case hg => rfl); (case hr => first | (go_simp; done) | (go_simp; rfl)); intro gb190 hg w5 hbox hb; have BK190 := Aside0.mk (hbox); have GW190 := gw_ w z9_0 hg; have GE190 := gw_ w z9_0 hg; replace HB := Aside0.mk (below_step z9_0 hb); clear hb hbox hg; have hcz6 := bc10 BK190.out) | ((with_reducible refine gate_callee (f := 38) rfl ?_); refine goesL_ (some 8) rfl rfl Try.func38 z9_12 rfl #[.slice A0_3 l0_3.length c0_3, .int .i64 a1] rfl z9_2 ?_; (with_reducible refine (laws_szIntS.calls _ _ l0_3 a1 t191 _ ?side1 ?side2 A3.out).mono ?_); (case side1 => exact z9_17); (case side2 => exact HC0_3.out); rintro e w' ⟨rfl, ⟨nd, rfl⟩⟩; refine ⟨_, rfl, ?_⟩))
  go_ret
  exact ⟨z9_4, z9_11⟩
 rw [if_neg c4] at H
 have c4b0 : decide (t191 < 0) = false := decide_eq_false c4
 clear c4
 by_cases c7 : (wrap64 (t191 - (a0_5.size : Int))) < 0
 ·
  rw [if_pos c7] at H
  have c7b0 : decide ((wrap64 (t191 - (a0_5.size : Int))) < 0) = true := decide_eq_true c7
  clear c7
  obtain rfl := Option.some.inj H
  go_enter Try.func19, Try.ntmps19
  go_wp2_with (first | ((with_reducible refine gate_dst (N := 2) rfl ?_); refine box_event ?hg (N := 2) ?hd (cs := #[.int .i64 a0_0, .int .i64 a0_1, .int .i64 a0_2, .slice A0_3 l0_3.length c0_3, .int .i64 a0_4, .string a0_5, .string a0_6, .int .i64 a0_7, .int .i64 a0_8, .int .i64 a0_9]) (t := 46) ?hr ?_; (case hd => rfl); (case hg => rfl); (case hr => first | (go_simp; done) | (go_simp; rfl)); intro gb190 hg w8 hbox hb; have BK190 := Aside0.mk (hbox); have GW190 := gw_ w z9_0 hg; have GE190 := gw_ w z9_0 hg; replace HB := Aside0.mk (below_step z9_0 hb); clear hb hbox hg; have hcz9 := bc10 BK190.out) | ((with_reducible refine gate_callee (f := 38) rfl ?_); refine goesL_ (some 8) rfl rfl Try.func38 z9_12 rfl #[.slice A0_3 l0_3.length c0_3, .int .i64 a1] rfl z9_2 ?_; (with_reducible refine (laws_szIntS.calls _ _ l0_3 a1 t191 _ ?side1 ?side2 A3.out).mono ?_); (case side1 => exact z9_17); (case side2 => exact HC0_3.out); rintro e w' ⟨rfl, ⟨nd, rfl⟩⟩; refine ⟨_, rfl, ?_⟩))
  go_ret
  exact ⟨z9_4, z9_11⟩
 rw [if_neg c7] at H
 have c7b0 : decide ((wrap64 (t191 - (a0_5.size : Int))) < 0) = false := decide_eq_false c7
 clear c7
 by_cases c10 : (wrap64 ((wrap64 (t191 - (a0_5.size : Int))) - (a0_6.size : Int))) < 0
 ·
  rw [if_pos c10] at H
  have c10b0 : decide ((wrap64 ((wrap64 (t191 - (a0_5.size : Int))) - (a0_6.size : Int))) < 0) = true := decide_eq_true c10
  clear c10
  obtain rfl := Option.some.inj H
  go_enter Try.func19, Try.ntmps19
  go_wp2_with (first | ((with_reducible refine gate_dst (N := 2) rfl ?_); refine box_event ?hg (N := 2) ?hd (cs := #[.int .i64 a0_0, .int .i64 a0_1, .int .i64 a0_2, .slice A0_3 l0_3.length c0_3, .int .i64 a0_4, .string a0_5, .string a0_6, .int .i64 a0_7, .int .i64 a0_8, .int .i64 a0_9]) (t := 46) ?hr ?_; (case hd => rfl); (case hg => rfl); (case hr => first | (go_simp; done) | (go_simp; rfl)); intro gb190 hg w11 hbox hb; have BK190 := Aside0.mk (hbox); have GW190 := gw_ w z9_0 hg; have GE190 := gw_ w z9_0 hg; replace HB := Aside0.mk (below_step z9_0 hb); clear hb hbox hg; have hcz12 := bc10 BK190.out) | ((with_reducible refine gate_callee (f := 38) rfl ?_); refine goesL_ (some 8) rfl rfl Try.func38 z9_12 rfl #[.slice A0_3 l0_3.length c0_3, .int .i64 a1] rfl z9_2 ?_; (with_reducible refine (laws_szIntS.calls _ _ l0_3 a1 t191 _ ?side1 ?side2 A3.out).mono ?_); (case side1 => exact z9_17); (case side2 => exact HC0_3.out); rintro e w' ⟨rfl, ⟨nd, rfl⟩⟩; refine ⟨_, rfl, ?_⟩))
  go_ret
  exact ⟨z9_4, z9_11⟩
 rw [if_neg c10] at H
 have c10b0 : decide ((wrap64 ((wrap64 (t191 - (a0_5.size : Int))) - (a0_6.size : Int))) < 0) = false := decide_eq_false c10
 clear c10
 obtain rfl := Option.some.inj H
 go_enter Try.func19, Try.ntmps19
 go_wp2_with (first | ((with_reducible refine gate_dst (N := 2) rfl ?_); refine box_event ?hg (N := 2) ?hd (cs := #[.int .i64 a0_0, .int .i64 a0_1, .int .i64 a0_2, .slice A0_3 l0_3.length c0_3, .int .i64 a0_4, .string a0_5, .string a0_6, .int .i64 a0_7, .int .i64 a0_8, .int .i64 a0_9]) (t := 46) ?hr ?_; (case hd => rfl); (case hg => rfl); (case hr => first | (go_simp; done) | (go_simp; rfl)); intro gb190 hg w13 hbox hb; have BK190 := Aside0.mk (hbox); have GW190 := gw_ w z9_0 hg; have GE190 := gw_ w z9_0 hg; replace HB := Aside0.mk (below_step z9_0 hb); clear hb hbox hg; have hcz14 := bc10 BK190.out) | ((with_reducible refine gate_callee (f := 38) rfl ?_); refine goesL_ (some 8) rfl rfl Try.func38 z9_12 rfl #[.slice A0_3 l0_3.length c0_3, .int .i64 a1] rfl z9_2 ?_; (with_reducible refine (laws_szIntS.calls _ _ l0_3 a1 t191 _ ?side1 ?side2 A3.out).mono ?_); (case side1 => exact z9_17); (case side2 => exact HC0_3.out); rintro e w' ⟨rfl, ⟨nd, rfl⟩⟩; refine ⟨_, rfl, ?_⟩))
 go_ret
 exact ⟨z9_4, z9_11⟩
def laws_szActS.l0 : Nat → List (S46) → Int → Int → Option (Int)
  | 0, _, _, _ => none
  | k + 1, x0, x1, x5 => if x5 < (x0.length : Int) then (if 0 ≤ x5 then ((laws_szAct.f ((rd_T46 x0 x5).f0.f0) ((rd_T46 x0 x5).f0.f1) ((rd_T46 x0 x5).f1) ((rd_T46 x0 x5).f2) ((rd_T46 x0 x5).f3) ((rd_T46 x0 x5).f4) ((rd_T46 x0 x5).f5) ((rd_T46 x0 x5).f6) ((rd_T46 x0 x5).f7.f0) ((rd_T46 x0 x5).f7.f1) x1).bind fun t193 => (if t193 < 0 then (some (-1)) else (laws_szActS.l0 k x0 t193 (wrap64 (x5 + 1))))) else (none)) else (some x1)
def laws_szActS.f (k : Nat) (l0 : List (S46)) (a1 : Int) : Option (Int) := if (wrap64 (a1 - (l0.length : Int))) < 0 then (some (-1)) else (laws_szActS.l0 k l0 (wrap64 (a1 - (l0.length : Int))) 0)
set_option maxHeartbeats 8000000 in
set_option maxRecDepth 100000 in
theorem laws_szActS.calls (k : Nat) (A0 : Option Addr) (c0 : Nat) (l0 : List (S46)) (a1 : Int) (r : Int) (w : World) (hr0 : Kd.C k46 w A0 l0.length l0) (hc0 : l0.length ≤ c0) (h : laws_szActS.f k l0 a1 = some r) :
  Calls Try.prog 27 #[.slice A0 l0.length c0, .int .i64 a1] w fun e w' => e = .returned (.int .i64 r) ∧ Below w.heap.size w w' := by
 have hu46 := Try.underlying46
 have HR0 := Aside0.mk hr0
 have HC0 := Aside0.mk hc0
 clear hr0 hc0
 have HB := Aside0.mk (Below.refl w.heap.size w)
 have H : (if (wrap64 (a1 - (l0.length : Int))) < 0 then (some (-1)) else (laws_szActS.l0 k l0 (wrap64 (a1 - (l0.length : Int))) 0)) = some r := h
 clear h
 by_cases c3 : (wrap64 (a1 - (l0.length : Int))) < 0
 ·
  rw [if_pos c3] at H
  have c3b0 : decide ((wrap64 (a1 - (l0.length : Int))) < 0) = true := decide_eq_true c3
  clear c3
  obtain rfl := Option.some.inj H
  go_enter Try.func27, Try.ntmps27
  go_wp2
  go_ret
  exact ⟨z9_4, z9_0⟩
 rw [if_neg c3] at H
 have c3b0 : decide ((wrap64 (a1 - (l0.length : Int))) < 0) = false := decide_eq_false c3
 clear c3
 have H' := Aside0.mk H
 clear H
 go_enter Try.func27, Try.ntmps27
 go_wp2
 go_loopg [1, 5] k (fun kq v1 v5 w' => ∃ (x1_1 : Int) (x5_1 : Int), v1 = .int .i64 x1_1 ∧ v5 = .int .i64 x5_1 ∧ Aside0 (laws_szActS.l0 kq l0 x1_1 x5_1 = some r) ∧ Aside0 (kq ≤ k) ∧ Aside0 (Below w.heap.size w w'))
 case atStart => exact ⟨(wrap64 (a1 - (l0.length : Int))), (0), z9_8, z9_8, H', ⟨Nat.le_refl _⟩, ⟨z9_0⟩⟩
 case round =>
  clear H'
  try clear c2
  try clear p2
  try clear c3
  try clear c3b0
  obtain ⟨x1_1, x5_1, rfl, rfl, HA, HK1, HB⟩ := hrel
  cases gk with
  | zero => exact absurd HA.out (by simp [laws_szActS.l0])
  | succ k1 =>
   have H := HA.out
   clear HA
   simp only [laws_szActS.l0] at H
   by_cases c4 : x5_1 < (l0.length : Int)
   rotate_left
   ·
    rw [if_neg c4] at H
    have c4b0 : decide (x5_1 < (l0.length : Int)) = false := decide_eq_false c4
    clear c4
    obtain rfl := Option.some.inj H
    go_wp2
    go_ret
    exact ⟨z9_4, z9_0⟩
   rw [if_pos c4] at H
   have c4b0 : decide (x5_1 < (l0.length : Int)) = true := decide_eq_true c4
   clear c4
   by_cases c5 : 0 ≤ x5_1
   rotate_left
   ·
    rw [if_neg c5] at H
    exact absurd H (by simp)
   rw [if_pos c5] at H
   have c5b0 : decide (0 ≤ x5_1) = true := decide_eq_true c5
   clear c5
   replace H := Option.bind_eq_some_iff.mp H
   obtain ⟨t193, A60, H⟩ := H
   (try dsimp only at H)
   have A6 := Aside0.mk A60
   clear A60
   by_cases c7 : t193 < 0
   ·
    rw [if_pos c7] at H
    have c7b0 : decide (t193 < 0) = true := decide_eq_true c7
    clear c7
    obtain rfl := Option.some.inj H
    have p192 : 0 ≤ (x5_1 : Int) := of_decide_eq_true z9_6
    have q192 : x5_1 < (l0.length : Int) := of_decide_eq_true z9_6
    obtain ⟨ad192, A192_3, c192_3, e192, hx192_0, hx192_1, hx192_2, hx192_3, hx192_4, hx192_5, hx192_6, hx192_7, hx192_8, hx192_9, hl192_3, hi192_3⟩ := at_T46 HR0.out x5_1 p192 q192
    cases e192
    replace hx192_0 := cb_ HB hx192_0
    replace hx192_1 := cb_ HB hx192_1
    replace hx192_2 := cb_ HB hx192_2
    replace hx192_3 := cb_ HB hx192_3
    replace hx192_4 := cb_ HB hx192_4
    replace hx192_5 := cb_ HB hx192_5
    replace hx192_6 := cb_ HB hx192_6
    replace hx192_7 := cb_ HB hx192_7
    replace hx192_8 := cb_ HB hx192_8
    replace hx192_9 := cb_ HB hx192_9
    have HR192_3 := Aside0.mk hi192_3
    have HC192_3 := Aside0.mk hl192_3
    clear hi192_3 hl192_3
    replace p192 := eq_true p192
    replace q192 := eq_true q192
    go_wp2_with (first | ((with_reducible refine gate_callee (f := 19) rfl ?_); refine goesL_ (some 23) rfl rfl Try.func19 z9_12 rfl #[.agg #[.int .i64 ((rd_T46 l0 x5_1).f0.f0), .int .i64 ((rd_T46 l0 x5_1).f0.f1), .int .i64 ((rd_T46 l0 x5_1).f1), .slice A192_3 ((rd_T46 l0 x5_1).f2).length c192_3, .int .i64 ((rd_T46 l0 x5_1).f3), .string ((rd_T46 l0 x5_1).f4), .string ((rd_T46 l0 x5_1).f5), .int .i64 ((rd_T46 l0 x5_1).f6), .int .i64 ((rd_T46 l0 x5_1).f7.f0), .int .i64 ((rd_T46 l0 x5_1).f7.f1)], .int .i64 x1_1] rfl z9_2 ?_; (with_reducible refine (laws_szAct.calls ((rd_T46 l0 x5_1).f0.f0) ((rd_T46 l0 x5_1).f0.f1) ((rd_T46 l0 x5_1).f1) _ _ ((rd_T46 l0 x5_1).f2) ((rd_T46 l0 x5_1).f3) ((rd_T46 l0 x5_1).f4) ((rd_T46 l0 x5_1).f5) ((rd_T46 l0 x5_1).f6) ((rd_T46 l0 x5_1).f7.f0) ((rd_T46 l0 x5_1).f7.f1) x1_1 t193 _ ?side1 ?side2 A6.out).mono ?_); (case side1 => exact z9_18); (case side2 => exact HC192_3.out); rintro e w8 ⟨rfl, hb⟩; refine ⟨_, rfl, ?_⟩; replace HB := Aside0.mk (below_step z9_0 hb)))
    go_ret
    exact ⟨z9_4, z9_0⟩
   rw [if_neg c7] at H
   have c7b0 : decide (t193 < 0) = false := decide_eq_false c7
   clear c7
   have H' := Aside0.mk H
   clear H
   have p192 : 0 ≤ (x5_1 : Int) := of_decide_eq_true z9_6
   have q192 : x5_1 < (l0.length : Int) := of_decide_eq_true z9_6
   obtain ⟨ad192, A192_3, c192_3, e192, hx192_0, hx192_1, hx192_2, hx192_3, hx192_4, hx192_5, hx192_6, hx192_7, hx192_8, hx192_9, hl192_3, hi192_3⟩ := at_T46 HR0.out x5_1 p192 q192
   cases e192
   replace hx192_0 := cb_ HB hx192_0
   replace hx192_1 := cb_ HB hx192_1
   replace hx192_2 := cb_ HB hx192_2
   replace hx192_3 := cb_ HB hx192_3
   replace hx192_4 := cb_ HB hx192_4
   replace hx192_5 := cb_ HB hx192_5
   replace hx192_6 := cb_ HB hx192_6
   replace hx192_7 := cb_ HB hx192_7
   replace hx192_8 := cb_ HB hx192_8
   replace hx192_9 := cb_ HB hx192_9
   have HR192_3 := Aside0.mk hi192_3
   have HC192_3 := Aside0.mk hl192_3
   clear hi192_3 hl192_3
   replace p192 := eq_true p192
   replace q192 := eq_true q192
   go_wp2_with (first | ((with_reducible refine gate_callee (f := 19) rfl ?_); refine goesL_ (some 23) rfl rfl Try.func19 z9_12 rfl #[.agg #[.int .i64 ((rd_T46 l0 x5_1).f0.f0), .int .i64 ((rd_T46 l0 x5_1).f0.f1), .int .i64 ((rd_T46 l0 x5_1).f1), .slice A192_3 ((rd_T46 l0 x5_1).f2).length c192_3, .int .i64 ((rd_T46 l0 x5_1).f3), .string ((rd_T46 l0 x5_1).f4), .string ((rd_T46 l0 x5_1).f5), .int .i64 ((rd_T46 l0 x5_1).f6), .int .i64 ((rd_T46 l0 x5_1).f7.f0), .int .i64 ((rd_T46 l0 x5_1).f7.f1)], .int .i64 x1_1] rfl z9_2 ?_; (with_reducible refine (laws_szAct.calls ((rd_T46 l0 x5_1).f0.f0) ((rd_T46 l0 x5_1).f0.f1) ((rd_T46 l0 x5_1).f1) _ _ ((rd_T46 l0 x5_1).f2) ((rd_T46 l0 x5_1).f3) ((rd_T46 l0 x5_1).f4) ((rd_T46 l0 x5_1).f5) ((rd_T46 l0 x5_1).f6) ((rd_T46 l0 x5_1).f7.f0) ((rd_T46 l0 x5_1).f7.f1) x1_1 t193 _ ?side1 ?side2 A6.out).mono ?_); (case side1 => exact z9_18); (case side2 => exact HC192_3.out); rintro e w9 ⟨rfl, hb⟩; refine ⟨_, rfl, ?_⟩; replace HB := Aside0.mk (below_step z9_0 hb)))
   go_roundg k1
   case measure => have := HK1.out; omega
   case rel => exact ⟨(t193), (wrap64 (x5_1 + 1)), z9_8, z9_8, H', ⟨by have := HK1.out; omega⟩, ⟨z9_0⟩⟩
def spec_CellAt.l0 : Nat → Int → List Int → List (S84) → List (S86) → List (S73) → Int → Int → Option (Int)
  | 0, _, _, _, _, _, _, _ => none
  | k + 1, x5, x195000, x195001, x195002, x195003, x196000, x196001 => if x5 < (x195003.length : Int) then (if 0 ≤ x5 then (if (((rd_T73 x195003 x5).f1.f0) == x196000 && (((rd_T73 x195003 x5).f1.f1) == x196001)) = true then (some x5) else (spec_CellAt.l0 k (wrap64 (x5 + 1)) x195000 x195001 x195002 x195003 x196000 x196001)) else (none)) else (some (-1))
def spec_CellAt.f (k : Nat) (l0_0 : List Int) (l0_1 : List (S84)) (l0_2 : List (S86)) (l0_3 : List (S73)) (a1_0 : Int) (a1_1 : Int) : Option (Int) := spec_CellAt.l0 k 0 l0_0 l0_1 l0_2 l0_3 a1_0 a1_1
set_option maxHeartbeats 8000000 in
set_option maxRecDepth 100000 in
theorem spec_CellAt.calls (k : Nat) (A0_0 : Option Addr) (c0_0 : Nat) (l0_0 : List Int) (A0_1 : Option Addr) (c0_1 : Nat) (l0_1 : List (S84)) (A0_2 : Option Addr) (c0_2 : Nat) (l0_2 : List (S86)) (A0_3 : Option Addr) (c0_3 : Nat) (l0_3 : List (S73)) (a1_0 : Int) (a1_1 : Int) (r : Int) (w : World) (hr0_0 : Kd.C (Kd.int .i64) w A0_0 l0_0.length l0_0) (hc0_0 : l0_0.length ≤ c0_0) (hr0_1 : Kd.C k84 w A0_1 l0_1.length l0_1) (hc0_1 : l0_1.length ≤ c0_1) (hr0_2 : Kd.C k86 w A0_2 l0_2.length l0_2) (hc0_2 : l0_2.length ≤ c0_2) (hr0_3 : Kd.C k73 w A0_3 l0_3.length l0_3) (hc0_3 : l0_3.length ≤ c0_3) (h : spec_CellAt.f k l0_0 l0_1 l0_2 l0_3 a1_0 a1_1 = some r) :
  Calls Try.prog 10 #[.agg #[.slice A0_0 l0_0.length c0_0, .slice A0_1 l0_1.length c0_1, .slice A0_2 l0_2.length c0_2, .slice A0_3 l0_3.length c0_3], .agg #[.int .i64 a1_0, .int .i64 a1_1]] w fun e w' => e = .returned (.int .i64 r) ∧ Below w.heap.size w w' := by
 have hu36 := Try.underlying36
 have hu38 := Try.underlying38
 have HR0_0 := Aside0.mk hr0_0
 have HC0_0 := Aside0.mk hc0_0
 clear hr0_0 hc0_0
 have HR0_1 := Aside0.mk hr0_1
 have HC0_1 := Aside0.mk hc0_1
 clear hr0_1 hc0_1
 have HR0_2 := Aside0.mk hr0_2
 have HC0_2 := Aside0.mk hc0_2
 clear hr0_2 hc0_2
 have HR0_3 := Aside0.mk hr0_3
 have HC0_3 := Aside0.mk hc0_3
 clear hr0_3 hc0_3
 have HB := Aside0.mk (Below.refl w.heap.size w)
 have H := h
 unfold spec_CellAt.f at H
 clear h
 have H' := Aside0.mk H
 clear H
 go_enter Try.func10, Try.ntmps10
 go_wp2_with (first | ((with_reducible refine gate_dst (N := 2) rfl ?_); refine box_event ?hg (N := 2) ?hd (cs := #[.slice A0_0 l0_0.length c0_0, .slice A0_1 l0_1.length c0_1, .slice A0_2 l0_2.length c0_2, .slice A0_3 l0_3.length c0_3]) (t := 36) ?hr ?_; (case hd => rfl); (case hg => rfl); (case hr => first | (go_simp; done) | (go_simp; rfl)); intro gb194 hg w3 hbox hb; have BK194 := Aside0.mk (hbox); have GW194 := gw_ w z9_0 hg; have GE194 := gw_ w z9_0 hg; replace HB := Aside0.mk (below_step z9_0 hb); clear hb hbox hg) | ((with_reducible refine gate_dst (N := 3) rfl ?_); refine box_event ?hg (N := 3) ?hd (cs := #[.int .i64 a1_0, .int .i64 a1_1]) (t := 38) ?hr ?_; (case hd => rfl); (case hg => rfl); (case hr => first | (go_simp; done) | (go_simp; rfl)); intro gb195 hg w4 hbox hb; have BK195 := Aside0.mk (hbox); have GW195 := gw_ w z9_3 hg; have GE195 := gw_ w z9_3 hg; replace HB := Aside0.mk (below_step z9_3 hb); have NB194_195 := nb_ BK194 z9_5 hg; have NB195_194 := nc_ BK194 z9_5 hg; replace BK194 := bb_ BK194 z9_5 hb; clear hb hbox hg))
 repeat (go_quiet (first | ((with_reducible refine gate_dst (N := 2) rfl ?_); refine box_event ?hg (N := 2) ?hd (cs := #[.slice A0_0 l0_0.length c0_0, .slice A0_1 l0_1.length c0_1, .slice A0_2 l0_2.length c0_2, .slice A0_3 l0_3.length c0_3]) (t := 36) ?hr ?_; (case hd => rfl); (case hg => rfl); (case hr => first | (go_simp; done) | (go_simp; rfl)); intro gb194 hg w3 hbox hb; have BK194 := Aside0.mk (hbox); have GW194 := gw_ w z9_0 hg; have GE194 := gw_ w z9_0 hg; replace HB := Aside0.mk (below_step z9_0 hb); clear hb hbox hg) | ((with_reducible refine gate_dst (N := 3) rfl ?_); refine box_event ?hg (N := 3) ?hd (cs := #[.int .i64 a1_0, .int .i64 a1_1]) (t := 38) ?hr ?_; (case hd => rfl); (case hg => rfl); (case hr => first | (go_simp; done) | (go_simp; rfl)); intro gb195 hg w4 hbox hb; have BK195 := Aside0.mk (hbox); have GW195 := gw_ w z9_3 hg; have GE195 := gw_ w z9_3 hg; replace HB := Aside0.mk (below_step z9_3 hb); have NB194_195 := nb_ BK194 z9_5 hg; have NB195_194 := nc_ BK194 z9_5 hg; replace BK194 := bb_ BK194 z9_5 hb; clear hb hbox hg)); try go_wp2_with (first | ((with_reducible refine gate_dst (N := 2) rfl ?_); refine box_event ?hg (N := 2) ?hd (cs := #[.slice A0_0 l0_0.length c0_0, .slice A0_1 l0_1.length c0_1, .slice A0_2 l0_2.length c0_2, .slice A0_3 l0_3.length c0_3]) (t := 36) ?hr ?_; (case hd => rfl); (case hg => rfl); (case hr => first | (go_simp; done) | (go_simp; rfl)); intro gb194 hg w3 hbox hb; have BK194 := Aside0.mk (hbox); have GW194 := gw_ w z9_0 hg; have GE194 := gw_ w z9_0 hg; replace HB := Aside0.mk (below_step z9_0 hb); clear hb hbox hg) | ((with_reducible refine gate_dst (N := 3) rfl ?_); refine box_event ?hg (N := 3) ?hd (cs := #[.int .i64 a1_0, .int .i64 a1_1]) (t := 38) ?hr ?_; (case hd => rfl); (case hg => rfl); (case hr => first | (go_simp; done) | (go_simp; rfl)); intro gb195 hg w4 hbox hb; have BK195 := Aside0.mk (hbox); have GW195 := gw_ w z9_3 hg; have GE195 := gw_ w z9_3 hg; replace HB := Aside0.mk (below_step z9_3 hb); have NB194_195 := nb_ BK194 z9_5 hg; have NB195_194 := nc_ BK194 z9_5 hg; replace BK194 := bb_ BK194 z9_5 hb; clear hb hbox hg)))
 go_loopg [5] k (fun kq v5 w' => ∃ (x5_1 : Int), v5 = .int .i64 x5_1 ∧ Aside0 (spec_CellAt.l0 kq x5_1 l0_0 l0_1 l0_2 l0_3 a1_0 a1_1 = some r) ∧ Aside0 (kq ≤ k) ∧ Aside0 (w'.heap[gb194]? = some (.cells #[(.slice A0_0 l0_0.length c0_0), (.slice A0_1 l0_1.length c0_1), (.slice A0_2 l0_2.length c0_2), (.slice A0_3 l0_3.length c0_3)] 36 (0, 0))) ∧ Aside0 (w'.heap[gb195]? = some (.cells #[.int .i64 a1_0, .int .i64 a1_1] 38 (0, 0))) ∧ Aside0 (Below w.heap.size w w'))
 case atStart => exact ⟨(0), z9_8, H', ⟨Nat.le_refl _⟩, ⟨z9_5⟩, ⟨z9_13⟩, ⟨z9_10⟩⟩
 case round =>
  clear H'
  try clear c1
  try clear p2
  obtain ⟨x5_1, rfl, HA, HK1, BK194, BK195, HB⟩ := hrel
  cases gk with
  | zero => exact absurd HA.out (by simp [spec_CellAt.l0])
  | succ k1 =>
   have H := HA.out
   clear HA
   simp only [spec_CellAt.l0] at H
   by_cases c5 : x5_1 < (l0_3.length : Int)
   rotate_left
   ·
    rw [if_neg c5] at H
    have c5b0 : decide (x5_1 < (l0_3.length : Int)) = false := decide_eq_false c5
    clear c5
    obtain rfl := Option.some.inj H
    have hnb14 := NB194_195.out
    have hnc14 := NB195_194.out
    have hcz15 := bc4 BK194.out
    go_wp2
    repeat (go_quiet (fail); try go_wp2)
    go_ret
    exact ⟨z9_4, z9_10⟩
   rw [if_pos c5] at H
   have c5b0 : decide (x5_1 < (l0_3.length : Int)) = true := decide_eq_true c5
   clear c5
   by_cases c6 : 0 ≤ x5_1
   rotate_left
   ·
    rw [if_neg c6] at H
    exact absurd H (by simp)
   rw [if_pos c6] at H
   have c6b0 : decide (0 ≤ x5_1) = true := decide_eq_true c6
   clear c6
   by_cases c7 : (((rd_T73 l0_3 x5_1).f1.f0) == a1_0 && (((rd_T73 l0_3 x5_1).f1.f1) == a1_1)) = true
   ·
    rw [if_pos c7] at H
    have c7b0 : (((rd_T73 l0_3 x5_1).f1.f0) == a1_0 && (((rd_T73 l0_3 x5_1).f1.f1) == a1_1)) = true := c7
    (try (have c7b1 : decide (((rd_T73 l0_3 x5_1).f1.f0) = a1_0 && (((rd_T73 l0_3 x5_1).f1.f1) == a1_1)) = true := by simpa using c7))
    (try (have c7b2 : (((rd_T73 l0_3 x5_1).f1.f0) == a1_0 && (((rd_T73 l0_3 x5_1).f1.f1) == a1_1)) = true := by simpa using c7))
    clear c7
    obtain rfl := Option.some.inj H
    have hnb8 := NB194_195.out
    have hnc8 := NB195_194.out
    have hcz9 := bc4 BK194.out
    have p196 : 0 ≤ (x5_1 : Int) := of_decide_eq_true z9_6
    have q196 : x5_1 < (l0_3.length : Int) := of_decide_eq_true z9_6
    obtain ⟨ad196, e196, hx196_0, hx196_1, hx196_2, hx196_3, hx196_4, hx196_5, hx196_6, hx196_7⟩ := at_T73 HR0_3.out x5_1 p196 q196
    cases e196
    replace hx196_0 := cb_ HB hx196_0
    replace hx196_1 := cb_ HB hx196_1
    replace hx196_2 := cb_ HB hx196_2
    replace hx196_3 := cb_ HB hx196_3
    replace hx196_4 := cb_ HB hx196_4
    replace hx196_5 := cb_ HB hx196_5
    replace hx196_6 := cb_ HB hx196_6
    replace hx196_7 := cb_ HB hx196_7
    replace p196 := eq_true p196
    replace q196 := eq_true q196
    have hcz10 := bc2 BK195.out
    go_wp2
    repeat (go_quiet (fail); try go_wp2)
    go_ret
    exact ⟨z9_4, z9_10⟩
   rw [if_neg c7] at H
   have c7b0 : (((rd_T73 l0_3 x5_1).f1.f0) == a1_0 && (((rd_T73 l0_3 x5_1).f1.f1) == a1_1)) = false := by simpa using c7
   (try (have c7b1 : decide (((rd_T73 l0_3 x5_1).f1.f0) = a1_0 && (((rd_T73 l0_3 x5_1).f1.f1) == a1_1)) = false := by simpa using c7))
   (try (have c7b2 : (((rd_T73 l0_3 x5_1).f1.f0) == a1_0 && (((rd_T73 l0_3 x5_1).f1.f1) == a1_1)) = false := by simpa using c7))
   (try (have c7b3 : ¬ (((rd_T73 l0_3 x5_1).f1.f0) = a1_0 && (((rd_T73 l0_3 x5_1).f1.f1) == a1_1)) := by simpa using c7))
   clear c7
   have H' := Aside0.mk H
   clear H
   have hnb11 := NB194_195.out
   have hnc11 := NB195_194.out
   have hcz12 := bc4 BK194.out
   have p196 : 0 ≤ (x5_1 : Int) := of_decide_eq_true z9_6
   have q196 : x5_1 < (l0_3.length : Int) := of_decide_eq_true z9_6
   obtain ⟨ad196, e196, hx196_0, hx196_1, hx196_2, hx196_3, hx196_4, hx196_5, hx196_6, hx196_7⟩ := at_T73 HR0_3.out x5_1 p196 q196
   cases e196
   replace hx196_0 := cb_ HB hx196_0
   replace hx196_1 := cb_ HB hx196_1
   replace hx196_2 := cb_ HB hx196_2
   replace hx196_3 := cb_ HB hx196_3
   replace hx196_4 := cb_ HB hx196_4
   replace hx196_5 := cb_ HB hx196_5
   replace hx196_6 := cb_ HB hx196_6
   replace hx196_7 := cb_ HB hx196_7
   replace p196 := eq_true p196
   replace q196 := eq_true q196
   have hcz13 := bc2 BK195.out
   go_wp2
   repeat (go_quiet (fail); try go_wp2)
   go_roundg k1
   case measure => have := HK1.out; omega
   case rel => exact ⟨(wrap64 (x5_1 + 1)), z9_8, H', ⟨by have := HK1.out; omega⟩, ⟨z9_5⟩, ⟨z9_13⟩, ⟨z9_10⟩⟩
def spec_l01In.f (a0 : Int) (a1 : Int) (a2 : Int) : Option (Bool) := if a0 ≥ a1 then (some (decide (a0 ≤ a2))) else (some false)
set_option maxHeartbeats 8000000 in
set_option maxRecDepth 100000 in
theorem spec_l01In.calls (a0 : Int) (a1 : Int) (a2 : Int) (r : Bool) (w : World) (h : spec_l01In.f a0 a1 a2 = some r) :
  Calls Try.prog 102 #[.int .i64 a0, .int .i64 a1, .int .i64 a2] w fun e w' => e = .returned (.bool r) ∧ Drawn0 w w' := by
 have H : (if a0 ≥ a1 then (some (decide (a0 ≤ a2))) else (some false)) = some r := h
 clear h
 by_cases c4 : a0 ≥ a1
 ·
  rw [if_pos c4] at H
  have c4b0 : decide (a1 ≤ a0) = true := decide_eq_true c4
  clear c4
  obtain rfl := Option.some.inj H
  go_enter Try.func102, Try.ntmps102
  go_wp2
  go_ret
  exact ⟨z9_8, z9_9⟩
 rw [if_neg c4] at H
 have c4b0 : decide (a1 ≤ a0) = false := decide_eq_false c4
 clear c4
 obtain rfl := Option.some.inj H
 go_enter Try.func102, Try.ntmps102
 go_wp2
 go_ret
 exact ⟨z9_8, z9_9⟩
def spec_KnowOk.l0 : Nat → List Int → Int → Option (Bool)
  | 0, _, _ => none
  | k + 1, x0, x3 => if x3 < (x0.length : Int) then (if 0 ≤ x3 then ((spec_l01In.f (rd x0 x3) 0 1000).bind fun t198 => (if t198 = true then (spec_KnowOk.l0 k x0 (wrap64 (x3 + 1))) else (some false))) else (none)) else (some ((x0.length : Int) == 3))
def spec_KnowOk.f (k : Nat) (l0 : List Int) : Option (Bool) := spec_KnowOk.l0 k l0 0
set_option maxHeartbeats 8000000 in
set_option maxRecDepth 100000 in
theorem spec_KnowOk.calls (k : Nat) (A0 : Option Addr) (c0 : Nat) (l0 : List Int) (r : Bool) (w : World) (hr0 : Kd.C (Kd.int .i64) w A0 l0.length l0) (hc0 : l0.length ≤ c0) (h : spec_KnowOk.f k l0 = some r) :
  Calls Try.prog 56 #[.slice A0 l0.length c0] w fun e w' => e = .returned (.bool r) ∧ Drawn0 w w' := by
 have HR0 := Aside0.mk hr0
 have HC0 := Aside0.mk hc0
 clear hr0 hc0
 have H : (spec_KnowOk.l0 k l0 0) = some r := h
 clear h
 have H' := Aside0.mk H
 clear H
 go_enter Try.func56, Try.ntmps56
 go_wp2
 go_loopg [3] k (fun kq v3 w' => ∃ (x3_1 : Int), v3 = .int .i64 x3_1 ∧ Aside0 (spec_KnowOk.l0 kq l0 x3_1 = some r) ∧ Aside0 (kq ≤ k) ∧ Drawn0 w w')
 case atStart => exact ⟨(0), z9_8, H', ⟨Nat.le_refl _⟩, z9_9⟩
 case round =>
  clear H'
  obtain ⟨x3_1, rfl, HA, HK1, ⟨m1, rfl⟩⟩ := hrel
  cases gk with
  | zero => exact absurd HA.out (by simp [spec_KnowOk.l0])
  | succ k1 =>
   have H := HA.out
   clear HA
   simp only [spec_KnowOk.l0] at H
   by_cases c2 : x3_1 < (l0.length : Int)
   rotate_left
   ·
    rw [if_neg c2] at H
    have c2b0 : decide (x3_1 < (l0.length : Int)) = false := decide_eq_false c2
    clear c2
    obtain rfl := Option.some.inj H
    go_wp2
    go_ret
    exact ⟨z9_8, z9_9⟩
   rw [if_pos c2] at H
   have c2b0 : decide (x3_1 < (l0.length : Int)) = true := decide_eq_true c2
   clear c2
   by_cases c3 : 0 ≤ x3_1
   rotate_left
   ·
    rw [if_neg c3] at H
    exact absurd H (by simp)
   rw [if_pos c3] at H
   have c3b0 : decide (0 ≤ x3_1) = true := decide_eq_true c3
   clear c3
   replace H := Option.bind_eq_some_iff.mp H
   obtain ⟨t198, A40, H⟩ := H
   (try dsimp only at H)
   have A4 := Aside0.mk A40
   clear A40
   by_cases c5 : t198 = true
   rotate_left
   ·
    replace c5 := Bool.eq_false_iff.mpr c5
    subst c5
    rw [if_neg (show ¬ (false = true) by decide)] at H
    obtain rfl := Option.some.inj H
    have p197 : 0 ≤ (x3_1 : Int) := of_decide_eq_true z9_6
    have q197 : x3_1 < (l0.length : Int) := of_decide_eq_true z9_6
    obtain ⟨ad197, e197, hx197_0⟩ := Kd.at_int HR0.out x3_1 p197 q197
    cases e197
    replace p197 := eq_true p197
    replace q197 := eq_true q197
    go_wp2_with (first | ((with_reducible refine gate_callee (f := 102) rfl ?_); refine goesL_ (some 14) rfl rfl Try.func102 z9_12 rfl #[.int .i64 (rd l0 x3_1), .int .i64 0, .int .i64 1000] rfl z9_2 ?_; (with_reducible refine (spec_l01In.calls (rd l0 x3_1) 0 1000 false _ A4.out).mono ?_); rintro e w' ⟨rfl, ⟨nd, rfl⟩⟩; refine ⟨_, rfl, ?_⟩))
    go_ret
    exact ⟨z9_8, z9_9⟩
   subst c5
   rw [if_pos rfl] at H
   have H' := Aside0.mk H
   clear H
   have p197 : 0 ≤ (x3_1 : Int) := of_decide_eq_true z9_6
   have q197 : x3_1 < (l0.length : Int) := of_decide_eq_true z9_6
   obtain ⟨ad197, e197, hx197_0⟩ := Kd.at_int HR0.out x3_1 p197 q197
   cases e197
   replace p197 := eq_true p197
   replace q197 := eq_true q197
   go_wp2_with (first | ((with_reducible refine gate_callee (f := 102) rfl ?_); refine goesL_ (some 14) rfl rfl Try.func102 z9_12 rfl #[.int .i64 (rd l0 x3_1), .int .i64 0, .int .i64 1000] rfl z9_2 ?_; (with_reducible refine (spec_l01In.calls (rd l0 x3_1) 0 1000 true _ A4.out).mono ?_); rintro e w' ⟨rfl, ⟨nd, rfl⟩⟩; refine ⟨_, rfl, ?_⟩))
   go_roundg k1
   case measure => have := HK1.out; omega
   case rel => exact ⟨(wrap64 (x3_1 + 1)), z9_8, H', ⟨by have := HK1.out; omega⟩, z9_9⟩
def spec_NameOk.l0 : Nat → ByteArray → Int → Option (Bool)
  | 0, _, _ => none
  | k + 1, x0, x3 => if x3 < (x0.size : Int) then (if 0 ≤ x3 then (if (bt x0 x3) < 97 then (some false) else (if (bt x0 x3) > 122 then (some false) else (spec_NameOk.l0 k x0 (wrap64 (x3 + 1))))) else (none)) else ((spec_l01In.f (x0.size : Int) 1 8).bind fun t199 => (some t199))
def spec_NameOk.f (k : Nat) (a0 : ByteArray) : Option (Bool) := spec_NameOk.l0 k a0 0
set_option maxHeartbeats 8000000 in
set_option maxRecDepth 100000 in
theorem spec_NameOk.calls (k : Nat) (a0 : ByteArray) (r : Bool) (w : World) (h : spec_NameOk.f k a0 = some r) :
  Calls Try.prog 103 #[.string a0] w fun e w' => e = .returned (.bool r) ∧ Drawn0 w w' := by
 have H : (spec_NameOk.l0 k a0 0) = some r := h
 clear h
 have H' := Aside0.mk H
 clear H
 go_enter Try.func103, Try.ntmps103
 go_wp2
 go_loopg [3] k (fun kq v3 w' => ∃ (x3_1 : Int), v3 = .int .i64 x3_1 ∧ Aside0 (spec_NameOk.l0 kq a0 x3_1 = some r) ∧ Aside0 (kq ≤ k) ∧ Drawn0 w w')
 case atStart => exact ⟨(0), z9_8, H', ⟨Nat.le_refl _⟩, z9_9⟩
 case round =>
  clear H'
  try clear c1
  obtain ⟨x3_1, rfl, HA, HK1, ⟨m1, rfl⟩⟩ := hrel
  cases gk with
  | zero => exact absurd HA.out (by simp [spec_NameOk.l0])
  | succ k1 =>
   have H := HA.out
   clear HA
   simp only [spec_NameOk.l0] at H
   by_cases c2 : x3_1 < (a0.size : Int)
   rotate_left
   ·
    rw [if_neg c2] at H
    have c2b0 : decide (x3_1 < (a0.size : Int)) = false := decide_eq_false c2
    clear c2
    replace H := Option.bind_eq_some_iff.mp H
    obtain ⟨t199, A80, H⟩ := H
    (try dsimp only at H)
    have A8 := Aside0.mk A80
    clear A80
    obtain rfl := Option.some.inj H
    go_wp2_with (first | ((with_reducible refine gate_callee (f := 102) rfl ?_); refine goesL_ (some 22) rfl rfl Try.func102 z9_12 rfl #[.int .i64 (a0.size : Int), .int .i64 1, .int .i64 8] rfl z9_2 ?_; (with_reducible refine (spec_l01In.calls (a0.size : Int) 1 8 t199 _ A8.out).mono ?_); rintro e w' ⟨rfl, ⟨nd, rfl⟩⟩; refine ⟨_, rfl, ?_⟩))
    go_ret
    exact ⟨z9_8, z9_9⟩
   rw [if_pos c2] at H
   have c2b0 : decide (x3_1 < (a0.size : Int)) = true := decide_eq_true c2
   clear c2
   by_cases c3 : 0 ≤ x3_1
   rotate_left
   ·
    rw [if_neg c3] at H
    exact absurd H (by simp)
   rw [if_pos c3] at H
   have c3b0 : decide (0 ≤ x3_1) = true := decide_eq_true c3
   clear c3
   by_cases c5 : (bt a0 x3_1) < 97
   ·
    rw [if_pos c5] at H
    have c5b0 : decide ((bt a0 x3_1) < 97) = true := decide_eq_true c5
    clear c5
    obtain rfl := Option.some.inj H
    have p4 : 0 ≤ (x3_1 : Int) := of_decide_eq_true z9_6
    have q4 : x3_1 < (a0.size : Int) := of_decide_eq_true z9_6
    have hx4 := bt_at a0 x3_1
    replace p4 := eq_true p4
    replace q4 := eq_true q4
    go_wp2
    go_ret
    exact ⟨z9_8, z9_9⟩
   rw [if_neg c5] at H
   have c5b0 : decide ((bt a0 x3_1) < 97) = false := decide_eq_false c5
   clear c5
   by_cases c7 : (bt a0 x3_1) > 122
   ·
    rw [if_pos c7] at H
    have c7b0 : decide (122 < (bt a0 x3_1)) = true := decide_eq_true c7
    clear c7
    obtain rfl := Option.some.inj H
    have p4 : 0 ≤ (x3_1 : Int) := of_decide_eq_true z9_6
    have q4 : x3_1 < (a0.size : Int) := of_decide_eq_true z9_6
    have hx4 := bt_at a0 x3_1
    replace p4 := eq_true p4
    replace q4 := eq_true q4
    have p6 : 0 ≤ (x3_1 : Int) := of_decide_eq_true z9_6
    have q6 : x3_1 < (a0.size : Int) := of_decide_eq_true z9_6
    have hx6 := bt_at a0 x3_1
    replace p6 := eq_true p6
    replace q6 := eq_true q6
    go_wp2
    go_ret
    exact ⟨z9_8, z9_9⟩
   rw [if_neg c7] at H
   have c7b0 : decide (122 < (bt a0 x3_1)) = false := decide_eq_false c7
   clear c7
   have H' := Aside0.mk H
   clear H
   have p4 : 0 ≤ (x3_1 : Int) := of_decide_eq_true z9_6
   have q4 : x3_1 < (a0.size : Int) := of_decide_eq_true z9_6
   have hx4 := bt_at a0 x3_1
   replace p4 := eq_true p4
   replace q4 := eq_true q4
   have p6 : 0 ≤ (x3_1 : Int) := of_decide_eq_true z9_6
   have q6 : x3_1 < (a0.size : Int) := of_decide_eq_true z9_6
   have hx6 := bt_at a0 x3_1
   replace p6 := eq_true p6
   replace q6 := eq_true q6
   go_wp2
   go_roundg k1
   case measure => have := HK1.out; omega
   case rel => exact ⟨(wrap64 (x3_1 + 1)), z9_8, H', ⟨by have := HK1.out; omega⟩, z9_9⟩
end Go.Proofs.Ytbanogkoaplcdaa.QSe
