/- Parts of the proof of FnExactDoAll, one behind the other. No condition. -/
import Derived.Test.YtbanogkoaplcdaaGreatVFnExactDoAllM12
import Derived.Test.YtbanogkoaplcdaaGreatVFnExactDoAllM13
import Derived.Test.YtbanogkoaplcdaaGreatVFnExactDoAllM14
namespace Go.Proofs.YtbanogkoaplcdaaGreat.QDa
open Go.RowKit Go.Proofs.YtbanogkoaplcdaaGreat.Short Go.Proofs.YtbanogkoaplcdaaGreatW.PrintWords Go.Proofs.YtbanogkoaplcdaaGreatW.PrintLast Go.Proofs.YtbanogkoaplcdaaGreatW.PrintMore
attribute [local go_sem] max2_int min2_int max_two min_two max_three min_three max_four min_four   -- for this text's walks alone
set_option linter.unusedVariables false
set_option linter.unusedSimpArgs false
theorem z38_5 {P : Prop} (h : P := by kernel_rfl) : P := h
theorem z38_4 {P : Prop} (h : P := by first | rfl | (simp [errW_none, errW_some] <;> rfl) | (simp [*, errW_none, errW_some] <;> rfl)) : P := h
theorem z38_3 {P : Prop} (h : P := by (with_reducible repeat (first | refine blk_drewN ?_ _ | refine blk_drew ?_ | refine blk_alloc ?_ _)); exact BK937.out) : P := h
theorem z38_2 {P : Prop} (h : P := by first | rfl | (simp only [List.map_toArray, List.map_cons, List.map_nil]; first | done | rfl)) : P := h
theorem z38_1 {P : Prop} (h : P := by repeat (first | (with_reducible first | exact HB.out | apply below_alloc | apply pw_below_drewN | apply below_drew1) | exact HB.out)) : P := h
theorem z38_0 {P : Prop} (h : P := by repeat (first | (with_reducible first | exact HB.out | apply below_alloc | apply pw_below_drewN | apply below_drew1 | refine below_set ?_ GE937.out) | exact HB.out)) : P := h
theorem z38_6 {P : Prop} (h : P := by repeat (first | exact (Kd.C_below HR0_0.out HB.out) | (with_reducible refine Kd.C_alloc ?_ _) | (with_reducible refine Kd.C_drewN ?_ _) | (with_reducible refine Kd.C_drew ?_))) : P := h
theorem z38_7 {P : Prop} (h : P := by repeat (first | exact (Kd.C_below HR0_1.out z38_0) | (with_reducible refine Kd.C_alloc ?_ _) | (with_reducible refine Kd.C_drewN ?_ _) | (with_reducible refine Kd.C_drew ?_))) : P := h
theorem z38_8 {P : Prop} (h : P := by repeat (first | exact (Kd.C_below HR0_2.out HB.out) | (with_reducible refine Kd.C_alloc ?_ _) | (with_reducible refine Kd.C_drewN ?_ _) | (with_reducible refine Kd.C_drew ?_))) : P := h
theorem z38_9 {P : Prop} (h : P := by repeat (first | exact (Kd.C_below HR0_3.out HB.out) | (with_reducible refine Kd.C_alloc ?_ _) | (with_reducible refine Kd.C_drewN ?_ _) | (with_reducible refine Kd.C_drew ?_))) : P := h
def laws_heldState.f (k : Nat) (l0_0 : List Int) (l0_1 : List (S90)) (l0_2 : List (S93)) (l0_3 : List (S96)) (a1 : Int) : Option (Int) := (laws_heldIntS.f k l0_0 a1).bind fun t938 => (if t938 < 0 then (some (-1)) else ((laws_heldTallyS.f k l0_1 t938).bind fun t939 => (if t939 < 0 then (some (-1)) else ((laws_heldLiveS.f k l0_2 t939).bind fun t940 => (if t940 < 0 then (some (-1)) else ((laws_heldCellS.f k l0_3 t940).bind fun t941 => (if t941 < 0 then (some (-1)) else (some t941))))))))
set_option maxHeartbeats 8000000 in
set_option maxRecDepth 100000 in
theorem laws_heldState.calls (k : Nat) (A0_0 : Option Addr) (c0_0 : Nat) (l0_0 : List Int) (A0_1 : Option Addr) (c0_1 : Nat) (l0_1 : List (S90)) (A0_2 : Option Addr) (c0_2 : Nat) (l0_2 : List (S93)) (A0_3 : Option Addr) (c0_3 : Nat) (l0_3 : List (S96)) (a1 : Int) (r : Int) (w : World) (hr0_0 : Kd.C (Kd.int .i64) w A0_0 l0_0.length l0_0) (hc0_0 : l0_0.length ≤ c0_0) (hr0_1 : Kd.C k90 w A0_1 l0_1.length l0_1) (hc0_1 : l0_1.length ≤ c0_1) (hr0_2 : Kd.C k93 w A0_2 l0_2.length l0_2) (hc0_2 : l0_2.length ≤ c0_2) (hr0_3 : Kd.C k96 w A0_3 l0_3.length l0_3) (hc0_3 : l0_3.length ≤ c0_3) (h : laws_heldState.f k l0_0 l0_1 l0_2 l0_3 a1 = some r) :
  Calls Tryz.prog 16 #[.agg #[.slice A0_0 l0_0.length c0_0, .slice A0_1 l0_1.length c0_1, .slice A0_2 l0_2.length c0_2, .slice A0_3 l0_3.length c0_3], .int .i64 a1] w fun e w' => e = .returned (.int .i64 r) ∧ Below w.heap.size w w' := by
 have hu35 := Tryz.underlying35
 have HR0_0 := Aside0.mk hr0_0
 have HC0_0 := Aside0.mk hc0_0
 clear hr0_0 hc0_0
 have HR0_1 := Aside0.mk hr0_1
 have HC0_1 := Aside0.mk hc0_1
 clear hr0_1 hc0_1
 have HR0_2 := Aside0.mk hr0_2
 have HC0_2 := Aside0.mk hc0_2
 clear hr0_2 hc0_2
 have HR0_3 := Aside0.mk hr0_3
 have HC0_3 := Aside0.mk hc0_3
 clear hr0_3 hc0_3
 have HB := Aside0.mk (Below.refl w.heap.size w)
 have H := h
 unfold laws_heldState.f at H
 clear h
 replace H := Option.bind_eq_some_iff.mp H
 obtain ⟨t938, A30, H⟩ := H
 (try dsimp only at H)
 have A3 := Aside0.mk A30
 clear A30
 by_cases c4 : t938 < 0
 ·
  rw [if_pos c4] at H
  have c4b0 : decide (t938 < 0) = true := decide_eq_true c4
  clear c4
  obtain rfl := Option.some.inj H
  go_enter Tryz.func16, Tryz.ntmps16
  go_wp2_with (first | ((with_reducible refine gate_dst (N := 2) rfl ?_); refine box_event ?hg (N := 2) ?hd (cs := #[.slice A0_0 l0_0.length c0_0, .slice A0_1 l0_1.length c0_1, .slice A0_2 l0_2.length c0_2, .slice A0_3 l0_3.length c0_3]) (t := 35) ?hr ?_; (case hd => rfl); (case hg => rfl); (case hr => first | (go_simp; done) | (go_simp; rfl)); intro gb937 hg w5 hbox hb; have BK937 := Aside0.mk (hbox); have GW937 := gw_ w z38_1 hg; have GE937 := gw_ w z38_1 hg; replace HB := Aside0.mk (below_step z38_1 hb); clear hb hbox hg; have hcz6 := bc4 BK937.out) | ((with_reducible refine gate_callee (f := 17) rfl ?_); refine goesL_ (some 8) rfl rfl Tryz.func17 z38_5 rfl #[.slice A0_0 l0_0.length c0_0, .int .i64 a1] rfl z38_2 ?_; (with_reducible refine (laws_heldIntS.calls k _ _ l0_0 a1 t938 _ ?side1 ?side2 A3.out).mono ?_); (case side1 => exact z38_6); (case side2 => exact HC0_0.out); rintro e w' ⟨rfl, ⟨nd, rfl⟩⟩; refine ⟨_, rfl, ?_⟩))
  go_ret
  exact ⟨z38_4, z38_0⟩
 rw [if_neg c4] at H
 have c4b0 : decide (t938 < 0) = false := decide_eq_false c4
 clear c4
 replace H := Option.bind_eq_some_iff.mp H
 obtain ⟨t939, A70, H⟩ := H
 (try dsimp only at H)
 have A7 := Aside0.mk A70
 clear A70
 by_cases c8 : t939 < 0
 ·
  rw [if_pos c8] at H
  have c8b0 : decide (t939 < 0) = true := decide_eq_true c8
  clear c8
  obtain rfl := Option.some.inj H
  go_enter Tryz.func16, Tryz.ntmps16
  go_wp2_with (first | ((with_reducible refine gate_dst (N := 2) rfl ?_); refine box_event ?hg (N := 2) ?hd (cs := #[.slice A0_0 l0_0.length c0_0, .slice A0_1 l0_1.length c0_1, .slice A0_2 l0_2.length c0_2, .slice A0_3 l0_3.length c0_3]) (t := 35) ?hr ?_; (case hd => rfl); (case hg => rfl); (case hr => first | (go_simp; done) | (go_simp; rfl)); intro gb937 hg w9 hbox hb; have BK937 := Aside0.mk (hbox); have GW937 := gw_ w z38_1 hg; have GE937 := gw_ w z38_1 hg; replace HB := Aside0.mk (below_step z38_1 hb); clear hb hbox hg; have hcz10 := bc4 BK937.out) | ((with_reducible refine gate_callee (f := 17) rfl ?_); refine goesL_ (some 8) rfl rfl Tryz.func17 z38_5 rfl #[.slice A0_0 l0_0.length c0_0, .int .i64 a1] rfl z38_2 ?_; (with_reducible refine (laws_heldIntS.calls k _ _ l0_0 a1 t938 _ ?side1 ?side2 A3.out).mono ?_); (case side1 => exact z38_6); (case side2 => exact HC0_0.out); rintro e w' ⟨rfl, ⟨nd, rfl⟩⟩; refine ⟨_, rfl, ?_⟩) | ((with_reducible refine gate_callee (f := 40) rfl ?_); refine goesL_ (some 14) rfl rfl Tryz.func40 z38_5 rfl #[.slice A0_1 l0_1.length c0_1, .int .i64 t938] rfl z38_2 ?_; (with_reducible refine (laws_heldTallyS.calls k _ _ l0_1 t938 t939 _ ?side1 ?side2 A7.out).mono ?_); (case side1 => exact z38_7); (case side2 => exact HC0_1.out); rintro e w11 ⟨rfl, hb⟩; refine ⟨_, rfl, ?_⟩; replace BK937 := bb_ BK937 z38_3 hb; replace HB := Aside0.mk (below_step z38_0 hb)))
  go_ret
  exact ⟨z38_4, z38_0⟩
 rw [if_neg c8] at H
 have c8b0 : decide (t939 < 0) = false := decide_eq_false c8
 clear c8
 replace H := Option.bind_eq_some_iff.mp H
 obtain ⟨t940, A120, H⟩ := H
 (try dsimp only at H)
 have A12 := Aside0.mk A120
 clear A120
 by_cases c13 : t940 < 0
 ·
  rw [if_pos c13] at H
  have c13b0 : decide (t940 < 0) = true := decide_eq_true c13
  clear c13
  obtain rfl := Option.some.inj H
  go_enter Tryz.func16, Tryz.ntmps16
  go_wp2_with (first | ((with_reducible refine gate_dst (N := 2) rfl ?_); refine box_event ?hg (N := 2) ?hd (cs := #[.slice A0_0 l0_0.length c0_0, .slice A0_1 l0_1.length c0_1, .slice A0_2 l0_2.length c0_2, .slice A0_3 l0_3.length c0_3]) (t := 35) ?hr ?_; (case hd => rfl); (case hg => rfl); (case hr => first | (go_simp; done) | (go_simp; rfl)); intro gb937 hg w14 hbox hb; have BK937 := Aside0.mk (hbox); have GW937 := gw_ w z38_1 hg; have GE937 := gw_ w z38_1 hg; replace HB := Aside0.mk (below_step z38_1 hb); clear hb hbox hg; have hcz15 := bc4 BK937.out) | ((with_reducible refine gate_callee (f := 17) rfl ?_); refine goesL_ (some 8) rfl rfl Tryz.func17 z38_5 rfl #[.slice A0_0 l0_0.length c0_0, .int .i64 a1] rfl z38_2 ?_; (with_reducible refine (laws_heldIntS.calls k _ _ l0_0 a1 t938 _ ?side1 ?side2 A3.out).mono ?_); (case side1 => exact z38_6); (case side2 => exact HC0_0.out); rintro e w' ⟨rfl, ⟨nd, rfl⟩⟩; refine ⟨_, rfl, ?_⟩) | ((with_reducible refine gate_callee (f := 40) rfl ?_); refine goesL_ (some 14) rfl rfl Tryz.func40 z38_5 rfl #[.slice A0_1 l0_1.length c0_1, .int .i64 t938] rfl z38_2 ?_; (with_reducible refine (laws_heldTallyS.calls k _ _ l0_1 t938 t939 _ ?side1 ?side2 A7.out).mono ?_); (case side1 => exact z38_7); (case side2 => exact HC0_1.out); rintro e w16 ⟨rfl, hb⟩; refine ⟨_, rfl, ?_⟩; replace BK937 := bb_ BK937 z38_3 hb; replace HB := Aside0.mk (below_step z38_0 hb); have hcz17 := bc4 BK937.out) | ((with_reducible refine gate_callee (f := 41) rfl ?_); refine goesL_ (some 20) rfl rfl Tryz.func41 z38_5 rfl #[.slice A0_2 l0_2.length c0_2, .int .i64 t939] rfl z38_2 ?_; (with_reducible refine (laws_heldLiveS.calls k _ _ l0_2 t939 t940 _ ?side1 ?side2 A12.out).mono ?_); (case side1 => exact z38_8); (case side2 => exact HC0_2.out); rintro e w18 ⟨rfl, hb⟩; refine ⟨_, rfl, ?_⟩; replace BK937 := bb_ BK937 z38_3 hb; replace HB := Aside0.mk (below_step z38_0 hb)))
  go_ret
  exact ⟨z38_4, z38_0⟩
 rw [if_neg c13] at H
 have c13b0 : decide (t940 < 0) = false := decide_eq_false c13
 clear c13
 replace H := Option.bind_eq_some_iff.mp H
 obtain ⟨t941, A190, H⟩ := H
 (try dsimp only at H)
 have A19 := Aside0.mk A190
 clear A190
 by_cases c20 : t941 < 0
 ·
  rw [if_pos c20] at H
  have c20b0 : decide (t941 < 0) = true := decide_eq_true c20
  clear c20
  obtain rfl := Option.some.inj H
  go_enter Tryz.func16, Tryz.ntmps16
  go_wp2_with (first | ((with_reducible refine gate_dst (N := 2) rfl ?_); refine box_event ?hg (N := 2) ?hd (cs := #[.slice A0_0 l0_0.length c0_0, .slice A0_1 l0_1.length c0_1, .slice A0_2 l0_2.length c0_2, .slice A0_3 l0_3.length c0_3]) (t := 35) ?hr ?_; (case hd => rfl); (case hg => rfl); (case hr => first | (go_simp; done) | (go_simp; rfl)); intro gb937 hg w21 hbox hb; have BK937 := Aside0.mk (hbox); have GW937 := gw_ w z38_1 hg; have GE937 := gw_ w z38_1 hg; replace HB := Aside0.mk (below_step z38_1 hb); clear hb hbox hg; have hcz22 := bc4 BK937.out) | ((with_reducible refine gate_callee (f := 17) rfl ?_); refine goesL_ (some 8) rfl rfl Tryz.func17 z38_5 rfl #[.slice A0_0 l0_0.length c0_0, .int .i64 a1] rfl z38_2 ?_; (with_reducible refine (laws_heldIntS.calls k _ _ l0_0 a1 t938 _ ?side1 ?side2 A3.out).mono ?_); (case side1 => exact z38_6); (case side2 => exact HC0_0.out); rintro e w' ⟨rfl, ⟨nd, rfl⟩⟩; refine ⟨_, rfl, ?_⟩) | ((with_reducible refine gate_callee (f := 40) rfl ?_); refine goesL_ (some 14) rfl rfl Tryz.func40 z38_5 rfl #[.slice A0_1 l0_1.length c0_1, .int .i64 t938] rfl z38_2 ?_; (with_reducible refine (laws_heldTallyS.calls k _ _ l0_1 t938 t939 _ ?side1 ?side2 A7.out).mono ?_); (case side1 => exact z38_7); (case side2 => exact HC0_1.out); rintro e w23 ⟨rfl, hb⟩; refine ⟨_, rfl, ?_⟩; replace BK937 := bb_ BK937 z38_3 hb; replace HB := Aside0.mk (below_step z38_0 hb); have hcz24 := bc4 BK937.out) | ((with_reducible refine gate_callee (f := 41) rfl ?_); refine goesL_ (some 20) rfl rfl Tryz.func41 z38_5 rfl #[.slice A0_2 l0_2.length c0_2, .int .i64 t939] rfl z38_2 ?_; (with_reducible refine (laws_heldLiveS.calls k _ _ l0_2 t939 t940 _ ?side1 ?side2 A12.out).mono ?_); (case side1 => exact z38_8); (case side2 => exact HC0_2.out); rintro e w25 ⟨rfl, hb⟩; refine ⟨_, rfl, ?_⟩; replace BK937 := bb_ BK937 z38_3 hb; replace HB := Aside0.mk (below_step z38_0 hb); have hcz26 := bc4 BK937.out) | ((with_reducible refine gate_callee (f := 42) rfl ?_); refine goesL_ (some 26) rfl rfl Tryz.func42 z38_5 rfl #[.slice A0_3 l0_3.length c0_3, .int .i64 t940] rfl z38_2 ?_; (with_reducible refine (laws_heldCellS.calls k _ _ l0_3 t940 t941 _ ?side1 ?side2 A19.out).mono ?_); (case side1 => exact z38_9); (case side2 => exact HC0_3.out); rintro e w27 ⟨rfl, hb⟩; refine ⟨_, rfl, ?_⟩; replace BK937 := bb_ BK937 z38_3 hb; replace HB := Aside0.mk (below_step z38_0 hb)))
  go_ret
  exact ⟨z38_4, z38_0⟩
 rw [if_neg c20] at H
 have c20b0 : decide (t941 < 0) = false := decide_eq_false c20
 clear c20
 obtain rfl := Option.some.inj H
 go_enter Tryz.func16, Tryz.ntmps16
 go_wp2_with (first | ((with_reducible refine gate_dst (N := 2) rfl ?_); refine box_event ?hg (N := 2) ?hd (cs := #[.slice A0_0 l0_0.length c0_0, .slice A0_1 l0_1.length c0_1, .slice A0_2 l0_2.length c0_2, .slice A0_3 l0_3.length c0_3]) (t := 35) ?hr ?_; (case hd => rfl); (case hg => rfl); (case hr => first | (go_simp; done) | (go_simp; rfl)); intro gb937 hg w28 hbox hb; have BK937 := Aside0.mk (hbox); have GW937 := gw_ w z38_1 hg; have GE937 := gw_ w z38_1 hg; replace HB := Aside0.mk (below_step z38_1 hb); clear hb hbox hg; have hcz29 := bc4 BK937.out) | ((with_reducible refine gate_callee (f := 17) rfl ?_); refine goesL_ (some 8) rfl rfl Tryz.func17 z38_5 rfl #[.slice A0_0 l0_0.length c0_0, .int .i64 a1] rfl z38_2 ?_; (with_reducible refine (laws_heldIntS.calls k _ _ l0_0 a1 t938 _ ?side1 ?side2 A3.out).mono ?_); (case side1 => exact z38_6); (case side2 => exact HC0_0.out); rintro e w' ⟨rfl, ⟨nd, rfl⟩⟩; refine ⟨_, rfl, ?_⟩) | ((with_reducible refine gate_callee (f := 40) rfl ?_); refine goesL_ (some 14) rfl rfl Tryz.func40 z38_5 rfl #[.slice A0_1 l0_1.length c0_1, .int .i64 t938] rfl z38_2 ?_; (with_reducible refine (laws_heldTallyS.calls k _ _ l0_1 t938 t939 _ ?side1 ?side2 A7.out).mono ?_); (case side1 => exact z38_7); (case side2 => exact HC0_1.out); rintro e w30 ⟨rfl, hb⟩; refine ⟨_, rfl, ?_⟩; replace BK937 := bb_ BK937 z38_3 hb; replace HB := Aside0.mk (below_step z38_0 hb); have hcz31 := bc4 BK937.out) | ((with_reducible refine gate_callee (f := 41) rfl ?_); refine goesL_ (some 20) rfl rfl Tryz.func41 z38_5 rfl #[.slice A0_2 l0_2.length c0_2, .int .i64 t939] rfl z38_2 ?_; (with_reducible refine (laws_heldLiveS.calls k _ _ l0_2 t939 t940 _ ?side1 ?side2 A12.out).mono ?_); (case side1 => exact z38_8); (case side2 => exact HC0_2.out); rintro e w32 ⟨rfl, hb⟩; refine ⟨_, rfl, ?_⟩; replace BK937 := bb_ BK937 z38_3 hb; replace HB := Aside0.mk (below_step z38_0 hb); have hcz33 := bc4 BK937.out) | ((with_reducible refine gate_callee (f := 42) rfl ?_); refine goesL_ (some 26) rfl rfl Tryz.func42 z38_5 rfl #[.slice A0_3 l0_3.length c0_3, .int .i64 t940] rfl z38_2 ?_; (with_reducible refine (laws_heldCellS.calls k _ _ l0_3 t940 t941 _ ?side1 ?side2 A19.out).mono ?_); (case side1 => exact z38_9); (case side2 => exact HC0_3.out); rintro e w34 ⟨rfl, hb⟩; refine ⟨_, rfl, ?_⟩; replace BK937 := bb_ BK937 z38_3 hb; replace HB := Aside0.mk (below_step z38_0 hb)))
 go_ret
 exact ⟨z38_4, z38_0⟩
end Go.Proofs.YtbanogkoaplcdaaGreat.QDa
