/- Parts of the proof of FnExactDoAll, one behind the other. No condition. -/
import Derived.Test.YtbanogkoaplcdaaGreatVFnExactDoAllM34
import Derived.Test.YtbanogkoaplcdaaGreatVFnExactDoAllM36
import Derived.Test.YtbanogkoaplcdaaGreatVFnExactDoAllM38
import Derived.Test.YtbanogkoaplcdaaGreatVFnExactDoAllM39
namespace Go.Proofs.YtbanogkoaplcdaaGreat.QDa
open Go.RowKit Go.Proofs.YtbanogkoaplcdaaGreat.Short Go.Proofs.YtbanogkoaplcdaaGreatW.PrintWords Go.Proofs.YtbanogkoaplcdaaGreatW.PrintLast Go.Proofs.YtbanogkoaplcdaaGreatW.PrintMore
attribute [local go_sem] max2_int min2_int max_two min_two max_three min_three max_four min_four   -- for this text's walks alone
set_option linter.unusedVariables false
set_option linter.unusedSimpArgs false
theorem z23_6 {P : Prop} (h : P := by first | rfl | (simp [errW_none, errW_some] <;> rfl) | (simp [*, errW_none, errW_some] <;> rfl)) : P := h
theorem z23_5 {P : Prop} (h : P := by first | rfl | (simp only [List.map_toArray, List.map_cons, List.map_nil]; first | done | rfl)) : P := h
theorem z23_4 {P : Prop} (h : P := by first | rfl | (simp; done) | (simp [*]; done)) : P := h
theorem z23_3 {P : Prop} (h : P := by repeat (first | exact Drawn0.refl _ | apply Drawn0.step)) : P := h
theorem z23_2 {P : Prop} (h : P := by (with_reducible repeat (first | refine blk_drewN ?_ _ | refine blk_drew ?_ | refine blk_alloc ?_ _)); exact BK516.out) : P := h
theorem z23_1 {P : Prop} (h : P := by repeat (first | (with_reducible first | exact HB.out | apply below_alloc | apply pw_below_drewN | apply below_drew1) | exact HB.out)) : P := h
theorem z23_0 {P : Prop} (h : P := by repeat (first | (with_reducible first | exact HB.out | apply below_alloc | apply pw_below_drewN | apply below_drew1 | refine below_set ?_ GE516.out) | exact HB.out)) : P := h
theorem z23_7 {P : Prop} (h : P := by repeat (first | exact (Kd.C_below HR0_0.out HB.out) | (with_reducible refine Kd.C_alloc ?_ _) | (with_reducible refine Kd.C_drewN ?_ _) | (with_reducible refine Kd.C_drew ?_))) : P := h
theorem z23_8 {P : Prop} (h : P := by repeat (first | exact (Kd.C_below HR0_1.out z23_0) | (with_reducible refine Kd.C_alloc ?_ _) | (with_reducible refine Kd.C_drewN ?_ _) | (with_reducible refine Kd.C_drew ?_))) : P := h
theorem z23_9 {P : Prop} (h : P := by repeat (first | exact (Kd.C_below HR0_2.out HB.out) | (with_reducible refine Kd.C_alloc ?_ _) | (with_reducible refine Kd.C_drewN ?_ _) | (with_reducible refine Kd.C_drew ?_))) : P := h
theorem z23_10 {P : Prop} (h : P := by repeat (first | exact (Kd.C_below HR0_3.out HB.out) | (with_reducible refine Kd.C_alloc ?_ _) | (with_reducible refine Kd.C_drewN ?_ _) | (with_reducible refine Kd.C_drew ?_))) : P := h
def impl_StateOk.f (k : Nat) (l0_0 : List Int) (l0_1 : List (S90)) (l0_2 : List (S93)) (l0_3 : List (S96)) : Option (Bool) := (impl_KnowOk.f k l0_0).bind fun t517 => (if t517 = true then ((impl_talliesOk.f k l0_1).bind fun t518 => (if t518 = true then ((impl_livesOk.f k l0_2 l0_0).bind fun t519 => (if t519 = true then ((impl_cellsOk.f k l0_3 l0_0).bind fun t520 => (if t520 = true then ((impl_refsOk.f l0_3).bind fun t521 => (some t521)) else (some false))) else (some false))) else (some false))) else (some false))
set_option maxHeartbeats 8000000 in
set_option maxRecDepth 100000 in
theorem impl_StateOk.calls (k : Nat) (A0_0 : Option Addr) (c0_0 : Nat) (l0_0 : List Int) (A0_1 : Option Addr) (c0_1 : Nat) (l0_1 : List (S90)) (A0_2 : Option Addr) (c0_2 : Nat) (l0_2 : List (S93)) (A0_3 : Option Addr) (c0_3 : Nat) (l0_3 : List (S96)) (r : Bool) (w : World) (hr0_0 : Kd.C (Kd.int .i64) w A0_0 l0_0.length l0_0) (hc0_0 : l0_0.length ≤ c0_0) (hr0_1 : Kd.C k90 w A0_1 l0_1.length l0_1) (hc0_1 : l0_1.length ≤ c0_1) (hr0_2 : Kd.C k93 w A0_2 l0_2.length l0_2) (hc0_2 : l0_2.length ≤ c0_2) (hr0_3 : Kd.C k96 w A0_3 l0_3.length l0_3) (hc0_3 : l0_3.length ≤ c0_3) (h : impl_StateOk.f k l0_0 l0_1 l0_2 l0_3 = some r) :
  Calls Tryz.prog 57 #[.agg #[.slice A0_0 l0_0.length c0_0, .slice A0_1 l0_1.length c0_1, .slice A0_2 l0_2.length c0_2, .slice A0_3 l0_3.length c0_3]] w fun e w' => e = .returned (.bool r) ∧ Below w.heap.size w w' := by
 have hu35 := Tryz.underlying35
 have HR0_0 := Aside0.mk hr0_0
 have HC0_0 := Aside0.mk hc0_0
 clear hr0_0 hc0_0
 have HR0_1 := Aside0.mk hr0_1
 have HC0_1 := Aside0.mk hc0_1
 clear hr0_1 hc0_1
 have HR0_2 := Aside0.mk hr0_2
 have HC0_2 := Aside0.mk hc0_2
 clear hr0_2 hc0_2
 have HR0_3 := Aside0.mk hr0_3
 have HC0_3 := Aside0.mk hc0_3
 clear hr0_3 hc0_3
 have HB := Aside0.mk (Below.refl w.heap.size w)
 have H := h
 unfold impl_StateOk.f at H
 clear h
 replace H := Option.bind_eq_some_iff.mp H
 obtain ⟨t517, A20, H⟩ := H
 (try dsimp only at H)
 have A2 := Aside0.mk A20
 clear A20
 by_cases c3 : t517 = true
 rotate_left
 ·
  replace c3 := Bool.eq_false_iff.mpr c3
  subst c3
  rw [if_neg (show ¬ (false = true) by decide)] at H
  obtain rfl := Option.some.inj H
  go_enter Tryz.func57, Tryz.ntmps57
  go_wp2_with (first | ((with_reducible refine gate_dst (N := 1) rfl ?_); refine box_event ?hg (N := 1) ?hd (cs := #[.slice A0_0 l0_0.length c0_0, .slice A0_1 l0_1.length c0_1, .slice A0_2 l0_2.length c0_2, .slice A0_3 l0_3.length c0_3]) (t := 35) ?hr ?_; (case hd => rfl); (case hg => rfl); (case hr => first | (go_simp; done) | (go_simp; rfl)); intro gb516 hg w35 hbox hb; have BK516 := Aside0.mk (hbox); have GW516 := gw_ w z23_1 hg; have GE516 := gw_ w z23_1 hg; replace HB := Aside0.mk (below_step z23_1 hb); clear hb hbox hg; have hcz36 := bc4 BK516.out) | ((with_reducible refine gate_callee (f := 83) rfl ?_); refine goesL_ (some 5) rfl rfl Tryz.func83 (by kernel_rfl) rfl #[.slice A0_0 l0_0.length c0_0] rfl z23_5 ?_; (with_reducible refine (impl_KnowOk.calls k _ _ l0_0 false _ ?side1 ?side2 A2.out).mono ?_); (case side1 => exact z23_7); (case side2 => exact HC0_0.out); rintro e w' ⟨rfl, ⟨nd, rfl⟩⟩; refine ⟨_, rfl, ?_⟩))
  go_ret
  exact ⟨z23_6, z23_0⟩
 subst c3
 rw [if_pos rfl] at H
 replace H := Option.bind_eq_some_iff.mp H
 obtain ⟨t518, A40, H⟩ := H
 (try dsimp only at H)
 have A4 := Aside0.mk A40
 clear A40
 by_cases c5 : t518 = true
 rotate_left
 ·
  replace c5 := Bool.eq_false_iff.mpr c5
  subst c5
  rw [if_neg (show ¬ (false = true) by decide)] at H
  obtain rfl := Option.some.inj H
  go_enter Tryz.func57, Tryz.ntmps57
  go_wp2_with (first | ((with_reducible refine gate_dst (N := 1) rfl ?_); refine box_event ?hg (N := 1) ?hd (cs := #[.slice A0_0 l0_0.length c0_0, .slice A0_1 l0_1.length c0_1, .slice A0_2 l0_2.length c0_2, .slice A0_3 l0_3.length c0_3]) (t := 35) ?hr ?_; (case hd => rfl); (case hg => rfl); (case hr => first | (go_simp; done) | (go_simp; rfl)); intro gb516 hg w32 hbox hb; have BK516 := Aside0.mk (hbox); have GW516 := gw_ w z23_1 hg; have GE516 := gw_ w z23_1 hg; replace HB := Aside0.mk (below_step z23_1 hb); clear hb hbox hg; have hcz33 := bc4 BK516.out) | ((with_reducible refine gate_callee (f := 83) rfl ?_); refine goesL_ (some 5) rfl rfl Tryz.func83 (by kernel_rfl) rfl #[.slice A0_0 l0_0.length c0_0] rfl z23_5 ?_; (with_reducible refine (impl_KnowOk.calls k _ _ l0_0 true _ ?side1 ?side2 A2.out).mono ?_); (case side1 => exact z23_7); (case side2 => exact HC0_0.out); rintro e w' ⟨rfl, ⟨nd, rfl⟩⟩; refine ⟨_, rfl, ?_⟩) | (go_at_call 84; (with_reducible refine (impl_talliesOk.calls k _ _ l0_1 false _ ?side1 ?side2 A4.out).mono ?_); (case side1 => exact z23_8); (case side2 => exact HC0_1.out); rintro e w34 ⟨rfl, hb⟩; replace BK516 := bb_ BK516 z23_2 hb; replace HB := Aside0.mk (below_step z23_0 hb)))
  go_ret
  exact ⟨z23_6, z23_0⟩
 subst c5
 rw [if_pos rfl] at H
 replace H := Option.bind_eq_some_iff.mp H
 obtain ⟨t519, A60, H⟩ := H
 (try dsimp only at H)
 have A6 := Aside0.mk A60
 clear A60
 by_cases c7 : t519 = true
 rotate_left
 ·
  replace c7 := Bool.eq_false_iff.mpr c7
  subst c7
  rw [if_neg (show ¬ (false = true) by decide)] at H
  obtain rfl := Option.some.inj H
  go_enter Tryz.func57, Tryz.ntmps57
  go_wp2_with (first | ((with_reducible refine gate_dst (N := 1) rfl ?_); refine box_event ?hg (N := 1) ?hd (cs := #[.slice A0_0 l0_0.length c0_0, .slice A0_1 l0_1.length c0_1, .slice A0_2 l0_2.length c0_2, .slice A0_3 l0_3.length c0_3]) (t := 35) ?hr ?_; (case hd => rfl); (case hg => rfl); (case hr => first | (go_simp; done) | (go_simp; rfl)); intro gb516 hg w27 hbox hb; have BK516 := Aside0.mk (hbox); have GW516 := gw_ w z23_1 hg; have GE516 := gw_ w z23_1 hg; replace HB := Aside0.mk (below_step z23_1 hb); clear hb hbox hg; have hcz28 := bc4 BK516.out) | ((with_reducible refine gate_callee (f := 83) rfl ?_); refine goesL_ (some 5) rfl rfl Tryz.func83 (by kernel_rfl) rfl #[.slice A0_0 l0_0.length c0_0] rfl z23_5 ?_; (with_reducible refine (impl_KnowOk.calls k _ _ l0_0 true _ ?side1 ?side2 A2.out).mono ?_); (case side1 => exact z23_7); (case side2 => exact HC0_0.out); rintro e w' ⟨rfl, ⟨nd, rfl⟩⟩; refine ⟨_, rfl, ?_⟩) | (go_at_call 84; (with_reducible refine (impl_talliesOk.calls k _ _ l0_1 true _ ?side1 ?side2 A4.out).mono ?_); (case side1 => exact z23_8); (case side2 => exact HC0_1.out); rintro e w29 ⟨rfl, hb⟩; replace BK516 := bb_ BK516 z23_2 hb; replace HB := Aside0.mk (below_step z23_0 hb); have hcz30 := bc4 BK516.out) | (go_at_call 85; (with_reducible refine (impl_livesOk.calls k _ _ l0_2 _ _ l0_0 false _ ?side1 ?side2 ?side3 ?side4 A6.out).mono ?_); (case side1 => exact z23_9); (case side2 => exact HC0_2.out); (case side3 => exact z23_7); (case side4 => exact HC0_0.out); rintro e w31 ⟨rfl, hb⟩; replace BK516 := bb_ BK516 z23_2 hb; replace HB := Aside0.mk (below_step z23_0 hb)))
  go_ret
  exact ⟨z23_6, z23_0⟩
 subst c7
 rw [if_pos rfl] at H
 replace H := Option.bind_eq_some_iff.mp H
 obtain ⟨t520, A80, H⟩ := H
 (try dsimp only at H)
 have A8 := Aside0.mk A80
 clear A80
 by_cases c9 : t520 = true
 rotate_left
 ·
  replace c9 := Bool.eq_false_iff.mpr c9
  subst c9
  rw [if_neg (show ¬ (false = true) by decide)] at H
  obtain rfl := Option.some.inj H
  go_enter Tryz.func57, Tryz.ntmps57
  go_wp2_with (first | ((with_reducible refine gate_dst (N := 1) rfl ?_); refine box_event ?hg (N := 1) ?hd (cs := #[.slice A0_0 l0_0.length c0_0, .slice A0_1 l0_1.length c0_1, .slice A0_2 l0_2.length c0_2, .slice A0_3 l0_3.length c0_3]) (t := 35) ?hr ?_; (case hd => rfl); (case hg => rfl); (case hr => first | (go_simp; done) | (go_simp; rfl)); intro gb516 hg w20 hbox hb; have BK516 := Aside0.mk (hbox); have GW516 := gw_ w z23_1 hg; have GE516 := gw_ w z23_1 hg; replace HB := Aside0.mk (below_step z23_1 hb); clear hb hbox hg; have hcz21 := bc4 BK516.out) | ((with_reducible refine gate_callee (f := 83) rfl ?_); refine goesL_ (some 5) rfl rfl Tryz.func83 (by kernel_rfl) rfl #[.slice A0_0 l0_0.length c0_0] rfl z23_5 ?_; (with_reducible refine (impl_KnowOk.calls k _ _ l0_0 true _ ?side1 ?side2 A2.out).mono ?_); (case side1 => exact z23_7); (case side2 => exact HC0_0.out); rintro e w' ⟨rfl, ⟨nd, rfl⟩⟩; refine ⟨_, rfl, ?_⟩) | (go_at_call 84; (with_reducible refine (impl_talliesOk.calls k _ _ l0_1 true _ ?side1 ?side2 A4.out).mono ?_); (case side1 => exact z23_8); (case side2 => exact HC0_1.out); rintro e w22 ⟨rfl, hb⟩; replace BK516 := bb_ BK516 z23_2 hb; replace HB := Aside0.mk (below_step z23_0 hb); have hcz23 := bc4 BK516.out) | (go_at_call 85; (with_reducible refine (impl_livesOk.calls k _ _ l0_2 _ _ l0_0 true _ ?side1 ?side2 ?side3 ?side4 A6.out).mono ?_); (case side1 => exact z23_9); (case side2 => exact HC0_2.out); (case side3 => exact z23_7); (case side4 => exact HC0_0.out); rintro e w24 ⟨rfl, hb⟩; replace BK516 := bb_ BK516 z23_2 hb; replace HB := Aside0.mk (below_step z23_0 hb); have hcz25 := bc4 BK516.out) | (go_at_call 86; (with_reducible refine (impl_cellsOk.calls k _ _ l0_3 _ _ l0_0 false _ ?side1 ?side2 ?side3 ?side4 A8.out).mono ?_); (case side1 => exact z23_10); (case side2 => exact HC0_3.out); (case side3 => exact z23_7); (case side4 => exact HC0_0.out); rintro e w26 ⟨rfl, hb⟩; replace BK516 := bb_ BK516 z23_2 hb; replace HB := Aside0.mk (below_step z23_0 hb)))
  go_ret
  exact ⟨z23_6, z23_0⟩
 subst c9
 rw [if_pos rfl] at H
 replace H := Option.bind_eq_some_iff.mp H
 obtain ⟨t521, A100, H⟩ := H
 (try dsimp only at H)
 have A10 := Aside0.mk A100
 clear A100
 obtain rfl := Option.some.inj H
 go_enter Tryz.func57, Tryz.ntmps57
 go_wp2_with (first | ((with_reducible refine gate_dst (N := 1) rfl ?_); refine box_event ?hg (N := 1) ?hd (cs := #[.slice A0_0 l0_0.length c0_0, .slice A0_1 l0_1.length c0_1, .slice A0_2 l0_2.length c0_2, .slice A0_3 l0_3.length c0_3]) (t := 35) ?hr ?_; (case hd => rfl); (case hg => rfl); (case hr => first | (go_simp; done) | (go_simp; rfl)); intro gb516 hg w11 hbox hb; have BK516 := Aside0.mk (hbox); have GW516 := gw_ w z23_1 hg; have GE516 := gw_ w z23_1 hg; replace HB := Aside0.mk (below_step z23_1 hb); clear hb hbox hg; have hcz12 := bc4 BK516.out) | ((with_reducible refine gate_callee (f := 83) rfl ?_); refine goesL_ (some 5) rfl rfl Tryz.func83 (by kernel_rfl) rfl #[.slice A0_0 l0_0.length c0_0] rfl z23_5 ?_; (with_reducible refine (impl_KnowOk.calls k _ _ l0_0 true _ ?side1 ?side2 A2.out).mono ?_); (case side1 => exact z23_7); (case side2 => exact HC0_0.out); rintro e w' ⟨rfl, ⟨nd, rfl⟩⟩; refine ⟨_, rfl, ?_⟩) | (go_at_call 84; (with_reducible refine (impl_talliesOk.calls k _ _ l0_1 true _ ?side1 ?side2 A4.out).mono ?_); (case side1 => exact z23_8); (case side2 => exact HC0_1.out); rintro e w13 ⟨rfl, hb⟩; replace BK516 := bb_ BK516 z23_2 hb; replace HB := Aside0.mk (below_step z23_0 hb); have hcz14 := bc4 BK516.out) | (go_at_call 85; (with_reducible refine (impl_livesOk.calls k _ _ l0_2 _ _ l0_0 true _ ?side1 ?side2 ?side3 ?side4 A6.out).mono ?_); (case side1 => exact z23_9); (case side2 => exact HC0_2.out); (case side3 => exact z23_7); (case side4 => exact HC0_0.out); rintro e w15 ⟨rfl, hb⟩; replace BK516 := bb_ BK516 z23_2 hb; replace HB := Aside0.mk (below_step z23_0 hb); have hcz16 := bc4 BK516.out) | (go_at_call 86; (with_reducible refine (impl_cellsOk.calls k _ _ l0_3 _ _ l0_0 true _ ?side1 ?side2 ?side3 ?side4 A8.out).mono ?_); (case side1 => exact z23_10); (case side2 => exact HC0_3.out); (case side3 => exact z23_7); (case side4 => exact HC0_0.out); rintro e w17 ⟨rfl, hb⟩; replace BK516 := bb_ BK516 z23_2 hb; replace HB := Aside0.mk (below_step z23_0 hb); have hcz18 := bc4 BK516.out) | (go_at_call 87; (with_reducible refine (impl_refsOk.calls _ _ l0_3 t521 _ ?side1 ?side2 A10.out).mono ?_); (case side1 => exact z23_10); (case side2 => exact HC0_3.out); rintro e w19 ⟨rfl, hb⟩; replace BK516 := bb_ BK516 z23_2 hb; replace HB := Aside0.mk (below_step z23_0 hb)))
 go_ret
 exact ⟨z23_6, z23_0⟩
def impl_hasKey.f (a0 : Int) : Option (Bool) := (impl_within.f a0 2 5).bind fun t522 => (some t522)
set_option maxHeartbeats 8000000 in
set_option maxRecDepth 100000 in
theorem impl_hasKey.calls (a0 : Int) (r : Bool) (w : World) (h : impl_hasKey.f a0 = some r) :
  Calls Tryz.prog 100 #[.int .i64 a0] w fun e w' => e = .returned (.bool r) ∧ Drawn0 w w' := by
 have H := h
 unfold impl_hasKey.f at H
 clear h
 replace H := Option.bind_eq_some_iff.mp H
 obtain ⟨t522, A20, H⟩ := H
 (try dsimp only at H)
 have A2 := Aside0.mk A20
 clear A20
 obtain rfl := Option.some.inj H
 go_enter Tryz.func100, Tryz.ntmps100
 go_wp2_with (first | ((with_reducible refine gate_callee (f := 89) rfl ?_); refine goesL_ (some 4) rfl rfl Tryz.func89 (by kernel_rfl) rfl #[.int .i64 a0, .int .i64 2, .int .i64 5] rfl z23_5 ?_; (with_reducible refine (impl_within.calls a0 2 5 t522 _ A2.out).mono ?_); rintro e w' ⟨rfl, ⟨nd, rfl⟩⟩; refine ⟨_, rfl, ?_⟩))
 go_ret
 exact ⟨z23_4, z23_3⟩
def impl_hasVal.f (a0 : Int) : Option (Bool) := if a0 = 1 then (some true) else (if a0 = 4 then (some true) else (some (a0 == 6)))
set_option maxHeartbeats 8000000 in
set_option maxRecDepth 100000 in
theorem impl_hasVal.calls (a0 : Int) (r : Bool) (w : World) (h : impl_hasVal.f a0 = some r) :
  Calls Tryz.prog 101 #[.int .i64 a0] w fun e w' => e = .returned (.bool r) ∧ Drawn0 w w' := by
 have H : (if a0 = 1 then (some true) else (if a0 = 4 then (some true) else (some (a0 == 6)))) = some r := h
 clear h
 by_cases c2 : a0 = 1
 ·
  rw [if_pos c2] at H
  have c2b0 : (a0 == 1) = true := beq_iff_eq.mpr c2
  have c2b1 : (a0 != 1) = false := bne_eq_false_iff_eq.mpr c2
  clear c2
  obtain rfl := Option.some.inj H
  go_enter Tryz.func101, Tryz.ntmps101
  go_wp2
  go_ret
  exact ⟨z23_4, z23_3⟩
 rw [if_neg c2] at H
 have c2b0 : (a0 == 1) = false := beq_eq_false_iff_ne.mpr c2
 have c2b1 : (a0 != 1) = true := bne_iff_ne.mpr c2
 by_cases c3 : a0 = 4
 rotate_left
 ·
  rw [if_neg c3] at H
  have c3b0 : (a0 == 4) = false := beq_eq_false_iff_ne.mpr c3
  have c3b1 : (a0 != 4) = true := bne_iff_ne.mpr c3
  obtain rfl := Option.some.inj H
  go_enter Tryz.func101, Tryz.ntmps101
  go_wp2
  go_ret
  exact ⟨z23_4, z23_3⟩
 rw [if_pos c3] at H
 have c3b0 : (a0 == 4) = true := beq_iff_eq.mpr c3
 have c3b1 : (a0 != 4) = false := bne_eq_false_iff_eq.mpr c3
 clear c3
 obtain rfl := Option.some.inj H
 go_enter Tryz.func101, Tryz.ntmps101
 go_wp2
 go_ret
 exact ⟨z23_4, z23_3⟩
def impl_wordsOk.j0 : Nat → Int → ByteArray → Int → Bool → Option (Bool)
  | 0, _, _, _, _ => none
  | k + 1, x0, x2, x3, x17 => if x17 = true then (some false) else (if x2.toList = ([] : List UInt8) then ((impl_hasKey.f x0).bind fun t525 => (if t525 = true then ((impl_NameOk.f k x2).bind fun t526 => (if t526 = true then ((impl_hasKey.f x0).bind fun t527 => (if t527 = true then (if x3 = 0 then (some true) else ((impl_hasVal.f x0).bind fun t528 => (if t528 = true then ((impl_within.f x3 0 999999).bind fun t529 => (some t529)) else (some false)))) else (some false))) else (some false))) else (if x3 = 0 then (some true) else ((impl_hasVal.f x0).bind fun t530 => (if t530 = true then ((impl_within.f x3 0 999999).bind fun t531 => (some t531)) else (some false)))))) else ((impl_NameOk.f k x2).bind fun t532 => (if t532 = true then ((impl_hasKey.f x0).bind fun t533 => (if t533 = true then (if x3 = 0 then (some true) else ((impl_hasVal.f x0).bind fun t534 => (if t534 = true then ((impl_within.f x3 0 999999).bind fun t535 => (some t535)) else (some false)))) else (some false))) else (some false))))
def impl_wordsOk.f (k : Nat) (a0 : Int) (a1 : ByteArray) (a2 : ByteArray) (a3 : Int) : Option (Bool) := (impl_within.f a0 1 7).bind fun t523 => (if t523 = true then ((impl_NameOk.f k a1).bind fun t524 => (impl_wordsOk.j0 k a0 a2 a3 (!t524))) else (impl_wordsOk.j0 k a0 a2 a3 true))
set_option maxHeartbeats 8000000 in
set_option maxRecDepth 100000 in
theorem impl_wordsOk.calls (k : Nat) (a0 : Int) (a1 : ByteArray) (a2 : ByteArray) (a3 : Int) (r : Bool) (w : World) (h : impl_wordsOk.f k a0 a1 a2 a3 = some r) :
  Calls Tryz.prog 90 #[.int .i64 a0, .string a1, .string a2, .int .i64 a3] w fun e w' => e = .returned (.bool r) ∧ Drawn0 w w' := by
 have H := h
 unfold impl_wordsOk.f at H
 clear h
 have HC5 := Aside0.mk H
 clear H
 go_enter Tryz.func90, Tryz.ntmps90
 go_upto_region 1 with (fail)
 go_cut [17] (fun v17 wc => ∃ (kq : Nat) (x17_4 : Bool), v17 = .bool x17_4 ∧ Aside0 (impl_wordsOk.j0 kq a0 a2 a3 x17_4 = some r) ∧ Aside0 (kq ≤ k) ∧ Drawn0 w wc)
 case first =>
  have H := HC5.out
  clear HC5
  replace H := Option.bind_eq_some_iff.mp H
  obtain ⟨t523, A60, H⟩ := H
  (try dsimp only at H)
  have A6 := Aside0.mk A60
  clear A60
  by_cases c7 : t523 = true
  rotate_left
  ·
   replace c7 := Bool.eq_false_iff.mpr c7
   subst c7
   rw [if_neg (show ¬ (false = true) by decide)] at H
   have H' := Aside0.mk H
   clear H
   go_wp2_with (first | ((with_reducible refine gate_callee (f := 89) rfl ?_); refine goesL_ (some 11) rfl rfl Tryz.func89 (by kernel_rfl) rfl #[.int .i64 a0, .int .i64 1, .int .i64 7] rfl z23_5 ?_; (with_reducible refine (impl_within.calls a0 1 7 false _ A6.out).mono ?_); rintro e w' ⟨rfl, ⟨nd, rfl⟩⟩; refine ⟨_, rfl, ?_⟩))
   go_meet
   case rel => exact ⟨_, (true), z23_4, H', ⟨by first | omega | exact Nat.le_refl _⟩, z23_3⟩
  subst c7
  rw [if_pos rfl] at H
  replace H := Option.bind_eq_some_iff.mp H
  obtain ⟨t524, A80, H⟩ := H
  (try dsimp only at H)
  have A8 := Aside0.mk A80
  clear A80
  have H' := Aside0.mk H
  clear H
  go_wp2_with (first | ((with_reducible refine gate_callee (f := 89) rfl ?_); refine goesL_ (some 11) rfl rfl Tryz.func89 (by kernel_rfl) rfl #[.int .i64 a0, .int .i64 1, .int .i64 7] rfl z23_5 ?_; (with_reducible refine (impl_within.calls a0 1 7 true _ A6.out).mono ?_); rintro e w' ⟨rfl, ⟨nd, rfl⟩⟩; refine ⟨_, rfl, ?_⟩) | (go_at_call 99; (with_reducible refine (impl_NameOk.calls k a1 t524 _ A8.out).mono ?_); rintro e w' ⟨rfl, ⟨nd, rfl⟩⟩))
  go_meet
  case rel => exact ⟨_, (!t524), z23_4, H', ⟨by first | omega | exact Nat.le_refl _⟩, z23_3⟩
 case rest =>
  clear HC5
  try clear p2
  try clear c7
  try clear c8
  obtain ⟨kq, x17_4, rfl, HA, HJ4, ⟨mc4, rfl⟩⟩ := hcut
  cases kq with
  | zero => exact absurd HA.out (by simp [impl_wordsOk.j0])
  | succ kj4 =>
   have H := HA.out
   clear HA
   simp only [impl_wordsOk.j0] at H
   by_cases c9 : x17_4 = true
   ·
    subst c9
    rw [if_pos rfl] at H
    obtain rfl := Option.some.inj H
    go_wp2
    go_ret
    exact ⟨z23_4, z23_3⟩
   replace c9 := Bool.eq_false_iff.mpr c9
   subst c9
   rw [if_neg (show ¬ (false = true) by decide)] at H
   by_cases c10 : a2.toList = ([] : List UInt8)
   rotate_left
   ·
    rw [if_neg c10] at H
    have c10b0 : (a2.toList == ([] : List UInt8)) = false := beq_eq_false_iff_ne.mpr c10
    have c10b1 : (a2.toList != ([] : List UInt8)) = true := bne_iff_ne.mpr c10
    replace H := Option.bind_eq_some_iff.mp H
    obtain ⟨t532, A250, H⟩ := H
    (try dsimp only at H)
    have A25 := Aside0.mk A250
    clear A250
    by_cases c26 : t532 = true
    rotate_left
    ·
     replace c26 := Bool.eq_false_iff.mpr c26
     subst c26
     rw [if_neg (show ¬ (false = true) by decide)] at H
     obtain rfl := Option.some.inj H
     go_wp2_with (first | (go_at_call 99; (with_reducible refine (impl_NameOk.calls kj4 a2 false _ A25.out).mono ?_); rintro e w' ⟨rfl, ⟨nd, rfl⟩⟩))
     go_ret
     exact ⟨z23_4, z23_3⟩
    subst c26
    rw [if_pos rfl] at H
    replace H := Option.bind_eq_some_iff.mp H
    obtain ⟨t533, A270, H⟩ := H
    (try dsimp only at H)
    have A27 := Aside0.mk A270
    clear A270
    by_cases c28 : t533 = true
    rotate_left
    ·
     replace c28 := Bool.eq_false_iff.mpr c28
     subst c28
     rw [if_neg (show ¬ (false = true) by decide)] at H
     obtain rfl := Option.some.inj H
     go_wp2_with (first | (go_at_call 99; (with_reducible refine (impl_NameOk.calls kj4 a2 true _ A25.out).mono ?_); rintro e w' ⟨rfl, ⟨nd, rfl⟩⟩) | (go_at_call 100; (with_reducible refine (impl_hasKey.calls a0 false _ A27.out).mono ?_); rintro e w' ⟨rfl, ⟨nd, rfl⟩⟩))
     go_ret
     exact ⟨z23_4, z23_3⟩
    subst c28
    rw [if_pos rfl] at H
    by_cases c29 : a3 = 0
    ·
     rw [if_pos c29] at H
     have c29b0 : (a3 == 0) = true := beq_iff_eq.mpr c29
     have c29b1 : (a3 != 0) = false := bne_eq_false_iff_eq.mpr c29
     clear c29
     obtain rfl := Option.some.inj H
     go_wp2_with (first | (go_at_call 99; (with_reducible refine (impl_NameOk.calls kj4 a2 true _ A25.out).mono ?_); rintro e w' ⟨rfl, ⟨nd, rfl⟩⟩) | (go_at_call 100; (with_reducible refine (impl_hasKey.calls a0 true _ A27.out).mono ?_); rintro e w' ⟨rfl, ⟨nd, rfl⟩⟩))
     go_ret
     exact ⟨z23_4, z23_3⟩
    rw [if_neg c29] at H
    have c29b0 : (a3 == 0) = false := beq_eq_false_iff_ne.mpr c29
    have c29b1 : (a3 != 0) = true := bne_iff_ne.mpr c29
    replace H := Option.bind_eq_some_iff.mp H
    obtain ⟨t534, A300, H⟩ := H
    (try dsimp only at H)
    have A30 := Aside0.mk A300
    clear A300
    by_cases c31 : t534 = true
    rotate_left
    ·
     replace c31 := Bool.eq_false_iff.mpr c31
     subst c31
     rw [if_neg (show ¬ (false = true) by decide)] at H
     obtain rfl := Option.some.inj H
     go_wp2_with (first | (go_at_call 99; (with_reducible refine (impl_NameOk.calls kj4 a2 true _ A25.out).mono ?_); rintro e w' ⟨rfl, ⟨nd, rfl⟩⟩) | (go_at_call 100; (with_reducible refine (impl_hasKey.calls a0 true _ A27.out).mono ?_); rintro e w' ⟨rfl, ⟨nd, rfl⟩⟩) | (go_at_call 101; (with_reducible refine (impl_hasVal.calls a0 false _ A30.out).mono ?_); rintro e w' ⟨rfl, ⟨nd, rfl⟩⟩))
     go_ret
     exact ⟨z23_4, z23_3⟩
    subst c31
    rw [if_pos rfl] at H
    replace H := Option.bind_eq_some_iff.mp H
    obtain ⟨t535, A320, H⟩ := H
    (try dsimp only at H)
    have A32 := Aside0.mk A320
    clear A320
    obtain rfl := Option.some.inj H
    go_wp2_with (first | (go_at_call 99; (with_reducible refine (impl_NameOk.calls kj4 a2 true _ A25.out).mono ?_); rintro e w' ⟨rfl, ⟨nd, rfl⟩⟩) | (go_at_call 100; (with_reducible refine (impl_hasKey.calls a0 true _ A27.out).mono ?_); rintro e w' ⟨rfl, ⟨nd, rfl⟩⟩) | (go_at_call 101; (with_reducible refine (impl_hasVal.calls a0 true _ A30.out).mono ?_); rintro e w' ⟨rfl, ⟨nd, rfl⟩⟩) | (go_at_call 89; (with_reducible refine (impl_within.calls a3 0 999999 t535 _ A32.out).mono ?_); rintro e w' ⟨rfl, ⟨nd, rfl⟩⟩))
    go_ret
    exact ⟨z23_4, z23_3⟩
   rw [if_pos c10] at H
   have c10b0 : (a2.toList == ([] : List UInt8)) = true := beq_iff_eq.mpr c10
   have c10b1 : (a2.toList != ([] : List UInt8)) = false := bne_eq_false_iff_eq.mpr c10
   clear c10
   replace H := Option.bind_eq_some_iff.mp H
   obtain ⟨t525, A110, H⟩ := H
   (try dsimp only at H)
   have A11 := Aside0.mk A110
   clear A110
   by_cases c12 : t525 = true
   rotate_left
   ·
    replace c12 := Bool.eq_false_iff.mpr c12
    subst c12
    rw [if_neg (show ¬ (false = true) by decide)] at H
    by_cases c21 : a3 = 0
    ·
     rw [if_pos c21] at H
     have c21b0 : (a3 == 0) = true := beq_iff_eq.mpr c21
     have c21b1 : (a3 != 0) = false := bne_eq_false_iff_eq.mpr c21
     clear c21
     obtain rfl := Option.some.inj H
     go_wp2_with (first | (go_at_call 100; (with_reducible refine (impl_hasKey.calls a0 false _ A11.out).mono ?_); rintro e w' ⟨rfl, ⟨nd, rfl⟩⟩))
     go_ret
     exact ⟨z23_4, z23_3⟩
    rw [if_neg c21] at H
    have c21b0 : (a3 == 0) = false := beq_eq_false_iff_ne.mpr c21
    have c21b1 : (a3 != 0) = true := bne_iff_ne.mpr c21
    replace H := Option.bind_eq_some_iff.mp H
    obtain ⟨t530, A220, H⟩ := H
    (try dsimp only at H)
    have A22 := Aside0.mk A220
    clear A220
    by_cases c23 : t530 = true
    rotate_left
    ·
     replace c23 := Bool.eq_false_iff.mpr c23
     subst c23
     rw [if_neg (show ¬ (false = true) by decide)] at H
     obtain rfl := Option.some.inj H
     go_wp2_with (first | (go_at_call 100; (with_reducible refine (impl_hasKey.calls a0 false _ A11.out).mono ?_); rintro e w' ⟨rfl, ⟨nd, rfl⟩⟩) | (go_at_call 101; (with_reducible refine (impl_hasVal.calls a0 false _ A22.out).mono ?_); rintro e w' ⟨rfl, ⟨nd, rfl⟩⟩))
     go_ret
     exact ⟨z23_4, z23_3⟩
    subst c23
    rw [if_pos rfl] at H
    replace H := Option.bind_eq_some_iff.mp H
    obtain ⟨t531, A240, H⟩ := H
    (try dsimp only at H)
    have A24 := Aside0.mk A240
    clear A240
    obtain rfl := Option.some.inj H
    go_wp2_with (first | (go_at_call 100; (with_reducible refine (impl_hasKey.calls a0 false _ A11.out).mono ?_); rintro e w' ⟨rfl, ⟨nd, rfl⟩⟩) | (go_at_call 101; (with_reducible refine (impl_hasVal.calls a0 true _ A22.out).mono ?_); rintro e w' ⟨rfl, ⟨nd, rfl⟩⟩) | (go_at_call 89; (with_reducible refine (impl_within.calls a3 0 999999 t531 _ A24.out).mono ?_); rintro e w' ⟨rfl, ⟨nd, rfl⟩⟩))
    go_ret
    exact ⟨z23_4, z23_3⟩
   subst c12
   rw [if_pos rfl] at H
   replace H := Option.bind_eq_some_iff.mp H
   obtain ⟨t526, A130, H⟩ := H
   (try dsimp only at H)
   have A13 := Aside0.mk A130
   clear A130
   by_cases c14 : t526 = true
   rotate_left
   ·
    replace c14 := Bool.eq_false_iff.mpr c14
    subst c14
    rw [if_neg (show ¬ (false = true) by decide)] at H
    obtain rfl := Option.some.inj H
    go_wp2_with (first | (go_at_call 100; (with_reducible refine (impl_hasKey.calls a0 true _ A11.out).mono ?_); rintro e w' ⟨rfl, ⟨nd, rfl⟩⟩) | (go_at_call 99; (with_reducible refine (impl_NameOk.calls kj4 a2 false _ A13.out).mono ?_); rintro e w' ⟨rfl, ⟨nd, rfl⟩⟩))
    go_ret
    exact ⟨z23_4, z23_3⟩
   subst c14
   rw [if_pos rfl] at H
   replace H := Option.bind_eq_some_iff.mp H
   obtain ⟨t527, A150, H⟩ := H
   (try dsimp only at H)
   have A15 := Aside0.mk A150
   clear A150
   by_cases c16 : t527 = true
   rotate_left
   ·
    replace c16 := Bool.eq_false_iff.mpr c16
    subst c16
    exact absurd (A11.out.symm.trans A15.out) (by simp)
   subst c16
   rw [if_pos rfl] at H
   by_cases c17 : a3 = 0
   ·
    rw [if_pos c17] at H
    have c17b0 : (a3 == 0) = true := beq_iff_eq.mpr c17
    have c17b1 : (a3 != 0) = false := bne_eq_false_iff_eq.mpr c17
    clear c17
    obtain rfl := Option.some.inj H
    go_wp2_with (first | (go_at_call 100; (with_reducible refine (impl_hasKey.calls a0 true _ A11.out).mono ?_); rintro e w' ⟨rfl, ⟨nd, rfl⟩⟩) | (go_at_call 99; (with_reducible refine (impl_NameOk.calls kj4 a2 true _ A13.out).mono ?_); rintro e w' ⟨rfl, ⟨nd, rfl⟩⟩) | (go_at_call 100; (with_reducible refine (impl_hasKey.calls a0 true _ A15.out).mono ?_); rintro e w' ⟨rfl, ⟨nd, rfl⟩⟩))
    go_ret
    exact ⟨z23_4, z23_3⟩
   rw [if_neg c17] at H
   have c17b0 : (a3 == 0) = false := beq_eq_false_iff_ne.mpr c17
   have c17b1 : (a3 != 0) = true := bne_iff_ne.mpr c17
   replace H := Option.bind_eq_some_iff.mp H
   obtain ⟨t528, A180, H⟩ := H
   (try dsimp only at H)
   have A18 := Aside0.mk A180
   clear A180
   by_cases c19 : t528 = true
   rotate_left
   ·
    replace c19 := Bool.eq_false_iff.mpr c19
    subst c19
    rw [if_neg (show ¬ (false = true) by decide)] at H
    obtain rfl := Option.some.inj H
    go_wp2_with (first | (go_at_call 100; (with_reducible refine (impl_hasKey.calls a0 true _ A11.out).mono ?_); rintro e w' ⟨rfl, ⟨nd, rfl⟩⟩) | (go_at_call 99; (with_reducible refine (impl_NameOk.calls kj4 a2 true _ A13.out).mono ?_); rintro e w' ⟨rfl, ⟨nd, rfl⟩⟩) | (go_at_call 100; (with_reducible refine (impl_hasKey.calls a0 true _ A15.out).mono ?_); rintro e w' ⟨rfl, ⟨nd, rfl⟩⟩) | (go_at_call 101; (with_reducible refine (impl_hasVal.calls a0 false _ A18.out).mono ?_); rintro e w' ⟨rfl, ⟨nd, rfl⟩⟩))
    go_ret
    exact ⟨z23_4, z23_3⟩
   subst c19
   rw [if_pos rfl] at H
   replace H := Option.bind_eq_some_iff.mp H
   obtain ⟨t529, A200, H⟩ := H
   (try dsimp only at H)
   have A20 := Aside0.mk A200
   clear A200
   obtain rfl := Option.some.inj H
   go_wp2_with (first | (go_at_call 100; (with_reducible refine (impl_hasKey.calls a0 true _ A11.out).mono ?_); rintro e w' ⟨rfl, ⟨nd, rfl⟩⟩) | (go_at_call 99; (with_reducible refine (impl_NameOk.calls kj4 a2 true _ A13.out).mono ?_); rintro e w' ⟨rfl, ⟨nd, rfl⟩⟩) | (go_at_call 100; (with_reducible refine (impl_hasKey.calls a0 true _ A15.out).mono ?_); rintro e w' ⟨rfl, ⟨nd, rfl⟩⟩) | (go_at_call 101; (with_reducible refine (impl_hasVal.calls a0 true _ A18.out).mono ?_); rintro e w' ⟨rfl, ⟨nd, rfl⟩⟩) | (go_at_call 89; (with_reducible refine (impl_within.calls a3 0 999999 t529 _ A20.out).mono ?_); rintro e w' ⟨rfl, ⟨nd, rfl⟩⟩))
   go_ret
   exact ⟨z23_4, z23_3⟩
end Go.Proofs.YtbanogkoaplcdaaGreat.QDa
