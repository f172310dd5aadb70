/- Parts of the proof of FnExactSettled, one behind the other. No condition. -/
import Derived.Test.YtbanogkoaplcdaaVFnExactSettledM31
import Derived.Test.YtbanogkoaplcdaaVFnExactSettledM34
import Derived.Test.YtbanogkoaplcdaaVFnExactSettledM36
import Derived.Test.YtbanogkoaplcdaaVFnExactSettledM37
namespace Go.Proofs.Ytbanogkoaplcdaa.QSe
open Go.RowKit Go.Proofs.Ytbanogkoaplcdaa.Short Go.Proofs.YtbanogkoaplcdaaW.PrintWords Go.Proofs.YtbanogkoaplcdaaW.PrintLast Go.Proofs.YtbanogkoaplcdaaW.PrintMore
attribute [local go_sem] max2_int min2_int max_two min_two max_three min_three max_four min_four   -- for this text's walks alone
set_option linter.unusedVariables false
set_option linter.unusedSimpArgs false
theorem z28_24 {P : Prop} (h : P := by intro w'; go_simp; with_reducible rfl) : P := h
theorem z28_23 {P : Prop} (h : P := by first | rfl | (simp; done) | (simp [*]; done)) : P := h
theorem z28_22 {P : Prop} (h : P := by repeat (first | exact Drawn0.refl _ | apply Drawn0.step)) : P := h
theorem z28_21 {P : Prop} (h : P := by (with_reducible repeat (first | apply Kd.R_alloc | apply Kd.R_drewN | apply Kd.R_drew)); exact HO528.out) : P := h
theorem z28_20 {P : Prop} (h : P := by simp only [Act.put, List.setIfInBounds_toArray, List.set_cons_zero, List.set_cons_succ, i64_w, i32_w]; rfl) : P := h
theorem z28_19 {P : Prop} (h : P := by (with_reducible repeat (first | apply Kd.R_alloc | apply Kd.R_drewN | apply Kd.R_drew)); exact (Q_HO522 h0_)) : P := h
theorem z28_18 {P : Prop} (h : P := by repeat (first | (with_reducible first | exact HB.out | apply below_alloc | apply pw_below_drewN | apply below_drew1 | refine below_set ?_ GE512.out) | exact HB.out)) : P := h
theorem z28_17 {P : Prop} (h : P := by (with_reducible repeat (first | apply Kd.R_alloc | apply Kd.R_drewN | apply Kd.R_drew)); exact HO531.out) : P := h
theorem z28_16 {P : Prop} (h : P := by first | rfl | (simp only [List.map_toArray, List.map_cons, List.map_nil]; first | done | rfl)) : P := h
theorem z28_15 {P : Prop} (h : P := by (with_reducible repeat (first | apply Kd.R_alloc | apply Kd.R_drewN | apply Kd.R_drew)); exact HO522.out) : P := h
theorem z28_14 {P : Prop} (h : P := by (with_reducible repeat (first | apply Kd.R_alloc | apply Kd.R_drewN | apply Kd.R_drew)); exact HO525.out) : P := h
theorem z28_13 {P : Prop} (h : P := by (with_reducible repeat (first | apply Kd.R_alloc | apply Kd.R_drewN | apply Kd.R_drew)); exact (Q_HO516 h0_)) : P := h
theorem z28_12 {P : Prop} (h : P := by (with_reducible repeat (first | apply Kd.R_alloc | apply Kd.R_drewN | apply Kd.R_drew)); exact (Q_HO519 h0_ h1_)) : P := h
theorem z28_11 {P : Prop} (h : P := by first | rfl | (simp [errW_none, errW_some] <;> rfl) | (simp [*, errW_none, errW_some] <;> rfl)) : P := h
theorem z28_10 {P : Prop} (h : P := by (with_reducible repeat (first | apply Kd.R_alloc | apply Kd.R_drewN | apply Kd.R_drew)); exact HO519.out) : P := h
theorem z28_9 {P : Prop} (h : P := by (with_reducible repeat (first | apply Kd.R_alloc | apply Kd.R_drewN | apply Kd.R_drew)); exact HO516.out) : P := h
theorem z28_8 {P : Prop} (h : P := by (with_reducible repeat (first | apply Kd.R_alloc | apply Kd.R_drewN | apply Kd.R_drew)); exact (Q_HO525 h0_ h1_)) : P := h
theorem z28_7 {P : Prop} (h : P := by (with_reducible repeat (first | apply Kd.R_alloc | apply Kd.R_drewN | apply Kd.R_drew)); exact (Q_HO531 h0_ h1_)) : P := h
theorem z28_6 {P : Prop} (h : P := by (with_reducible repeat (first | refine blk_drewN ?_ _ | refine blk_drew ?_ | refine blk_alloc ?_ _)); exact BK500.out) : P := h
theorem z28_5 {P : Prop} (h : P := by kernel_rfl) : P := h
theorem z28_4 {P : Prop} (h : P := by (with_reducible repeat (first | refine blk_drewN ?_ _ | refine blk_drew ?_ | refine blk_alloc ?_ _)); exact BK513.out) : P := h
theorem z28_3 {P : Prop} (h : P := by (with_reducible repeat (first | refine blk_drewN ?_ _ | refine blk_drew ?_ | refine blk_alloc ?_ _)); exact BK512.out) : P := h
theorem z28_2 {P : Prop} (h : P := by repeat (first | (with_reducible first | exact HB.out | apply below_alloc | apply pw_below_drewN | apply below_drew1) | exact HB.out)) : P := h
theorem z28_1 {P : Prop} (h : P := by repeat (first | (with_reducible first | exact HB.out | apply below_alloc | apply pw_below_drewN | apply below_drew1 | refine below_set ?_ GE500.out) | exact HB.out)) : P := h
theorem z28_0 {P : Prop} (h : P := by repeat (first | (with_reducible first | exact HB.out | apply below_alloc | apply pw_below_drewN | apply below_drew1 | refine below_set ?_ GE512.out | refine below_set ?_ GE513.out) | exact HB.out)) : P := h
abbrev mk28_0 : Array Bool := mb 17 0
abbrev mk28_1 : Array Bool := mb 17 1
abbrev mk28_2 : Array Bool := mb 17 17
abbrev mk28_3 : Array Bool := mb 17 273
abbrev mk28_4 : Array Bool := mb 17 4369
theorem z28_25 {P : Prop} (h : P := by repeat (first | exact (Kd.C_below HR0_0.out HB.out) | (with_reducible refine Kd.C_alloc ?_ _) | (with_reducible refine Kd.C_drewN ?_ _) | (with_reducible refine Kd.C_drew ?_))) : P := h
theorem z28_26 {P : Prop} (h : P := by repeat (first | exact (Kd.C_below HR0_1.out z28_1) | (with_reducible refine Kd.C_alloc ?_ _) | (with_reducible refine Kd.C_drewN ?_ _) | (with_reducible refine Kd.C_drew ?_))) : P := h
theorem z28_27 {P : Prop} (h : P := by repeat (first | exact (Kd.C_below HR0_2.out HB.out) | (with_reducible refine Kd.C_alloc ?_ _) | (with_reducible refine Kd.C_drewN ?_ _) | (with_reducible refine Kd.C_drew ?_))) : P := h
theorem z28_28 {P : Prop} (h : P := by repeat (first | exact (Kd.C_below HR0_3.out HB.out) | (with_reducible refine Kd.C_alloc ?_ _) | (with_reducible refine Kd.C_drewN ?_ _) | (with_reducible refine Kd.C_drew ?_))) : P := h
def impl_StateOk.f (k : Nat) (l0_0 : List Int) (l0_1 : List (S84)) (l0_2 : List (S86)) (l0_3 : List (S73)) : Option (Bool) := (impl_KnowOk.f k l0_0).bind fun t501 => (if t501 = true then ((impl_talliesOk.f k l0_1).bind fun t502 => (if t502 = true then ((impl_livesOk.f k l0_2 l0_0).bind fun t503 => (if t503 = true then ((impl_cellsOk.f k l0_3 l0_0).bind fun t504 => (if t504 = true then ((impl_refsOk.f l0_3).bind fun t505 => (some t505)) else (some false))) else (some false))) else (some false))) else (some false))
set_option maxHeartbeats 8000000 in
set_option maxRecDepth 100000 in
theorem impl_StateOk.calls (k : Nat) (A0_0 : Option Addr) (c0_0 : Nat) (l0_0 : List Int) (A0_1 : Option Addr) (c0_1 : Nat) (l0_1 : List (S84)) (A0_2 : Option Addr) (c0_2 : Nat) (l0_2 : List (S86)) (A0_3 : Option Addr) (c0_3 : Nat) (l0_3 : List (S73)) (r : Bool) (w : World) (hr0_0 : Kd.C (Kd.int .i64) w A0_0 l0_0.length l0_0) (hc0_0 : l0_0.length ≤ c0_0) (hr0_1 : Kd.C k84 w A0_1 l0_1.length l0_1) (hc0_1 : l0_1.length ≤ c0_1) (hr0_2 : Kd.C k86 w A0_2 l0_2.length l0_2) (hc0_2 : l0_2.length ≤ c0_2) (hr0_3 : Kd.C k73 w A0_3 l0_3.length l0_3) (hc0_3 : l0_3.length ≤ c0_3) (h : impl_StateOk.f k l0_0 l0_1 l0_2 l0_3 = some r) :
  Calls Try.prog 18 #[.agg #[.slice A0_0 l0_0.length c0_0, .slice A0_1 l0_1.length c0_1, .slice A0_2 l0_2.length c0_2, .slice A0_3 l0_3.length c0_3]] w fun e w' => e = .returned (.bool r) ∧ Below w.heap.size w w' := by
 have hu36 := Try.underlying36
 have HR0_0 := Aside0.mk hr0_0
 have HC0_0 := Aside0.mk hc0_0
 clear hr0_0 hc0_0
 have HR0_1 := Aside0.mk hr0_1
 have HC0_1 := Aside0.mk hc0_1
 clear hr0_1 hc0_1
 have HR0_2 := Aside0.mk hr0_2
 have HC0_2 := Aside0.mk hc0_2
 clear hr0_2 hc0_2
 have HR0_3 := Aside0.mk hr0_3
 have HC0_3 := Aside0.mk hc0_3
 clear hr0_3 hc0_3
 have HB := Aside0.mk (Below.refl w.heap.size w)
 have H := h
 unfold impl_StateOk.f at H
 clear h
 replace H := Option.bind_eq_some_iff.mp H
 obtain ⟨t501, A20, H⟩ := H
 (try dsimp only at H)
 have A2 := Aside0.mk A20
 clear A20
 by_cases c3 : t501 = true
 rotate_left
 ·
  replace c3 := Bool.eq_false_iff.mpr c3
  subst c3
  rw [if_neg (show ¬ (false = true) by decide)] at H
  obtain rfl := Option.some.inj H
  go_enter Try.func18, Try.ntmps18
  go_wp2_with (first | ((with_reducible refine gate_dst (N := 1) rfl ?_); refine box_event ?hg (N := 1) ?hd (cs := #[.slice A0_0 l0_0.length c0_0, .slice A0_1 l0_1.length c0_1, .slice A0_2 l0_2.length c0_2, .slice A0_3 l0_3.length c0_3]) (t := 36) ?hr ?_; (case hd => rfl); (case hg => rfl); (case hr => first | (go_simp; done) | (go_simp; rfl)); intro gb500 hg w35 hbox hb; have BK500 := Aside0.mk (hbox); have GW500 := gw_ w z28_2 hg; have GE500 := gw_ w z28_2 hg; replace HB := Aside0.mk (below_step z28_2 hb); clear hb hbox hg; have hcz36 := bc4 BK500.out) | ((with_reducible refine gate_callee (f := 61) rfl ?_); refine goesL_ (some 5) rfl rfl Try.func61 z28_5 rfl #[.slice A0_0 l0_0.length c0_0] rfl z28_16 ?_; (with_reducible refine (impl_KnowOk.calls k _ _ l0_0 false _ ?side1 ?side2 A2.out).mono ?_); (case side1 => exact z28_25); (case side2 => exact HC0_0.out); rintro e w' ⟨rfl, ⟨nd, rfl⟩⟩; refine ⟨_, rfl, ?_⟩))
  go_ret
  exact ⟨z28_11, z28_1⟩
 subst c3
 rw [if_pos rfl] at H
 replace H := Option.bind_eq_some_iff.mp H
 obtain ⟨t502, A40, H⟩ := H
 (try dsimp only at H)
 have A4 := Aside0.mk A40
 clear A40
 by_cases c5 : t502 = true
 rotate_left
 ·
  replace c5 := Bool.eq_false_iff.mpr c5
  subst c5
  rw [if_neg (show ¬ (false = true) by decide)] at H
  obtain rfl := Option.some.inj H
  go_enter Try.func18, Try.ntmps18
  go_wp2_with (first | ((with_reducible refine gate_dst (N := 1) rfl ?_); refine box_event ?hg (N := 1) ?hd (cs := #[.slice A0_0 l0_0.length c0_0, .slice A0_1 l0_1.length c0_1, .slice A0_2 l0_2.length c0_2, .slice A0_3 l0_3.length c0_3]) (t := 36) ?hr ?_; (case hd => rfl); (case hg => rfl); (case hr => first | (go_simp; done) | (go_simp; rfl)); intro gb500 hg w32 hbox hb; have BK500 := Aside0.mk (hbox); have GW500 := gw_ w z28_2 hg; have GE500 := gw_ w z28_2 hg; replace HB := Aside0.mk (below_step z28_2 hb); clear hb hbox hg; have hcz33 := bc4 BK500.out) | ((with_reducible refine gate_callee (f := 61) rfl ?_); refine goesL_ (some 5) rfl rfl Try.func61 z28_5 rfl #[.slice A0_0 l0_0.length c0_0] rfl z28_16 ?_; (with_reducible refine (impl_KnowOk.calls k _ _ l0_0 true _ ?side1 ?side2 A2.out).mono ?_); (case side1 => exact z28_25); (case side2 => exact HC0_0.out); rintro e w' ⟨rfl, ⟨nd, rfl⟩⟩; refine ⟨_, rfl, ?_⟩) | (go_at_call 62; (with_reducible refine (impl_talliesOk.calls k _ _ l0_1 false _ ?side1 ?side2 A4.out).mono ?_); (case side1 => exact z28_26); (case side2 => exact HC0_1.out); rintro e w34 ⟨rfl, hb⟩; replace BK500 := bb_ BK500 z28_6 hb; replace HB := Aside0.mk (below_step z28_1 hb)))
  go_ret
  exact ⟨z28_11, z28_1⟩
 subst c5
 rw [if_pos rfl] at H
 replace H := Option.bind_eq_some_iff.mp H
 obtain ⟨t503, A60, H⟩ := H
 (try dsimp only at H)
 have A6 := Aside0.mk A60
 clear A60
 by_cases c7 : t503 = true
 rotate_left
 ·
  replace c7 := Bool.eq_false_iff.mpr c7
  subst c7
  rw [if_neg (show ¬ (false = true) by decide)] at H
  obtain rfl := Option.some.inj H
  go_enter Try.func18, Try.ntmps18
  go_wp2_with (first | ((with_reducible refine gate_dst (N := 1) rfl ?_); refine box_event ?hg (N := 1) ?hd (cs := #[.slice A0_0 l0_0.length c0_0, .slice A0_1 l0_1.length c0_1, .slice A0_2 l0_2.length c0_2, .slice A0_3 l0_3.length c0_3]) (t := 36) ?hr ?_; (case hd => rfl); (case hg => rfl); (case hr => first | (go_simp; done) | (go_simp; rfl)); intro gb500 hg w27 hbox hb; have BK500 := Aside0.mk (hbox); have GW500 := gw_ w z28_2 hg; have GE500 := gw_ w z28_2 hg; replace HB := Aside0.mk (below_step z28_2 hb); clear hb hbox hg; have hcz28 := bc4 BK500.out) | ((with_reducible refine gate_callee (f := 61) rfl ?_); refine goesL_ (some 5) rfl rfl Try.func61 z28_5 rfl #[.slice A0_0 l0_0.length c0_0] rfl z28_16 ?_; (with_reducible refine (impl_KnowOk.calls k _ _ l0_0 true _ ?side1 ?side2 A2.out).mono ?_); (case side1 => exact z28_25); (case side2 => exact HC0_0.out); rintro e w' ⟨rfl, ⟨nd, rfl⟩⟩; refine ⟨_, rfl, ?_⟩) | (go_at_call 62; (with_reducible refine (impl_talliesOk.calls k _ _ l0_1 true _ ?side1 ?side2 A4.out).mono ?_); (case side1 => exact z28_26); (case side2 => exact HC0_1.out); rintro e w29 ⟨rfl, hb⟩; replace BK500 := bb_ BK500 z28_6 hb; replace HB := Aside0.mk (below_step z28_1 hb); have hcz30 := bc4 BK500.out) | (go_at_call 63; (with_reducible refine (impl_livesOk.calls k _ _ l0_2 _ _ l0_0 false _ ?side1 ?side2 ?side3 ?side4 A6.out).mono ?_); (case side1 => exact z28_27); (case side2 => exact HC0_2.out); (case side3 => exact z28_25); (case side4 => exact HC0_0.out); rintro e w31 ⟨rfl, hb⟩; replace BK500 := bb_ BK500 z28_6 hb; replace HB := Aside0.mk (below_step z28_1 hb)))
  go_ret
  exact ⟨z28_11, z28_1⟩
 subst c7
 rw [if_pos rfl] at H
 replace H := Option.bind_eq_some_iff.mp H
 obtain ⟨t504, A80, H⟩ := H
 (try dsimp only at H)
 have A8 := Aside0.mk A80
 clear A80
 by_cases c9 : t504 = true
 rotate_left
 ·
  replace c9 := Bool.eq_false_iff.mpr c9
  subst c9
  rw [if_neg (show ¬ (false = true) by decide)] at H
  obtain rfl := Option.some.inj H
  go_enter Try.func18, Try.ntmps18
  go_wp2_with (first | ((with_reducible refine gate_dst (N := 1) rfl ?_); refine box_event ?hg (N := 1) ?hd (cs := #[.slice A0_0 l0_0.length c0_0, .slice A0_1 l0_1.length c0_1, .slice A0_2 l0_2.length c0_2, .slice A0_3 l0_3.length c0_3]) (t := 36) ?hr ?_; (case hd => rfl); (case hg => rfl); (case hr => first | (go_simp; done) | (go_simp; rfl)); intro gb500 hg w20 hbox hb; have BK500 := Aside0.mk (hbox); have GW500 := gw_ w z28_2 hg; have GE500 := gw_ w z28_2 hg; replace HB := Aside0.mk (below_step z28_2 hb); clear hb hbox hg; have hcz21 := bc4 BK500.out) | ((with_reducible refine gate_callee (f := 61) rfl ?_); refine goesL_ (some 5) rfl rfl Try.func61 z28_5 rfl #[.slice A0_0 l0_0.length c0_0] rfl z28_16 ?_; (with_reducible refine (impl_KnowOk.calls k _ _ l0_0 true _ ?side1 ?side2 A2.out).mono ?_); (case side1 => exact z28_25); (case side2 => exact HC0_0.out); rintro e w' ⟨rfl, ⟨nd, rfl⟩⟩; refine ⟨_, rfl, ?_⟩) | (go_at_call 62; (with_reducible refine (impl_talliesOk.calls k _ _ l0_1 true _ ?side1 ?side2 A4.out).mono ?_); (case side1 => exact z28_26); (case side2 => exact HC0_1.out); rintro e w22 ⟨rfl, hb⟩; replace BK500 := bb_ BK500 z28_6 hb; replace HB := Aside0.mk (below_step z28_1 hb); have hcz23 := bc4 BK500.out) | (go_at_call 63; (with_reducible refine (impl_livesOk.calls k _ _ l0_2 _ _ l0_0 true _ ?side1 ?side2 ?side3 ?side4 A6.out).mono ?_); (case side1 => exact z28_27); (case side2 => exact HC0_2.out); (case side3 => exact z28_25); (case side4 => exact HC0_0.out); rintro e w24 ⟨rfl, hb⟩; replace BK500 := bb_ BK500 z28_6 hb; replace HB := Aside0.mk (below_step z28_1 hb); have hcz25 := bc4 BK500.out) | (go_at_call 64; (with_reducible refine (impl_cellsOk.calls k _ _ l0_3 _ _ l0_0 false _ ?side1 ?side2 ?side3 ?side4 A8.out).mono ?_); (case side1 => exact z28_28); (case side2 => exact HC0_3.out); (case side3 => exact z28_25); (case side4 => exact HC0_0.out); rintro e w26 ⟨rfl, hb⟩; replace BK500 := bb_ BK500 z28_6 hb; replace HB := Aside0.mk (below_step z28_1 hb)))
  go_ret
  exact ⟨z28_11, z28_1⟩
 subst c9
 rw [if_pos rfl] at H
 replace H := Option.bind_eq_some_iff.mp H
 obtain ⟨t505, A100, H⟩ := H
 (try dsimp only at H)
 have A10 := Aside0.mk A100
 clear A100
 obtain rfl := Option.some.inj H
 go_enter Try.func18, Try.ntmps18
 go_wp2_with (first | ((with_reducible refine gate_dst (N := 1) rfl ?_); refine box_event ?hg (N := 1) ?hd (cs := #[.slice A0_0 l0_0.length c0_0, .slice A0_1 l0_1.length c0_1, .slice A0_2 l0_2.length c0_2, .slice A0_3 l0_3.length c0_3]) (t := 36) ?hr ?_; (case hd => rfl); (case hg => rfl); (case hr => first | (go_simp; done) | (go_simp; rfl)); intro gb500 hg w11 hbox hb; have BK500 := Aside0.mk (hbox); have GW500 := gw_ w z28_2 hg; have GE500 := gw_ w z28_2 hg; replace HB := Aside0.mk (below_step z28_2 hb); clear hb hbox hg; have hcz12 := bc4 BK500.out) | ((with_reducible refine gate_callee (f := 61) rfl ?_); refine goesL_ (some 5) rfl rfl Try.func61 z28_5 rfl #[.slice A0_0 l0_0.length c0_0] rfl z28_16 ?_; (with_reducible refine (impl_KnowOk.calls k _ _ l0_0 true _ ?side1 ?side2 A2.out).mono ?_); (case side1 => exact z28_25); (case side2 => exact HC0_0.out); rintro e w' ⟨rfl, ⟨nd, rfl⟩⟩; refine ⟨_, rfl, ?_⟩) | (go_at_call 62; (with_reducible refine (impl_talliesOk.calls k _ _ l0_1 true _ ?side1 ?side2 A4.out).mono ?_); (case side1 => exact z28_26); (case side2 => exact HC0_1.out); rintro e w13 ⟨rfl, hb⟩; replace BK500 := bb_ BK500 z28_6 hb; replace HB := Aside0.mk (below_step z28_1 hb); have hcz14 := bc4 BK500.out) | (go_at_call 63; (with_reducible refine (impl_livesOk.calls k _ _ l0_2 _ _ l0_0 true _ ?side1 ?side2 ?side3 ?side4 A6.out).mono ?_); (case side1 => exact z28_27); (case side2 => exact HC0_2.out); (case side3 => exact z28_25); (case side4 => exact HC0_0.out); rintro e w15 ⟨rfl, hb⟩; replace BK500 := bb_ BK500 z28_6 hb; replace HB := Aside0.mk (below_step z28_1 hb); have hcz16 := bc4 BK500.out) | (go_at_call 64; (with_reducible refine (impl_cellsOk.calls k _ _ l0_3 _ _ l0_0 true _ ?side1 ?side2 ?side3 ?side4 A8.out).mono ?_); (case side1 => exact z28_28); (case side2 => exact HC0_3.out); (case side3 => exact z28_25); (case side4 => exact HC0_0.out); rintro e w17 ⟨rfl, hb⟩; replace BK500 := bb_ BK500 z28_6 hb; replace HB := Aside0.mk (below_step z28_1 hb); have hcz18 := bc4 BK500.out) | (go_at_call 65; (with_reducible refine (impl_refsOk.calls _ _ l0_3 t505 _ ?side1 ?side2 A10.out).mono ?_); (case side1 => exact z28_28); (case side2 => exact HC0_3.out); rintro e w19 ⟨rfl, hb⟩; replace BK500 := bb_ BK500 z28_6 hb; replace HB := Aside0.mk (below_step z28_1 hb)))
 go_ret
 exact ⟨z28_11, z28_1⟩
def impl_copyInts.f (l0 : List Int) : Option (List Int) := (some (([] : List Int) : List Int)).bind fun y506 => (if y506.length + l0.length < 17592186044416 then (some (y506 ++ l0)) else (none))
set_option maxHeartbeats 8000000 in
set_option maxRecDepth 100000 in
theorem impl_copyInts.calls (A0 : Option Addr) (c0 : Nat) (l0 : List Int) (r : List Int) (w : World) (hr0 : Kd.C (Kd.int .i64) w A0 l0.length l0) (hc0 : l0.length ≤ c0) (h : impl_copyInts.f l0 = some r) :
  Calls Try.prog 115 #[.slice A0 l0.length c0] w fun e w' => ∃ v0_ : Value, e = .returned (v0_) ∧ Kd.R (Kd.int .i64) 3 w' w.heap.size (fun _ => True) v0_ r ∧ Below w.heap.size w w' := by
 have HR0 := Aside0.mk hr0
 have HC0 := Aside0.mk hc0
 clear hr0 hc0
 have HB := Aside0.mk (Below.refl w.heap.size w)
 have H : ((some (([] : List Int) : List Int)).bind fun y506 => (if y506.length + l0.length < 17592186044416 then (some (y506 ++ l0)) else (none))) = some r := h
 clear h
 obtain ⟨y506, hy506⟩ : ∃ y_ : List Int, y_ = (([] : List Int)) := ⟨_, rfl⟩
 replace H : (if y506.length + l0.length < 17592186044416 then (some (y506 ++ l0)) else (none)) = some r := by first | (rw [hy506]; with_reducible exact H) | (have H2_ := (Option.bind_some _ _).symm.trans H; rw [hy506]; with_reducible exact H2_) | (have H2_ := (Option.bind_some _ _).symm.trans H; with_reducible exact H2_) | with_reducible exact H | (rw [hy506]; exact H) | exact H
 have Ny506 := Aside0.mk hy506
 clear hy506
 by_cases c2 : y506.length + l0.length < 17592186044416
 rotate_left
 ·
  rw [if_neg c2] at H
  exact absurd H (by simp)
 rw [if_pos c2] at H
 have LMc2 := Aside0.mk c2
 clear c2
 obtain ⟨y509, hy509⟩ : ∃ y_ : List Int, y_ = (y506 ++ l0) := ⟨_, rfl⟩
 replace H : (some y509) = some r := by first | (rw [hy509]; with_reducible exact H) | (have H2_ := (Option.bind_some _ _).symm.trans H; rw [hy509]; with_reducible exact H2_) | (have H2_ := (Option.bind_some _ _).symm.trans H; with_reducible exact H2_) | with_reducible exact H | (rw [hy509]; exact H) | exact H
 have Ny509 := Aside0.mk hy509
 clear hy509
 obtain rfl := Option.some.inj H
 go_enter Try.func115, Try.ntmps115
 go_wp2_with (first | ((with_reducible refine gate_dst (N := 3) rfl ?_); refine Kd.R_lit (Kd.int .i64) _ 3 ?hg (N := 3) ?hd (xs := ([] : List Int)) (inner := []) (ok := fun _ => True) (okp := fun _ => True) ?hr ?hp (fun _ hk => hk) trivial (Below.refl _ _) (Nat.le_refl _) (by simp) ?_; (case hd => rfl); (case hg => rfl); (case hr => first | (go_simp; done) | (go_simp; rfl)); (case hp => exact (Reps.none _ _)); intro v507 w3 ho4 hb hg_ hnew_; clear hg_ hnew_; (first | rw [← Ny506.out] at ho4 | (simp only [Int.reduceToNat] at ho4; rw [← Ny506.out] at ho4)); have HO508 := Aside0.mk (Kd.R_lower ho4 (below_size z28_2)); replace HB := Aside0.mk (below_step z28_2 hb); clear hb ho4) | ((with_reducible refine gate_builtin (b := .append) (xs := #[.tmp 3, .tmp 4]) rfl ?_); at_builtin; refine Kd.R_append_rows (Kd.int .i64) (w0 := w) w.heap.size rfl (.tmp 3) (.tmp 4) 22 3 (.int .i64 0) 8 rfl Try.underlying22 info3 rfl (by decide) (by omega) v507 y506 l0 _ _ _ (fun _ => True) (fun _ => False) rfl rfl ?aO ?aR (fun _ _ h => h) (fun _ h => h.elim) ?aF ?aB ?aS ?aL ?_; (case aR => repeat (first | exact (Kd.C_below HR0.out HB.out) | (with_reducible refine Kd.C_alloc ?_ _) | (with_reducible refine Kd.C_drewN ?_ _) | (with_reducible refine Kd.C_drew ?_))); (case aB => exact z28_2); (case aF => exact (fun _ _ => trivial)); (case aO => exact (by (with_reducible repeat (first | apply Kd.R_alloc | apply Kd.R_drewN | apply Kd.R_drew)); exact HO508.out)); (case aS => exact (below_size z28_2)); (case aL => have := LMc2.out; omega); intro v510 w5 ho hb hg hat; rw [← Ny509.out] at ho; replace HB := Aside0.mk (hb); have HO511 := Aside0.mk (ho); clear HO508; clear ho hb hg hat))
 go_ret
 exact ⟨_, z28_11, by (with_reducible repeat (first | apply Kd.R_alloc | apply Kd.R_drewN | apply Kd.R_drew)); exact HO511.out, z28_2⟩
def impl_copyState.f (l0_0 : List Int) (l0_1 : List (S84)) (l0_2 : List (S86)) (l0_3 : List (S73)) : Option (List Int × (List (S84)) × (List (S86)) × (List (S73))) := (impl_copyInts.f l0_0).bind fun t514 => ((some (([] : List (S84)) : List (S84))).bind fun y517 => (if y517.length + l0_1.length < 4398046511104 then ((some (([] : List (S86)) : List (S86))).bind fun y523 => (if y523.length + l0_2.length < 2199023255552 then ((some (([] : List (S73)) : List (S73))).bind fun y529 => (if y529.length + l0_3.length < 1954687338268 then (some (t514, (y517 ++ l0_1), (y523 ++ l0_2), (y529 ++ l0_3))) else (none))) else (none))) else (none)))
def impl_copyState.T1 : Bool × List (List Nat × List Nat) := (true, [([], []), ([0], [0]), ([1], [1]), ([], []), ([], []), ([4], [4]), ([3, 5, 2], [3, 5]), ([], []), ([], []), ([8], [8]), ([7, 9, 6], [7, 9]), ([], []), ([], []), ([12], [12]), ([11, 13, 10], [11, 13]), ([2, 6, 10, 14], [2, 6, 10, 14]), ([15, 14, 0, 1, 2, 3, 4, 5, 6, 7, 8, 9, 10, 11, 12, 13, 14, 15], [15])])
def impl_copyState.B1 : List Nat := [0, 1, 3, 0, 0, 16, 63, 0, 0, 256, 1023, 0, 0, 4096, 16383, 32767, 65535]
theorem impl_copyState.tab1 : rtab .any (opsOf Try.f71 1) = impl_copyState.T1 := by kernel_rfl
theorem impl_copyState.bits1 : waitsOk impl_copyState.T1.2 impl_copyState.B1 = true := by kernel_rfl
set_option maxHeartbeats 8000000 in
set_option maxRecDepth 100000 in
theorem impl_copyState.calls (A0_0 : Option Addr) (c0_0 : Nat) (l0_0 : List Int) (A0_1 : Option Addr) (c0_1 : Nat) (l0_1 : List (S84)) (A0_2 : Option Addr) (c0_2 : Nat) (l0_2 : List (S86)) (A0_3 : Option Addr) (c0_3 : Nat) (l0_3 : List (S73)) (r1 : List Int) (r2 : List (S84)) (r3 : List (S86)) (r4 : List (S73)) (w : World) (hr0_0 : Kd.C (Kd.int .i64) w A0_0 l0_0.length l0_0) (hc0_0 : l0_0.length ≤ c0_0) (hr0_1 : Kd.C k84 w A0_1 l0_1.length l0_1) (hc0_1 : l0_1.length ≤ c0_1) (hr0_2 : Kd.C k86 w A0_2 l0_2.length l0_2) (hc0_2 : l0_2.length ≤ c0_2) (hr0_3 : Kd.C k73 w A0_3 l0_3.length l0_3) (hc0_3 : l0_3.length ≤ c0_3) (h : impl_copyState.f l0_0 l0_1 l0_2 l0_3 = some (r1, r2, r3, r4)) :
  Calls Try.prog 71 #[.agg #[.slice A0_0 l0_0.length c0_0, .slice A0_1 l0_1.length c0_1, .slice A0_2 l0_2.length c0_2, .slice A0_3 l0_3.length c0_3]] w fun e w' => ∃ v0_ v1_ v2_ v3_ : Value, e = .returned (.agg #[v0_, v1_, v2_, v3_]) ∧ Kd.R (Kd.int .i64) 3 w' w.heap.size (fun _ => True) v0_ r1 ∧ Kd.R k84 84 w' w.heap.size (fun _ => True) v1_ r2 ∧ Kd.R k86 86 w' w.heap.size (fun _ => True) v2_ r3 ∧ Kd.R k73 73 w' w.heap.size (fun _ => True) v3_ r4 ∧ Below w.heap.size w w' := by
 have hu36 := Try.underlying36
 have HR0_0 := Aside0.mk hr0_0
 have HC0_0 := Aside0.mk hc0_0
 clear hr0_0 hc0_0
 have HR0_1 := Aside0.mk hr0_1
 have HC0_1 := Aside0.mk hc0_1
 clear hr0_1 hc0_1
 have HR0_2 := Aside0.mk hr0_2
 have HC0_2 := Aside0.mk hc0_2
 clear hr0_2 hc0_2
 have HR0_3 := Aside0.mk hr0_3
 have HC0_3 := Aside0.mk hc0_3
 clear hr0_3 hc0_3
 have HB := Aside0.mk (Below.refl w.heap.size w)
 have H := h
 unfold impl_copyState.f at H
 clear h
 replace H := Option.bind_eq_some_iff.mp H
 obtain ⟨t514, A20, H⟩ := H
 (try dsimp only at H)
 have A2 := Aside0.mk A20
 clear A20
 obtain ⟨y517, hy517⟩ : ∃ y_ : List (S84), y_ = (([] : List (S84))) := ⟨_, rfl⟩
 replace H : (if y517.length + l0_1.length < 4398046511104 then ((some (([] : List (S86)) : List (S86))).bind fun y523 => (if y523.length + l0_2.length < 2199023255552 then ((some (([] : List (S73)) : List (S73))).bind fun y529 => (if y529.length + l0_3.length < 1954687338268 then (some (t514, (y517 ++ l0_1), (y523 ++ l0_2), (y529 ++ l0_3))) else (none))) else (none))) else (none)) = some (r1, r2, r3, r4) := by first | (rw [hy517]; with_reducible exact H) | (have H2_ := (Option.bind_some _ _).symm.trans H; rw [hy517]; with_reducible exact H2_) | (have H2_ := (Option.bind_some _ _).symm.trans H; with_reducible exact H2_) | with_reducible exact H | (rw [hy517]; exact H) | exact H
 have Ny517 := Aside0.mk hy517
 clear hy517
 by_cases c3 : y517.length + l0_1.length < 4398046511104
 rotate_left
 ·
  rw [if_neg c3] at H
  exact absurd H (by simp)
 rw [if_pos c3] at H
 have LMc3 := Aside0.mk c3
 clear c3
 obtain ⟨y520, hy520⟩ : ∃ y_ : List (S84), y_ = (y517 ++ l0_1) := ⟨_, rfl⟩
 replace H : ((some (([] : List (S86)) : List (S86))).bind fun y523 => (if y523.length + l0_2.length < 2199023255552 then ((some (([] : List (S73)) : List (S73))).bind fun y529 => (if y529.length + l0_3.length < 1954687338268 then (some (t514, y520, (y523 ++ l0_2), (y529 ++ l0_3))) else (none))) else (none))) = some (r1, r2, r3, r4) := by first | (rw [hy520]; with_reducible exact H) | (have H2_ := (Option.bind_some _ _).symm.trans H; rw [hy520]; with_reducible exact H2_) | (have H2_ := (Option.bind_some _ _).symm.trans H; with_reducible exact H2_) | with_reducible exact H | (rw [hy520]; exact H) | exact H
 have Ny520 := Aside0.mk hy520
 clear hy520
 obtain ⟨y523, hy523⟩ : ∃ y_ : List (S86), y_ = (([] : List (S86))) := ⟨_, rfl⟩
 replace H : (if y523.length + l0_2.length < 2199023255552 then ((some (([] : List (S73)) : List (S73))).bind fun y529 => (if y529.length + l0_3.length < 1954687338268 then (some (t514, y520, (y523 ++ l0_2), (y529 ++ l0_3))) else (none))) else (none)) = some (r1, r2, r3, r4) := by first | (rw [hy523]; with_reducible exact H) | (have H2_ := (Option.bind_some _ _).symm.trans H; rw [hy523]; with_reducible exact H2_) | (have H2_ := (Option.bind_some _ _).symm.trans H; with_reducible exact H2_) | with_reducible exact H | (rw [hy523]; exact H) | exact H
 have Ny523 := Aside0.mk hy523
 clear hy523
 by_cases c4 : y523.length + l0_2.length < 2199023255552
 rotate_left
 ·
  rw [if_neg c4] at H
  exact absurd H (by simp)
 rw [if_pos c4] at H
 have LMc4 := Aside0.mk c4
 clear c4
 obtain ⟨y526, hy526⟩ : ∃ y_ : List (S86), y_ = (y523 ++ l0_2) := ⟨_, rfl⟩
 replace H : ((some (([] : List (S73)) : List (S73))).bind fun y529 => (if y529.length + l0_3.length < 1954687338268 then (some (t514, y520, y526, (y529 ++ l0_3))) else (none))) = some (r1, r2, r3, r4) := by first | (rw [hy526]; with_reducible exact H) | (have H2_ := (Option.bind_some _ _).symm.trans H; rw [hy526]; with_reducible exact H2_) | (have H2_ := (Option.bind_some _ _).symm.trans H; with_reducible exact H2_) | with_reducible exact H | (rw [hy526]; exact H) | exact H
 have Ny526 := Aside0.mk hy526
 clear hy526
 obtain ⟨y529, hy529⟩ : ∃ y_ : List (S73), y_ = (([] : List (S73))) := ⟨_, rfl⟩
 replace H : (if y529.length + l0_3.length < 1954687338268 then (some (t514, y520, y526, (y529 ++ l0_3))) else (none)) = some (r1, r2, r3, r4) := by first | (rw [hy529]; with_reducible exact H) | (have H2_ := (Option.bind_some _ _).symm.trans H; rw [hy529]; with_reducible exact H2_) | (have H2_ := (Option.bind_some _ _).symm.trans H; with_reducible exact H2_) | with_reducible exact H | (rw [hy529]; exact H) | exact H
 have Ny529 := Aside0.mk hy529
 clear hy529
 by_cases c5 : y529.length + l0_3.length < 1954687338268
 rotate_left
 ·
  rw [if_neg c5] at H
  exact absurd H (by simp)
 rw [if_pos c5] at H
 have LMc5 := Aside0.mk c5
 clear c5
 obtain ⟨y532, hy532⟩ : ∃ y_ : List (S73), y_ = (y529 ++ l0_3) := ⟨_, rfl⟩
 replace H : (some (t514, y520, y526, y532)) = some (r1, r2, r3, r4) := by first | (rw [hy532]; with_reducible exact H) | (have H2_ := (Option.bind_some _ _).symm.trans H; rw [hy532]; with_reducible exact H2_) | (have H2_ := (Option.bind_some _ _).symm.trans H; with_reducible exact H2_) | with_reducible exact H | (rw [hy532]; exact H) | exact H
 have Ny532 := Aside0.mk hy532
 clear hy532
 simp only [Option.some.injEq, Prod.mk.injEq] at H
 obtain ⟨rfl, rfl, rfl, rfl⟩ := H
 go_enter Try.func71, Try.ntmps71
 try go_wp2_with (first | ((with_reducible refine gate_dst (N := 1) rfl ?_); refine box_event ?hg (N := 1) ?hd (cs := #[.slice A0_0 l0_0.length c0_0, .slice A0_1 l0_1.length c0_1, .slice A0_2 l0_2.length c0_2, .slice A0_3 l0_3.length c0_3]) (t := 36) ?hr ?_; (case hd => rfl); (case hg => rfl); (case hr => first | (go_simp; done) | (go_simp; rfl)); intro gb512 hg w6 hbox hb; have BK512 := Aside0.mk (hbox); have GW512 := gw_ w z28_2 hg; have GE512 := gw_ w z28_2 hg; replace HB := Aside0.mk (below_step z28_2 hb); clear hb hbox hg) | ((with_reducible refine gate_dst (N := 2) rfl ?_); refine box_event ?hg (N := 2) ?hd (cs := #[.slice none 0 0, .slice none 0 0, .slice none 0 0, .slice none 0 0]) (t := 36) ?hr ?_; (case hd => rfl); (case hg => rfl); (case hr => first | (go_simp; done) | (go_simp; rfl)); intro gb513 hg w7 hbox hb; have BK513 := Aside0.mk (hbox); have GW513 := gw_ w z28_18 hg; have GE513 := gw_ w z28_18 hg; replace HB := Aside0.mk (below_step z28_18 hb); have NB512_513 := nb_ BK512 z28_3 hg; have NB513_512 := nc_ BK512 z28_3 hg; replace BK512 := bb_ BK512 z28_3 hb; clear hb hbox hg))
 replace BK512 := Aside0.mk (blk_drew BK512.out)
 replace BK513 := Aside0.mk (blk_drew BK513.out)
 replace HB := Aside0.mk (below_drew1 HB.out)
 refine start_ (n := 17) (S := fun w' => True) (ds := []) mk28_0 z28_5 rfl rfl trivial (fun hHeld => ?_); refine with_tabW impl_copyState.tab1 impl_copyState.bits1 (fun HT_ HW_ => ?_)
 generalize w7.drew = w8 at BK512 BK513 HB hHeld ⊢
 refine p_ (i := 0) (N := some 3) mk28_1 ?_ (hv := z28_24) (ha := z28_20)
 refine p_ (i := 4) (N := some 7) mk28_2 ?_ (hv := z28_24) (ha := z28_20)
 refine p_ (i := 8) (N := some 11) mk28_3 ?_ (hv := z28_24) (ha := z28_20)
 refine p_ (i := 12) (N := some 15) mk28_4 ?_ (hv := z28_24) (ha := z28_20)
 refine inv_at [1, 2, 3, 5, 6, 7, 9, 10, 11, 13, 14, 15, 16] (fun a0_ b a w' => ∃ (v515 : Value) (v518 : Value) (v521 : Value) (v524 : Value) (v527 : Value) (v530 : Value) (v533 : Value) (m15_ : Value), a = putSel a0_ b [(1, 4, .slice A0_0 l0_0.length c0_0), (2, 5, v515), (3, 6, v518), (5, 8, .slice A0_1 l0_1.length c0_1), (6, 9, v521), (7, 10, v524), (9, 12, .slice A0_2 l0_2.length c0_2), (10, 13, v527), (11, 14, v530), (13, 16, .slice A0_3 l0_3.length c0_3), (14, 17, v533), (15, 18, m15_)] ∧ (w'.heap[gb512]? = some (.cells #[.slice A0_0 l0_0.length c0_0, .slice A0_1 l0_1.length c0_1, .slice A0_2 l0_2.length c0_2, .slice A0_3 l0_3.length c0_3] 36 (0, 0))) ∧ (b 16 = false → w'.heap[gb513]? = some (.cells #[.slice none 0 0, .slice none 0 0, .slice none 0 0, .slice none 0 0] 36 (0, 0))) ∧ (Below w.heap.size w w') ∧ (b 2 = true → Kd.R (Kd.int .i64) 3 w' w.heap.size (fun _ => True) v515 t514) ∧ (b 3 = true → b 6 = false → Kd.R k84 84 w' w.heap.size (fun _ => True) v518 y517) ∧ (b 6 = true → Kd.R k84 84 w' w.heap.size (fun _ => True) v521 y520) ∧ (b 7 = true → b 10 = false → Kd.R k86 86 w' w.heap.size (fun _ => True) v524 y523) ∧ (b 10 = true → Kd.R k86 86 w' w.heap.size (fun _ => True) v527 y526) ∧ (b 11 = true → b 14 = false → Kd.R k73 73 w' w.heap.size (fun _ => True) v530 y529) ∧ (b 14 = true → Kd.R k73 73 w' w.heap.size (fun _ => True) v533 y532) ∧ (b 16 = true → w'.heap[gb513]? = some (.cells #[v515, v521, v527, v533] 36 (0, 0))) ∧ (b 15 = true → (m15_ : Value) = .agg #[v515, v521, v527, v533])) HT_.out HW_.out z28_5 z28_5 ?_ ?_ ?_
 ·
  exact ⟨.bool false, .bool false, .bool false, .bool false, .bool false, .bool false, .bool false, .bool false, by simp only [putSel, Bool.false_eq_true, if_false], BK512.out, fun _ => BK513.out, HB.out, fun h_ => absurd h_ (by decide), fun h_ => absurd h_ (by decide), fun h_ => absurd h_ (by decide), fun h_ => absurd h_ (by decide), fun h_ => absurd h_ (by decide), fun h_ => absurd h_ (by decide), fun h_ => absurd h_ (by decide), fun h_ => absurd h_ (by decide), fun h_ => absurd h_ (by decide)⟩
 ·
  skip
  clear BK512 BK513 HB
  refine steps_cons ?_ ?_
  ·
   rintro b a w' ⟨v515, v518, v521, v524, v527, v530, v533, m15_, ha, Q_BK512, Q_BK513, Q_HB, Q_HO516, Q_HO519, Q_HO522, Q_HO525, Q_HO528, Q_HO531, Q_HO534, Q_BK513_e16, Q_X15_⟩ hb_ hon hoff
   refine ⟨_, rfl, fun K hK => ?_⟩
   have e3 : a.tmps[3]? = some (.pointer (some ⟨gb512, 0, none⟩)) := by rw [ha]; exact (putSel_off rfl).trans rfl
   replace ha := Aside0.mk ha
   have BK512 := Aside0.mk Q_BK512
   have BK513 := Aside0.mk (Q_BK513 (hoff 16 z28_5))
   have HB := Aside0.mk Q_HB
   have hc0_ : w'.cell? ⟨gb512, 0, none⟩ = some (.slice A0_0 l0_0.length c0_0) := bc_ BK512 0
   have hc1_ : w'.cell? ⟨gb512, 1, none⟩ = some (.slice A0_1 l0_1.length c0_1) := bc_ BK512 1
   have hc2_ : w'.cell? ⟨gb512, 2, none⟩ = some (.slice A0_2 l0_2.length c0_2) := bc_ BK512 2
   have hc3_ : w'.cell? ⟨gb512, 3, none⟩ = some (.slice A0_3 l0_3.length c0_3) := bc_ BK512 3
   refine value_ (w1 := w') (v := .slice A0_0 l0_0.length c0_0) (by rfl) rfl ?_ ?_
   ·
    go_simp
    (try simp only [i64_w])
    try rfl
   refine hK.out _ _ ⟨v515, v518, v521, v524, v527, v530, v533, m15_, (by rw [ha.out]; exact putSel_upk 0 hb_ rfl rfl rfl), Q_BK512, Q_BK513, Q_HB, fun h0_ => absurd ((hoff 2 z28_5).symm.trans h0_) (by decide), Q_HO519, fun h0_ => absurd ((hoff 6 z28_5).symm.trans h0_) (by decide), Q_HO525, fun h0_ => absurd ((hoff 10 z28_5).symm.trans h0_) (by decide), Q_HO531, fun h0_ => absurd ((hoff 14 z28_5).symm.trans h0_) (by decide), fun h0_ => absurd ((hoff 16 z28_5).symm.trans h0_) (by decide), fun h0_ => absurd ((hoff 15 z28_5).symm.trans h0_) (by decide)⟩
  refine steps_cons ?_ ?_
  ·
   rintro b a w' ⟨v515, v518, v521, v524, v527, v530, v533, m15_, ha, Q_BK512, Q_BK513, Q_HB, Q_HO516, Q_HO519, Q_HO522, Q_HO525, Q_HO528, Q_HO531, Q_HO534, Q_BK513_e16, Q_X15_⟩ hb_ hon hoff
   refine ⟨_, rfl, fun K hK => ?_⟩
   have e4 : a.tmps[4]? = some (.slice A0_0 l0_0.length c0_0) := by rw [ha]; exact putSel_on (e := (1, 4, .slice A0_0 l0_0.length c0_0)) 0 rfl rfl (hon 1 z28_5) rfl
   replace ha := Aside0.mk ha
   have BK512 := Aside0.mk Q_BK512
   have BK513 := Aside0.mk (Q_BK513 (hoff 16 z28_5))
   have HB := Aside0.mk Q_HB
   refine goes_ Try.func115 z28_5 rfl #[.slice A0_0 l0_0.length c0_0] (by rfl) rfl rfl (by first | (simp only [List.map_toArray, List.map_cons, List.map_nil, Act.eval, Array.getD_eq_getD_getElem?, Option.getD_some, e4]; done) | (simp only [List.map_toArray, List.map_cons, List.map_nil, Act.eval, Array.getD_eq_getD_getElem?, Option.getD_some, e4]; rfl)) ?_
   with_reducible refine (impl_copyInts.calls _ _ l0_0 t514 _ ?side1 ?side2 A2.out).mono ?_
   (case side1 => exact z28_25)
   (case side2 => exact HC0_0.out)
   rintro e w9 ⟨v515, rfl, ho0, hb⟩
   refine ⟨_, rfl, ?_⟩
   have n0_ := Aside0.mk (Kd.R_lower ho0 (below_size z28_0))
   have n1_ := Aside0.mk (blk_below (g := gb512) (o := .cells #[.slice A0_0 l0_0.length c0_0, .slice A0_1 l0_1.length c0_1, .slice A0_2 l0_2.length c0_2, .slice A0_3 l0_3.length c0_3] 36 (0, 0)) z28_3 hb)
   have n2_ := Aside0.mk (blk_below (g := gb513) (o := .cells #[.slice none 0 0, .slice none 0 0, .slice none 0 0, .slice none 0 0] 36 (0, 0)) z28_4 hb)
   have n3_ := Aside0.mk (below_step z28_0 hb)
   have z_HO519 := fun (h0_ : b 3 = true) (h1_ : b 6 = false) => (show Kd.R k84 84 w9 w.heap.size (fun _ => True) v518 y517 from by first | exact (Kd.R_below z28_12 hb) | exact Kd.R_mono (Kd.R_below z28_12 hb) (fun _ h_ => by first | trivial | exact h_ | exact h_.1))
   have z_HO525 := fun (h0_ : b 7 = true) (h1_ : b 10 = false) => (show Kd.R k86 86 w9 w.heap.size (fun _ => True) v524 y523 from by first | exact (Kd.R_below z28_8 hb) | exact Kd.R_mono (Kd.R_below z28_8 hb) (fun _ h_ => by first | trivial | exact h_ | exact h_.1))
   have z_HO531 := fun (h0_ : b 11 = true) (h1_ : b 14 = false) => (show Kd.R k73 73 w9 w.heap.size (fun _ => True) v530 y529 from by first | exact (Kd.R_below z28_7 hb) | exact Kd.R_mono (Kd.R_below z28_7 hb) (fun _ h_ => by first | trivial | exact h_ | exact h_.1))
   clear BK512
   clear BK513
   clear HB
   have HO516 := n0_
   have BK512 := n1_
   have BK513 := n2_
   have HB := n3_
   clear n0_ n1_ n2_ n3_
   (try clear hb)
   (try clear hb2)
   (try clear hk)
   (try clear hi)
   (try clear ho0)
   refine hK.out _ _ ⟨v515, v518, v521, v524, v527, v530, v533, m15_, (by rw [ha.out]; exact putSel_upk 1 hb_ rfl rfl rfl), z28_3, fun _ => z28_4, z28_0, fun _ => z28_9, z_HO519, fun h0_ => absurd ((hoff 6 z28_5).symm.trans h0_) (by decide), z_HO525, fun h0_ => absurd ((hoff 10 z28_5).symm.trans h0_) (by decide), z_HO531, fun h0_ => absurd ((hoff 14 z28_5).symm.trans h0_) (by decide), fun h0_ => absurd ((hoff 16 z28_5).symm.trans h0_) (by decide), fun h0_ => absurd ((hoff 15 z28_5).symm.trans h0_) (by decide)⟩
  refine steps_cons ?_ ?_
  ·
   rintro b a w' ⟨v515, v518, v521, v524, v527, v530, v533, m15_, ha, Q_BK512, Q_BK513, Q_HB, Q_HO516, Q_HO519, Q_HO522, Q_HO525, Q_HO528, Q_HO531, Q_HO534, Q_BK513_e16, Q_X15_⟩ hb_ hon hoff
   refine ⟨_, rfl, fun K hK => ?_⟩
   replace ha := Aside0.mk ha
   have BK512 := Aside0.mk Q_BK512
   have BK513 := Aside0.mk (Q_BK513 (hoff 16 z28_5))
   have HB := Aside0.mk Q_HB
   refine Kd.R_lit_step k84 _ 84 ?hg (N := 6) ?hd (xs := ([] : List (S84))) (inner := []) (ok := fun _ => True) (okp := fun _ => True) ?hr ?hp (fun _ hk => hk) trivial (Below.refl _ _) (Nat.le_refl _) (by simp) ?_; (case hd => rfl); (case hg => rfl); (case hr => first | (go_simp; done) | (go_simp; rfl)); (case hp => exact (Reps.none _ _))
   intro v518 w9 ho10 hb hg_ hnew_
   clear hg_ hnew_
   (first | rw [← Ny517.out] at ho10 | (simp only [Int.reduceToNat] at ho10; rw [← Ny517.out] at ho10))
   have n0_ := Aside0.mk (Kd.R_lower ho10 (below_size z28_0))
   have n1_ := Aside0.mk (blk_below (g := gb512) (o := .cells #[.slice A0_0 l0_0.length c0_0, .slice A0_1 l0_1.length c0_1, .slice A0_2 l0_2.length c0_2, .slice A0_3 l0_3.length c0_3] 36 (0, 0)) z28_3 hb)
   have n2_ := Aside0.mk (blk_below (g := gb513) (o := .cells #[.slice none 0 0, .slice none 0 0, .slice none 0 0, .slice none 0 0] 36 (0, 0)) z28_4 hb)
   have n3_ := Aside0.mk (below_step z28_0 hb)
   have z_HO516 := fun (h0_ : b 2 = true) => (show Kd.R (Kd.int .i64) 3 w9 w.heap.size (fun _ => True) v515 t514 from by first | exact (Kd.R_below z28_13 hb) | exact Kd.R_mono (Kd.R_below z28_13 hb) (fun _ h_ => by first | trivial | exact h_ | exact h_.1))
   have z_HO525 := fun (h0_ : b 7 = true) (h1_ : b 10 = false) => (show Kd.R k86 86 w9 w.heap.size (fun _ => True) v524 y523 from by first | exact (Kd.R_below z28_8 hb) | exact Kd.R_mono (Kd.R_below z28_8 hb) (fun _ h_ => by first | trivial | exact h_ | exact h_.1))
   have z_HO531 := fun (h0_ : b 11 = true) (h1_ : b 14 = false) => (show Kd.R k73 73 w9 w.heap.size (fun _ => True) v530 y529 from by first | exact (Kd.R_below z28_7 hb) | exact Kd.R_mono (Kd.R_below z28_7 hb) (fun _ h_ => by first | trivial | exact h_ | exact h_.1))
   clear BK512
   clear BK513
   clear HB
   have HO519 := n0_
   have BK512 := n1_
   have BK513 := n2_
   have HB := n3_
   clear n0_ n1_ n2_ n3_
   clear hb ho10
   refine hK.out _ _ ⟨v515, v518, v521, v524, v527, v530, v533, m15_, (by rw [ha.out]; exact putSel_upk 2 hb_ rfl rfl rfl), z28_3, fun _ => z28_4, z28_0, z_HO516, fun _ _ => z28_10, fun h0_ => absurd ((hoff 6 z28_5).symm.trans h0_) (by decide), z_HO525, fun h0_ => absurd ((hoff 10 z28_5).symm.trans h0_) (by decide), z_HO531, fun h0_ => absurd ((hoff 14 z28_5).symm.trans h0_) (by decide), fun h0_ => absurd ((hoff 16 z28_5).symm.trans h0_) (by decide), fun h0_ => absurd ((hoff 15 z28_5).symm.trans h0_) (by decide)⟩
  refine steps_cons ?_ ?_
  ·
   rintro b a w' ⟨v515, v518, v521, v524, v527, v530, v533, m15_, ha, Q_BK512, Q_BK513, Q_HB, Q_HO516, Q_HO519, Q_HO522, Q_HO525, Q_HO528, Q_HO531, Q_HO534, Q_BK513_e16, Q_X15_⟩ hb_ hon hoff
   refine ⟨_, rfl, fun K hK => ?_⟩
   have e7 : a.tmps[7]? = some (.pointer (some ⟨gb512, 1, none⟩)) := by rw [ha]; exact (putSel_off rfl).trans rfl
   replace ha := Aside0.mk ha
   have BK512 := Aside0.mk Q_BK512
   have BK513 := Aside0.mk (Q_BK513 (hoff 16 z28_5))
   have HB := Aside0.mk Q_HB
   have hc0_ : w'.cell? ⟨gb512, 0, none⟩ = some (.slice A0_0 l0_0.length c0_0) := bc_ BK512 0
   have hc1_ : w'.cell? ⟨gb512, 1, none⟩ = some (.slice A0_1 l0_1.length c0_1) := bc_ BK512 1
   have hc2_ : w'.cell? ⟨gb512, 2, none⟩ = some (.slice A0_2 l0_2.length c0_2) := bc_ BK512 2
   have hc3_ : w'.cell? ⟨gb512, 3, none⟩ = some (.slice A0_3 l0_3.length c0_3) := bc_ BK512 3
   refine value_ (w1 := w') (v := .slice A0_1 l0_1.length c0_1) (by rfl) rfl ?_ ?_
   ·
    go_simp
    (try simp only [i64_w])
    try rfl
   refine hK.out _ _ ⟨v515, v518, v521, v524, v527, v530, v533, m15_, (by rw [ha.out]; exact putSel_upk 3 hb_ rfl rfl rfl), Q_BK512, Q_BK513, Q_HB, Q_HO516, Q_HO519, fun h0_ => absurd ((hoff 6 z28_5).symm.trans h0_) (by decide), Q_HO525, fun h0_ => absurd ((hoff 10 z28_5).symm.trans h0_) (by decide), Q_HO531, fun h0_ => absurd ((hoff 14 z28_5).symm.trans h0_) (by decide), fun h0_ => absurd ((hoff 16 z28_5).symm.trans h0_) (by decide), fun h0_ => absurd ((hoff 15 z28_5).symm.trans h0_) (by decide)⟩
  refine steps_cons ?_ ?_
  ·
   rintro b a w' ⟨v515, v518, v521, v524, v527, v530, v533, m15_, ha, Q_BK512, Q_BK513, Q_HB, Q_HO516, Q_HO519, Q_HO522, Q_HO525, Q_HO528, Q_HO531, Q_HO534, Q_BK513_e16, Q_X15_⟩ hb_ hon hoff
   refine ⟨_, rfl, fun K hK => ?_⟩
   have e6 : a.tmps[6]? = some (v518) := by rw [ha]; exact putSel_on (e := (3, 6, v518)) 2 rfl rfl (hon 3 z28_5) rfl
   have e8 : a.tmps[8]? = some (.slice A0_1 l0_1.length c0_1) := by rw [ha]; exact putSel_on (e := (5, 8, .slice A0_1 l0_1.length c0_1)) 3 rfl rfl (hon 5 z28_5) rfl
   replace ha := Aside0.mk ha
   have BK512 := Aside0.mk Q_BK512
   have BK513 := Aside0.mk (Q_BK513 (hoff 16 z28_5))
   have HB := Aside0.mk Q_HB
   have HO516 := Aside0.mk (Q_HO516 (hon 2 z28_5))
   have HO519 := Aside0.mk (Q_HO519 (hon 3 z28_5) hb_)
   refine Kd.R_append_rows_step k84 (w0 := w) w.heap.size (by rfl) (.tmp 6) (.tmp 8) 32 84 (.agg #[(.string ⟨#[]⟩), (.int .i64 0), (.int .i64 0)]) 32 rfl Try.underlying32 info84 rfl (by decide) (by omega) v518 y517 l0_1 _ _ _ (fun _ => True) (fun _ => False) (ev_ e6) (ev_ e8) ?aO ?aR (fun _ _ h => h) (fun _ h => h.elim) ?aF ?aB ?aS ?aL ?_
   (case aR => repeat (first | exact (Kd.C_below HR0_1.out HB.out) | (with_reducible refine Kd.C_alloc ?_ _) | (with_reducible refine Kd.C_drewN ?_ _) | (with_reducible refine Kd.C_drew ?_)))
   (case aB => exact z28_0)
   (case aF => exact (fun _ _ => trivial))
   (case aO => exact z28_10)
   (case aS => exact (below_size z28_0))
   (case aL => have := LMc3.out; omega)
   intro v521 w13 ho hb hg hat
   rw [← Ny520.out] at ho
   have n0_ := Aside0.mk (blk_grown (g := gb512) (o := .cells #[.slice A0_0 l0_0.length c0_0, .slice A0_1 l0_1.length c0_1, .slice A0_2 l0_2.length c0_2, .slice A0_3 l0_3.length c0_3] 36 (0, 0)) z28_3 hg (Kd.R_ne HO519.out BK512.out (by decide)))
   have n1_ := Aside0.mk (blk_grown (g := gb513) (o := .cells #[.slice none 0 0, .slice none 0 0, .slice none 0 0, .slice none 0 0] 36 (0, 0)) z28_4 hg (Kd.R_ne HO519.out BK513.out (by decide)))
   have n2_ := Aside0.mk (Kd.R_over' z28_9 (Kd.R_typed z28_10) (by decide) hg)
   have n3_ := Aside0.mk (hb)
   have n4_ := Aside0.mk (ho)
   have z_HO525 := fun (h0_ : b 7 = true) (h1_ : b 10 = false) => (show Kd.R k86 86 w13 w.heap.size (fun _ => True) v524 y523 from by first | exact (Kd.R_over' z28_8 (Kd.R_typed z28_10) (by decide) hg) | exact Kd.R_mono (Kd.R_over' z28_8 (Kd.R_typed z28_10) (by decide) hg) (fun _ h_ => by first | trivial | exact h_ | exact h_.1))
   have z_HO531 := fun (h0_ : b 11 = true) (h1_ : b 14 = false) => (show Kd.R k73 73 w13 w.heap.size (fun _ => True) v530 y529 from by first | exact (Kd.R_over' z28_7 (Kd.R_typed z28_10) (by decide) hg) | exact Kd.R_mono (Kd.R_over' z28_7 (Kd.R_typed z28_10) (by decide) hg) (fun _ h_ => by first | trivial | exact h_ | exact h_.1))
   clear BK512
   clear BK513
   clear HO516
   clear HB
   clear HO519
   have BK512 := n0_
   have BK513 := n1_
   have HO516 := n2_
   have HB := n3_
   have HO522 := n4_
   clear n0_ n1_ n2_ n3_ n4_
   clear ho hb hg hat
   refine hK.out _ _ ⟨v515, v518, v521, v524, v527, v530, v533, m15_, (by rw [ha.out]; exact putSel_upk 4 hb_ rfl rfl rfl), z28_3, fun _ => z28_4, z28_0, fun _ => z28_9, fun _ h1_ => absurd ((up_self b 6).symm.trans h1_) (by decide), fun _ => z28_15, z_HO525, fun h0_ => absurd ((hoff 10 z28_5).symm.trans h0_) (by decide), z_HO531, fun h0_ => absurd ((hoff 14 z28_5).symm.trans h0_) (by decide), fun h0_ => absurd ((hoff 16 z28_5).symm.trans h0_) (by decide), fun h0_ => absurd ((hoff 15 z28_5).symm.trans h0_) (by decide)⟩
  refine steps_cons ?_ ?_
  ·
   rintro b a w' ⟨v515, v518, v521, v524, v527, v530, v533, m15_, ha, Q_BK512, Q_BK513, Q_HB, Q_HO516, Q_HO519, Q_HO522, Q_HO525, Q_HO528, Q_HO531, Q_HO534, Q_BK513_e16, Q_X15_⟩ hb_ hon hoff
   refine ⟨_, rfl, fun K hK => ?_⟩
   replace ha := Aside0.mk ha
   have BK512 := Aside0.mk Q_BK512
   have BK513 := Aside0.mk (Q_BK513 (hoff 16 z28_5))
   have HB := Aside0.mk Q_HB
   refine Kd.R_lit_step k86 _ 86 ?hg (N := 10) ?hd (xs := ([] : List (S86))) (inner := []) (ok := fun _ => True) (okp := fun _ => True) ?hr ?hp (fun _ hk => hk) trivial (Below.refl _ _) (Nat.le_refl _) (by simp) ?_; (case hd => rfl); (case hg => rfl); (case hr => first | (go_simp; done) | (go_simp; rfl)); (case hp => exact (Reps.none _ _))
   intro v524 w9 ho10 hb hg_ hnew_
   clear hg_ hnew_
   (first | rw [← Ny523.out] at ho10 | (simp only [Int.reduceToNat] at ho10; rw [← Ny523.out] at ho10))
   have n0_ := Aside0.mk (Kd.R_lower ho10 (below_size z28_0))
   have n1_ := Aside0.mk (blk_below (g := gb512) (o := .cells #[.slice A0_0 l0_0.length c0_0, .slice A0_1 l0_1.length c0_1, .slice A0_2 l0_2.length c0_2, .slice A0_3 l0_3.length c0_3] 36 (0, 0)) z28_3 hb)
   have n2_ := Aside0.mk (blk_below (g := gb513) (o := .cells #[.slice none 0 0, .slice none 0 0, .slice none 0 0, .slice none 0 0] 36 (0, 0)) z28_4 hb)
   have n3_ := Aside0.mk (below_step z28_0 hb)
   have z_HO516 := fun (h0_ : b 2 = true) => (show Kd.R (Kd.int .i64) 3 w9 w.heap.size (fun _ => True) v515 t514 from by first | exact (Kd.R_below z28_13 hb) | exact Kd.R_mono (Kd.R_below z28_13 hb) (fun _ h_ => by first | trivial | exact h_ | exact h_.1))
   have z_HO519 := fun (h0_ : b 3 = true) (h1_ : b 6 = false) => (show Kd.R k84 84 w9 w.heap.size (fun _ => True) v518 y517 from by first | exact (Kd.R_below z28_12 hb) | exact Kd.R_mono (Kd.R_below z28_12 hb) (fun _ h_ => by first | trivial | exact h_ | exact h_.1))
   have z_HO522 := fun (h0_ : b 6 = true) => (show Kd.R k84 84 w9 w.heap.size (fun _ => True) v521 y520 from by first | exact (Kd.R_below z28_19 hb) | exact Kd.R_mono (Kd.R_below z28_19 hb) (fun _ h_ => by first | trivial | exact h_ | exact h_.1))
   have z_HO531 := fun (h0_ : b 11 = true) (h1_ : b 14 = false) => (show Kd.R k73 73 w9 w.heap.size (fun _ => True) v530 y529 from by first | exact (Kd.R_below z28_7 hb) | exact Kd.R_mono (Kd.R_below z28_7 hb) (fun _ h_ => by first | trivial | exact h_ | exact h_.1))
   clear BK512
   clear BK513
   clear HB
   have HO525 := n0_
   have BK512 := n1_
   have BK513 := n2_
   have HB := n3_
   clear n0_ n1_ n2_ n3_
   clear hb ho10
   refine hK.out _ _ ⟨v515, v518, v521, v524, v527, v530, v533, m15_, (by rw [ha.out]; exact putSel_upk 5 hb_ rfl rfl rfl), z28_3, fun _ => z28_4, z28_0, z_HO516, z_HO519, z_HO522, fun _ _ => z28_14, fun h0_ => absurd ((hoff 10 z28_5).symm.trans h0_) (by decide), z_HO531, fun h0_ => absurd ((hoff 14 z28_5).symm.trans h0_) (by decide), fun h0_ => absurd ((hoff 16 z28_5).symm.trans h0_) (by decide), fun h0_ => absurd ((hoff 15 z28_5).symm.trans h0_) (by decide)⟩
  refine steps_cons ?_ ?_
  ·
   rintro b a w' ⟨v515, v518, v521, v524, v527, v530, v533, m15_, ha, Q_BK512, Q_BK513, Q_HB, Q_HO516, Q_HO519, Q_HO522, Q_HO525, Q_HO528, Q_HO531, Q_HO534, Q_BK513_e16, Q_X15_⟩ hb_ hon hoff
   refine ⟨_, rfl, fun K hK => ?_⟩
   have e11 : a.tmps[11]? = some (.pointer (some ⟨gb512, 2, none⟩)) := by rw [ha]; exact (putSel_off rfl).trans rfl
   replace ha := Aside0.mk ha
   have BK512 := Aside0.mk Q_BK512
   have BK513 := Aside0.mk (Q_BK513 (hoff 16 z28_5))
   have HB := Aside0.mk Q_HB
   have hc0_ : w'.cell? ⟨gb512, 0, none⟩ = some (.slice A0_0 l0_0.length c0_0) := bc_ BK512 0
   have hc1_ : w'.cell? ⟨gb512, 1, none⟩ = some (.slice A0_1 l0_1.length c0_1) := bc_ BK512 1
   have hc2_ : w'.cell? ⟨gb512, 2, none⟩ = some (.slice A0_2 l0_2.length c0_2) := bc_ BK512 2
   have hc3_ : w'.cell? ⟨gb512, 3, none⟩ = some (.slice A0_3 l0_3.length c0_3) := bc_ BK512 3
   refine value_ (w1 := w') (v := .slice A0_2 l0_2.length c0_2) (by rfl) rfl ?_ ?_
   ·
    go_simp
    (try simp only [i64_w])
    try rfl
   refine hK.out _ _ ⟨v515, v518, v521, v524, v527, v530, v533, m15_, (by rw [ha.out]; exact putSel_upk 6 hb_ rfl rfl rfl), Q_BK512, Q_BK513, Q_HB, Q_HO516, Q_HO519, Q_HO522, Q_HO525, fun h0_ => absurd ((hoff 10 z28_5).symm.trans h0_) (by decide), Q_HO531, fun h0_ => absurd ((hoff 14 z28_5).symm.trans h0_) (by decide), fun h0_ => absurd ((hoff 16 z28_5).symm.trans h0_) (by decide), fun h0_ => absurd ((hoff 15 z28_5).symm.trans h0_) (by decide)⟩
  refine steps_cons ?_ ?_
  ·
   rintro b a w' ⟨v515, v518, v521, v524, v527, v530, v533, m15_, ha, Q_BK512, Q_BK513, Q_HB, Q_HO516, Q_HO519, Q_HO522, Q_HO525, Q_HO528, Q_HO531, Q_HO534, Q_BK513_e16, Q_X15_⟩ hb_ hon hoff
   refine ⟨_, rfl, fun K hK => ?_⟩
   have e10 : a.tmps[10]? = some (v524) := by rw [ha]; exact putSel_on (e := (7, 10, v524)) 5 rfl rfl (hon 7 z28_5) rfl
   have e12 : a.tmps[12]? = some (.slice A0_2 l0_2.length c0_2) := by rw [ha]; exact putSel_on (e := (9, 12, .slice A0_2 l0_2.length c0_2)) 6 rfl rfl (hon 9 z28_5) rfl
   replace ha := Aside0.mk ha
   have BK512 := Aside0.mk Q_BK512
   have BK513 := Aside0.mk (Q_BK513 (hoff 16 z28_5))
   have HB := Aside0.mk Q_HB
   have HO516 := Aside0.mk (Q_HO516 (hon 2 z28_5))
   have HO522 := Aside0.mk (Q_HO522 (hon 6 z28_5))
   have HO525 := Aside0.mk (Q_HO525 (hon 7 z28_5) hb_)
   refine Kd.R_append_rows_step k86 (w0 := w) w.heap.size (by rfl) (.tmp 10) (.tmp 12) 33 86 (.agg #[(.bool false), (.string ⟨#[]⟩), (.string ⟨#[]⟩), (.int .i64 0), (.int .i64 0), (.int .i64 0)]) 64 rfl Try.underlying33 info86 rfl (by decide) (by omega) v524 y523 l0_2 _ _ _ (fun _ => True) (fun _ => False) (ev_ e10) (ev_ e12) ?aO ?aR (fun _ _ h => h) (fun _ h => h.elim) ?aF ?aB ?aS ?aL ?_
   (case aR => repeat (first | exact (Kd.C_below HR0_2.out HB.out) | (with_reducible refine Kd.C_alloc ?_ _) | (with_reducible refine Kd.C_drewN ?_ _) | (with_reducible refine Kd.C_drew ?_)))
   (case aB => exact z28_0)
   (case aF => exact (fun _ _ => trivial))
   (case aO => exact z28_14)
   (case aS => exact (below_size z28_0))
   (case aL => have := LMc4.out; omega)
   intro v527 w16 ho hb hg hat
   rw [← Ny526.out] at ho
   have n0_ := Aside0.mk (blk_grown (g := gb512) (o := .cells #[.slice A0_0 l0_0.length c0_0, .slice A0_1 l0_1.length c0_1, .slice A0_2 l0_2.length c0_2, .slice A0_3 l0_3.length c0_3] 36 (0, 0)) z28_3 hg (Kd.R_ne HO525.out BK512.out (by decide)))
   have n1_ := Aside0.mk (blk_grown (g := gb513) (o := .cells #[.slice none 0 0, .slice none 0 0, .slice none 0 0, .slice none 0 0] 36 (0, 0)) z28_4 hg (Kd.R_ne HO525.out BK513.out (by decide)))
   have n2_ := Aside0.mk (Kd.R_over' z28_9 (Kd.R_typed z28_14) (by decide) hg)
   have n3_ := Aside0.mk (Kd.R_over' z28_15 (Kd.R_typed z28_14) (by decide) hg)
   have n4_ := Aside0.mk (hb)
   have n5_ := Aside0.mk (ho)
   have z_HO531 := fun (h0_ : b 11 = true) (h1_ : b 14 = false) => (show Kd.R k73 73 w16 w.heap.size (fun _ => True) v530 y529 from by first | exact (Kd.R_over' z28_7 (Kd.R_typed z28_14) (by decide) hg) | exact Kd.R_mono (Kd.R_over' z28_7 (Kd.R_typed z28_14) (by decide) hg) (fun _ h_ => by first | trivial | exact h_ | exact h_.1))
   clear BK512
   clear BK513
   clear HO516
   clear HO522
   clear HB
   clear HO525
   have BK512 := n0_
   have BK513 := n1_
   have HO516 := n2_
   have HO522 := n3_
   have HB := n4_
   have HO528 := n5_
   clear n0_ n1_ n2_ n3_ n4_ n5_
   clear ho hb hg hat
   refine hK.out _ _ ⟨v515, v518, v521, v524, v527, v530, v533, m15_, (by rw [ha.out]; exact putSel_upk 7 hb_ rfl rfl rfl), z28_3, fun _ => z28_4, z28_0, fun _ => z28_9, fun _ h1_ => absurd ((hon 6 z28_5).symm.trans h1_) (by decide), fun _ => z28_15, fun _ h1_ => absurd ((up_self b 10).symm.trans h1_) (by decide), fun _ => z28_21, z_HO531, fun h0_ => absurd ((hoff 14 z28_5).symm.trans h0_) (by decide), fun h0_ => absurd ((hoff 16 z28_5).symm.trans h0_) (by decide), fun h0_ => absurd ((hoff 15 z28_5).symm.trans h0_) (by decide)⟩
  refine steps_cons ?_ ?_
  ·
   rintro b a w' ⟨v515, v518, v521, v524, v527, v530, v533, m15_, ha, Q_BK512, Q_BK513, Q_HB, Q_HO516, Q_HO519, Q_HO522, Q_HO525, Q_HO528, Q_HO531, Q_HO534, Q_BK513_e16, Q_X15_⟩ hb_ hon hoff
   refine ⟨_, rfl, fun K hK => ?_⟩
   replace ha := Aside0.mk ha
   have BK512 := Aside0.mk Q_BK512
   have BK513 := Aside0.mk (Q_BK513 (hoff 16 z28_5))
   have HB := Aside0.mk Q_HB
   refine Kd.R_lit_step k73 _ 73 ?hg (N := 14) ?hd (xs := ([] : List (S73))) (inner := []) (ok := fun _ => True) (okp := fun _ => True) ?hr ?hp (fun _ hk => hk) trivial (Below.refl _ _) (Nat.le_refl _) (by simp) ?_; (case hd => rfl); (case hg => rfl); (case hr => first | (go_simp; done) | (go_simp; rfl)); (case hp => exact (Reps.none _ _))
   intro v530 w9 ho10 hb hg_ hnew_
   clear hg_ hnew_
   (first | rw [← Ny529.out] at ho10 | (simp only [Int.reduceToNat] at ho10; rw [← Ny529.out] at ho10))
   have n0_ := Aside0.mk (Kd.R_lower ho10 (below_size z28_0))
   have n1_ := Aside0.mk (blk_below (g := gb512) (o := .cells #[.slice A0_0 l0_0.length c0_0, .slice A0_1 l0_1.length c0_1, .slice A0_2 l0_2.length c0_2, .slice A0_3 l0_3.length c0_3] 36 (0, 0)) z28_3 hb)
   have n2_ := Aside0.mk (blk_below (g := gb513) (o := .cells #[.slice none 0 0, .slice none 0 0, .slice none 0 0, .slice none 0 0] 36 (0, 0)) z28_4 hb)
   have n3_ := Aside0.mk (below_step z28_0 hb)
   have z_HO516 := fun (h0_ : b 2 = true) => (show Kd.R (Kd.int .i64) 3 w9 w.heap.size (fun _ => True) v515 t514 from by first | exact (Kd.R_below z28_13 hb) | exact Kd.R_mono (Kd.R_below z28_13 hb) (fun _ h_ => by first | trivial | exact h_ | exact h_.1))
   have z_HO519 := fun (h0_ : b 3 = true) (h1_ : b 6 = false) => (show Kd.R k84 84 w9 w.heap.size (fun _ => True) v518 y517 from by first | exact (Kd.R_below z28_12 hb) | exact Kd.R_mono (Kd.R_below z28_12 hb) (fun _ h_ => by first | trivial | exact h_ | exact h_.1))
   have z_HO522 := fun (h0_ : b 6 = true) => (show Kd.R k84 84 w9 w.heap.size (fun _ => True) v521 y520 from by first | exact (Kd.R_below z28_19 hb) | exact Kd.R_mono (Kd.R_below z28_19 hb) (fun _ h_ => by first | trivial | exact h_ | exact h_.1))
   have z_HO525 := fun (h0_ : b 7 = true) (h1_ : b 10 = false) => (show Kd.R k86 86 w9 w.heap.size (fun _ => True) v524 y523 from by first | exact (Kd.R_below z28_8 hb) | exact Kd.R_mono (Kd.R_below z28_8 hb) (fun _ h_ => by first | trivial | exact h_ | exact h_.1))
   have z_HO528 := fun (h0_ : b 10 = true) => (show Kd.R k86 86 w9 w.heap.size (fun _ => True) v527 y526 from by first | exact (Kd.R_below (by (with_reducible repeat (first | apply Kd.R_alloc | apply Kd.R_drewN | apply Kd.R_drew)); exact (Q_HO528 h0_)) hb) | exact Kd.R_mono (Kd.R_below (by (with_reducible repeat (first | apply Kd.R_alloc | apply Kd.R_drewN | apply Kd.R_drew)); exact (Q_HO528 h0_)) hb) (fun _ h_ => by first | trivial | exact h_ | exact h_.1))
   clear BK512
   clear BK513
   clear HB
   have HO531 := n0_
   have BK512 := n1_
   have BK513 := n2_
   have HB := n3_
   clear n0_ n1_ n2_ n3_
   clear hb ho10
   refine hK.out _ _ ⟨v515, v518, v521, v524, v527, v530, v533, m15_, (by rw [ha.out]; exact putSel_upk 8 hb_ rfl rfl rfl), z28_3, fun _ => z28_4, z28_0, z_HO516, z_HO519, z_HO522, z_HO525, z_HO528, fun _ _ => z28_17, fun h0_ => absurd ((hoff 14 z28_5).symm.trans h0_) (by decide), fun h0_ => absurd ((hoff 16 z28_5).symm.trans h0_) (by decide), fun h0_ => absurd ((hoff 15 z28_5).symm.trans h0_) (by decide)⟩
  refine steps_cons ?_ ?_
  ·
   rintro b a w' ⟨v515, v518, v521, v524, v527, v530, v533, m15_, ha, Q_BK512, Q_BK513, Q_HB, Q_HO516, Q_HO519, Q_HO522, Q_HO525, Q_HO528, Q_HO531, Q_HO534, Q_BK513_e16, Q_X15_⟩ hb_ hon hoff
   refine ⟨_, rfl, fun K hK => ?_⟩
   have e15 : a.tmps[15]? = some (.pointer (some ⟨gb512, 3, none⟩)) := by rw [ha]; exact (putSel_off rfl).trans rfl
   replace ha := Aside0.mk ha
   have BK512 := Aside0.mk Q_BK512
   have BK513 := Aside0.mk (Q_BK513 (hoff 16 z28_5))
   have HB := Aside0.mk Q_HB
   have hc0_ : w'.cell? ⟨gb512, 0, none⟩ = some (.slice A0_0 l0_0.length c0_0) := bc_ BK512 0
   have hc1_ : w'.cell? ⟨gb512, 1, none⟩ = some (.slice A0_1 l0_1.length c0_1) := bc_ BK512 1
   have hc2_ : w'.cell? ⟨gb512, 2, none⟩ = some (.slice A0_2 l0_2.length c0_2) := bc_ BK512 2
   have hc3_ : w'.cell? ⟨gb512, 3, none⟩ = some (.slice A0_3 l0_3.length c0_3) := bc_ BK512 3
   refine value_ (w1 := w') (v := .slice A0_3 l0_3.length c0_3) (by rfl) rfl ?_ ?_
   ·
    go_simp
    (try simp only [i64_w])
    try rfl
   refine hK.out _ _ ⟨v515, v518, v521, v524, v527, v530, v533, m15_, (by rw [ha.out]; exact putSel_upk 9 hb_ rfl rfl rfl), Q_BK512, Q_BK513, Q_HB, Q_HO516, Q_HO519, Q_HO522, Q_HO525, Q_HO528, Q_HO531, fun h0_ => absurd ((hoff 14 z28_5).symm.trans h0_) (by decide), fun h0_ => absurd ((hoff 16 z28_5).symm.trans h0_) (by decide), fun h0_ => absurd ((hoff 15 z28_5).symm.trans h0_) (by decide)⟩
  refine steps_cons ?_ ?_
  ·
   rintro b a w' ⟨v515, v518, v521, v524, v527, v530, v533, m15_, ha, Q_BK512, Q_BK513, Q_HB, Q_HO516, Q_HO519, Q_HO522, Q_HO525, Q_HO528, Q_HO531, Q_HO534, Q_BK513_e16, Q_X15_⟩ hb_ hon hoff
   refine ⟨_, rfl, fun K hK => ?_⟩
   have e14 : a.tmps[14]? = some (v530) := by rw [ha]; exact putSel_on (e := (11, 14, v530)) 8 rfl rfl (hon 11 z28_5) rfl
   have e16 : a.tmps[16]? = some (.slice A0_3 l0_3.length c0_3) := by rw [ha]; exact putSel_on (e := (13, 16, .slice A0_3 l0_3.length c0_3)) 9 rfl rfl (hon 13 z28_5) rfl
   replace ha := Aside0.mk ha
   have BK512 := Aside0.mk Q_BK512
   have BK513 := Aside0.mk (Q_BK513 (hoff 16 z28_5))
   have HB := Aside0.mk Q_HB
   have HO516 := Aside0.mk (Q_HO516 (hon 2 z28_5))
   have HO522 := Aside0.mk (Q_HO522 (hon 6 z28_5))
   have HO528 := Aside0.mk (Q_HO528 (hon 10 z28_5))
   have HO531 := Aside0.mk (Q_HO531 (hon 11 z28_5) hb_)
   refine Kd.R_append_rows_step k73 (w0 := w) w.heap.size (by rfl) (.tmp 14) (.tmp 16) 34 73 (.agg #[(.string ⟨#[]⟩), (.int .i64 0), (.int .i64 0), (.int .i64 0), (.int .i64 0), (.int .i64 0), (.int .i64 0), (.bool false)]) 72 rfl Try.underlying34 info73 rfl (by decide) (by omega) v530 y529 l0_3 _ _ _ (fun _ => True) (fun _ => False) (ev_ e14) (ev_ e16) ?aO ?aR (fun _ _ h => h) (fun _ h => h.elim) ?aF ?aB ?aS ?aL ?_
   (case aR => repeat (first | exact (Kd.C_below HR0_3.out HB.out) | (with_reducible refine Kd.C_alloc ?_ _) | (with_reducible refine Kd.C_drewN ?_ _) | (with_reducible refine Kd.C_drew ?_)))
   (case aB => exact z28_0)
   (case aF => exact (fun _ _ => trivial))
   (case aO => exact z28_17)
   (case aS => exact (below_size z28_0))
   (case aL => have := LMc5.out; omega)
   intro v533 w19 ho hb hg hat
   rw [← Ny532.out] at ho
   replace BK512 := Aside0.mk (blk_grown (g := gb512) (o := .cells #[.slice A0_0 l0_0.length c0_0, .slice A0_1 l0_1.length c0_1, .slice A0_2 l0_2.length c0_2, .slice A0_3 l0_3.length c0_3] 36 (0, 0)) z28_3 hg (Kd.R_ne HO531.out BK512.out (by decide)))
   replace BK513 := Aside0.mk (blk_grown (g := gb513) (o := .cells #[.slice none 0 0, .slice none 0 0, .slice none 0 0, .slice none 0 0] 36 (0, 0)) z28_4 hg (Kd.R_ne HO531.out BK513.out (by decide)))
   replace HO516 := Aside0.mk (Kd.R_over' z28_9 (Kd.R_typed z28_17) (by decide) hg)
   replace HO522 := Aside0.mk (Kd.R_over' z28_15 (Kd.R_typed z28_17) (by decide) hg)
   replace HO528 := Aside0.mk (Kd.R_over' z28_21 (Kd.R_typed z28_17) (by decide) hg)
   replace HB := Aside0.mk (hb)
   have HO534 := Aside0.mk (ho)
   clear HO531
   clear ho hb hg hat
   obtain ⟨Ao20, co20, eo20⟩ := Kd.R_slice HO534.out
   (first | subst eo20 | (injection eo20 with f1_ f2_ f3_; have f4_ := f1_.symm; have f5_ := f3_.symm; clear f1_ f2_ f3_; subst f4_; subst f5_))
   obtain ⟨Ao21, co21, eo21⟩ := Kd.R_slice HO528.out
   (first | subst eo21 | (injection eo21 with f1_ f2_ f3_; have f4_ := f1_.symm; have f5_ := f3_.symm; clear f1_ f2_ f3_; subst f4_; subst f5_))
   obtain ⟨Ao22, co22, eo22⟩ := Kd.R_slice HO522.out
   (first | subst eo22 | (injection eo22 with f1_ f2_ f3_; have f4_ := f1_.symm; have f5_ := f3_.symm; clear f1_ f2_ f3_; subst f4_; subst f5_))
   obtain ⟨Ao23, co23, eo23⟩ := Kd.R_slice HO516.out
   (first | subst eo23 | (injection eo23 with f1_ f2_ f3_; have f4_ := f1_.symm; have f5_ := f3_.symm; clear f1_ f2_ f3_; subst f4_; subst f5_))
   refine hK.out _ _ ⟨.slice Ao23 t514.length co23, v518, .slice Ao22 y520.length co22, v524, .slice Ao21 y526.length co21, v530, .slice Ao20 y532.length co20, m15_, (by rw [ha.out]; exact putSel_upk 10 hb_ rfl rfl rfl), z28_3, fun _ => z28_4, z28_0, fun _ => z28_9, fun _ h1_ => absurd ((hon 6 z28_5).symm.trans h1_) (by decide), fun _ => z28_15, fun _ h1_ => absurd ((hon 10 z28_5).symm.trans h1_) (by decide), fun _ => z28_21, fun _ h1_ => absurd ((up_self b 14).symm.trans h1_) (by decide), fun _ => (by (with_reducible repeat (first | apply Kd.R_alloc | apply Kd.R_drewN | apply Kd.R_drew)); exact HO534.out), fun h0_ => absurd ((hoff 16 z28_5).symm.trans h0_) (by decide), fun h0_ => absurd ((hoff 15 z28_5).symm.trans h0_) (by decide)⟩
  refine steps_cons ?_ ?_
  ·
   rintro b a w' ⟨v515, v518, v521, v524, v527, v530, v533, m15_, ha, Q_BK512, Q_BK513, Q_HB, Q_HO516, Q_HO519, Q_HO522, Q_HO525, Q_HO528, Q_HO531, Q_HO534, Q_BK513_e16, Q_X15_⟩ hb_ hon hoff
   refine ⟨_, rfl, fun K hK => ?_⟩
   have e5 : a.tmps[5]? = some (v515) := by rw [ha]; exact putSel_on (e := (2, 5, v515)) 1 rfl rfl (hon 2 z28_5) rfl
   have e9 : a.tmps[9]? = some (v521) := by rw [ha]; exact putSel_on (e := (6, 9, v521)) 4 rfl rfl (hon 6 z28_5) rfl
   have e13 : a.tmps[13]? = some (v527) := by rw [ha]; exact putSel_on (e := (10, 13, v527)) 7 rfl rfl (hon 10 z28_5) rfl
   have e17 : a.tmps[17]? = some (v533) := by rw [ha]; exact putSel_on (e := (14, 17, v533)) 10 rfl rfl (hon 14 z28_5) rfl
   replace ha := Aside0.mk ha
   have BK512 := Aside0.mk Q_BK512
   have BK513 := Aside0.mk (Q_BK513 (hoff 16 z28_5))
   have HB := Aside0.mk Q_HB
   have HO516 := Aside0.mk (Q_HO516 (hon 2 z28_5))
   have HO522 := Aside0.mk (Q_HO522 (hon 6 z28_5))
   have HO528 := Aside0.mk (Q_HO528 (hon 10 z28_5))
   have HO534 := Aside0.mk (Q_HO534 (hon 14 z28_5))
   obtain ⟨Ao15_0, co15_0, eo_⟩ := Kd.R_slice HO516.out
   subst eo_
   obtain ⟨Ao15_1, co15_1, eo_⟩ := Kd.R_slice HO522.out
   subst eo_
   obtain ⟨Ao15_2, co15_2, eo_⟩ := Kd.R_slice HO528.out
   subst eo_
   obtain ⟨Ao15_3, co15_3, eo_⟩ := Kd.R_slice HO534.out
   subst eo_
   refine value_ (w1 := w') (v := .agg #[.slice Ao15_0 t514.length co15_0, .slice Ao15_1 y520.length co15_1, .slice Ao15_2 y526.length co15_2, .slice Ao15_3 y532.length co15_3]) (by rfl) rfl ?_ ?_
   ·
    go_simp
    (try simp only [i64_w])
    try rfl
   refine hK.out _ _ ⟨.slice Ao15_0 t514.length co15_0, v518, .slice Ao15_1 y520.length co15_1, v524, .slice Ao15_2 y526.length co15_2, v530, .slice Ao15_3 y532.length co15_3, (.agg #[.slice Ao15_0 t514.length co15_0, .slice Ao15_1 y520.length co15_1, .slice Ao15_2 y526.length co15_2, .slice Ao15_3 y532.length co15_3]), (by rw [ha.out]; exact putSel_upk 11 hb_ rfl rfl rfl), Q_BK512, Q_BK513, Q_HB, Q_HO516, fun _ h1_ => absurd ((hon 6 z28_5).symm.trans h1_) (by decide), Q_HO522, fun _ h1_ => absurd ((hon 10 z28_5).symm.trans h1_) (by decide), Q_HO528, fun _ h1_ => absurd ((hon 14 z28_5).symm.trans h1_) (by decide), Q_HO534, fun h0_ => absurd ((hoff 16 z28_5).symm.trans h0_) (by decide), fun _ => rfl⟩
  refine steps_cons ?_ ?_
  ·
   rintro b a w' ⟨v515, v518, v521, v524, v527, v530, v533, m15_, ha, Q_BK512, Q_BK513, Q_HB, Q_HO516, Q_HO519, Q_HO522, Q_HO525, Q_HO528, Q_HO531, Q_HO534, Q_BK513_e16, Q_X15_⟩ hb_ hon hoff
   refine ⟨_, rfl, fun K hK => ?_⟩
   have e2 : a.tmps[2]? = some (.pointer (some ⟨gb513, 0, none⟩)) := by rw [ha]; exact (putSel_off rfl).trans rfl
   have e18 : a.tmps[18]? = some (m15_) := by rw [ha]; exact putSel_on (e := (15, 18, m15_)) 11 rfl rfl (hon 15 z28_5) rfl
   rw [Q_X15_ (hon 15 z28_5)] at e18
   replace ha := Aside0.mk ha
   have BK512 := Aside0.mk Q_BK512
   have BK513 := Aside0.mk (Q_BK513 hb_)
   have HB := Aside0.mk Q_HB
   have HO516 := Aside0.mk (Q_HO516 (hon 2 z28_5))
   have HO522 := Aside0.mk (Q_HO522 (hon 6 z28_5))
   have HO528 := Aside0.mk (Q_HO528 (hon 10 z28_5))
   have HO534 := Aside0.mk (Q_HO534 (hon 14 z28_5))
   obtain ⟨Ao24, co24, eo24⟩ := Kd.R_slice HO534.out
   (first | subst eo24 | (injection eo24 with f1_ f2_ f3_; have f4_ := f1_.symm; have f5_ := f3_.symm; clear f1_ f2_ f3_; subst f4_; subst f5_))
   obtain ⟨Ao25, co25, eo25⟩ := Kd.R_slice HO528.out
   (first | subst eo25 | (injection eo25 with f1_ f2_ f3_; have f4_ := f1_.symm; have f5_ := f3_.symm; clear f1_ f2_ f3_; subst f4_; subst f5_))
   obtain ⟨Ao26, co26, eo26⟩ := Kd.R_slice HO522.out
   (first | subst eo26 | (injection eo26 with f1_ f2_ f3_; have f4_ := f1_.symm; have f5_ := f3_.symm; clear f1_ f2_ f3_; subst f4_; subst f5_))
   obtain ⟨Ao27, co27, eo27⟩ := Kd.R_slice HO516.out
   (first | subst eo27 | (injection eo27 with f1_ f2_ f3_; have f4_ := f1_.symm; have f5_ := f3_.symm; clear f1_ f2_ f3_; subst f4_; subst f5_))
   have hs28 : w'.cell? ⟨gb513, 0, none⟩ = some (.slice none 0 0) := bc_ BK513 0
   have hfs28 := blk_frozen BK513.out 0
   have hns28_0 := NB512_513.out
   have hms28_0 := NB513_512.out
   have hs29 : w'.cell? ⟨gb513, 1, none⟩ = some (.slice none 0 0) := bc_ BK513 1
   have hfs29 := blk_frozen BK513.out 1
   have hns29_0 := NB512_513.out
   have hms29_0 := NB513_512.out
   have hs30 : w'.cell? ⟨gb513, 2, none⟩ = some (.slice none 0 0) := bc_ BK513 2
   have hfs30 := blk_frozen BK513.out 2
   have hns30_0 := NB512_513.out
   have hms30_0 := NB513_512.out
   have hs31 : w'.cell? ⟨gb513, 3, none⟩ = some (.slice none 0 0) := bc_ BK513 3
   have hfs31 := blk_frozen BK513.out 3
   have hns31_0 := NB512_513.out
   have hms31_0 := NB513_512.out
   refine skip_ (w1 := ?_) (by rfl) rfl ?_ ?_
   rotate_left
   ·
    go_simp
    rfl
   refine hK.out _ _ ⟨.slice Ao27 t514.length co27, v518, .slice Ao26 y520.length co26, v524, .slice Ao25 y526.length co25, v530, .slice Ao24 y532.length co24, m15_, (by rw [ha.out]; exact putSel_none (v := undef) rfl), (by (with_reducible repeat (first | apply blk_far (hp := NB512_513.out) | refine blk_drewN ?_ _ | refine blk_drew ?_ | refine blk_alloc ?_ _)); exact BK512.out), fun h0_ => absurd ((up_self b 16).symm.trans h0_) (by decide), z28_0, fun _ => (by (with_reducible repeat (first | apply Kd.R_alloc | apply Kd.R_drewN | apply Kd.R_drew)); apply Kd.R_mono; (with_reducible repeat (first | apply Kd.R_far | apply Kd.R_alloc | apply Kd.R_drewN | apply Kd.R_drew)); exact Kd.R_types HO516.out BK513.out (by decide); all_goals (intro _ hk; first | exact trivial | exact hk.2 | trivial)), fun _ h1_ => absurd ((hon 6 z28_5).symm.trans h1_) (by decide), fun _ => (by (with_reducible repeat (first | apply Kd.R_alloc | apply Kd.R_drewN | apply Kd.R_drew)); apply Kd.R_mono; (with_reducible repeat (first | apply Kd.R_far | apply Kd.R_alloc | apply Kd.R_drewN | apply Kd.R_drew)); exact Kd.R_types HO522.out BK513.out (by decide); all_goals (intro _ hk; first | exact trivial | exact hk.2 | trivial)), fun _ h1_ => absurd ((hon 10 z28_5).symm.trans h1_) (by decide), fun _ => (by (with_reducible repeat (first | apply Kd.R_alloc | apply Kd.R_drewN | apply Kd.R_drew)); apply Kd.R_mono; (with_reducible repeat (first | apply Kd.R_far | apply Kd.R_alloc | apply Kd.R_drewN | apply Kd.R_drew)); exact Kd.R_types HO528.out BK513.out (by decide); all_goals (intro _ hk; first | exact trivial | exact hk.2 | trivial)), fun _ h1_ => absurd ((hon 14 z28_5).symm.trans h1_) (by decide), fun _ => (by (with_reducible repeat (first | apply Kd.R_alloc | apply Kd.R_drewN | apply Kd.R_drew)); apply Kd.R_mono; (with_reducible repeat (first | apply Kd.R_far | apply Kd.R_alloc | apply Kd.R_drewN | apply Kd.R_drew)); exact Kd.R_types HO534.out BK513.out (by decide); all_goals (intro _ hk; first | exact trivial | exact hk.2 | trivial)), fun _ => (by (with_reducible repeat (first | apply bpa4 | refine blk_drewN ?_ _ | refine blk_drew ?_ | refine blk_alloc ?_ _)); exact BK513.out), Q_X15_⟩
  exact steps_nil
 rintro b a w27 hall ⟨v515, v518, v521, v524, v527, v530, v533, m15_, ha, Q_BK512, Q_BK513, Q_HB, Q_HO516, Q_HO519, Q_HO522, Q_HO525, Q_HO528, Q_HO531, Q_HO534, Q_BK513_e16, Q_X15_⟩
 clear BK512 BK513 HB
 have hb1_ := hall 1 z28_5
 have hb2_ := hall 2 z28_5
 have hb3_ := hall 3 z28_5
 have hb5_ := hall 5 z28_5
 have hb6_ := hall 6 z28_5
 have hb7_ := hall 7 z28_5
 have hb9_ := hall 9 z28_5
 have hb10_ := hall 10 z28_5
 have hb11_ := hall 11 z28_5
 have hb13_ := hall 13 z28_5
 have hb14_ := hall 14 z28_5
 have hb15_ := hall 15 z28_5
 have hb16_ := hall 16 z28_5
 subst ha
 obtain rfl := Q_X15_ hb15_
 simp only [putSel, hb1_, hb2_, hb3_, hb5_, hb6_, hb7_, hb9_, hb10_, hb11_, hb13_, hb14_, hb15_, hb16_, if_true, Act.put, List.setIfInBounds_toArray, List.set_cons_zero, List.set_cons_succ]
 have BK512 := Aside0.mk Q_BK512
 clear Q_BK512
 clear Q_BK513
 have HB := Aside0.mk Q_HB
 clear Q_HB
 have HO516 := Aside0.mk (Q_HO516 hb2_)
 clear Q_HO516
 clear Q_HO519
 have HO522 := Aside0.mk (Q_HO522 hb6_)
 clear Q_HO522
 clear Q_HO525
 have HO528 := Aside0.mk (Q_HO528 hb10_)
 clear Q_HO528
 clear Q_HO531
 have HO534 := Aside0.mk (Q_HO534 hb14_)
 clear Q_HO534
 have BK513 := Aside0.mk (Q_BK513_e16 hb16_)
 clear Q_BK513_e16
 clear hall hb1_ hb2_ hb3_ hb5_ hb6_ hb7_ hb9_ hb10_ hb11_ hb13_ hb14_ hb15_ hb16_
 obtain ⟨Ao28, co28, eo28⟩ := Kd.R_slice HO534.out
 (first | subst eo28 | (injection eo28 with f1_ f2_ f3_; have f4_ := f1_.symm; have f5_ := f3_.symm; clear f1_ f2_ f3_; subst f4_; subst f5_))
 obtain ⟨Ao29, co29, eo29⟩ := Kd.R_slice HO528.out
 (first | subst eo29 | (injection eo29 with f1_ f2_ f3_; have f4_ := f1_.symm; have f5_ := f3_.symm; clear f1_ f2_ f3_; subst f4_; subst f5_))
 obtain ⟨Ao30, co30, eo30⟩ := Kd.R_slice HO522.out
 (first | subst eo30 | (injection eo30 with f1_ f2_ f3_; have f4_ := f1_.symm; have f5_ := f3_.symm; clear f1_ f2_ f3_; subst f4_; subst f5_))
 obtain ⟨Ao31, co31, eo31⟩ := Kd.R_slice HO516.out
 (first | subst eo31 | (injection eo31 with f1_ f2_ f3_; have f4_ := f1_.symm; have f5_ := f3_.symm; clear f1_ f2_ f3_; subst f4_; subst f5_))
 try go_wp2
 refine bodyPost_ret (results_cell_row rfl _ _ gb513 36 #[.slice Ao31 t514.length co31, .slice Ao30 y520.length co30, .slice Ao29 y526.length co29, .slice Ao28 y532.length co28] (0, 0) _ rfl z28_4 Try.underlying36 rfl z28_5) rfl ?_
 exact ⟨_, _, _, _, z28_11, z28_9, z28_15, z28_21, by (with_reducible repeat (first | apply Kd.R_alloc | apply Kd.R_drewN | apply Kd.R_drew)); exact HO534.out, z28_0⟩
def impl_hasKey.f (a0 : Int) : Option (Bool) := (impl_within.f a0 2 5).bind fun t535 => (some t535)
set_option maxHeartbeats 8000000 in
set_option maxRecDepth 100000 in
theorem impl_hasKey.calls (a0 : Int) (r : Bool) (w : World) (h : impl_hasKey.f a0 = some r) :
  Calls Try.prog 127 #[.int .i64 a0] w fun e w' => e = .returned (.bool r) ∧ Drawn0 w w' := by
 have H := h
 unfold impl_hasKey.f at H
 clear h
 replace H := Option.bind_eq_some_iff.mp H
 obtain ⟨t535, A20, H⟩ := H
 (try dsimp only at H)
 have A2 := Aside0.mk A20
 clear A20
 obtain rfl := Option.some.inj H
 go_enter Try.func127, Try.ntmps127
 go_wp2_with (first | ((with_reducible refine gate_callee (f := 106) rfl ?_); refine goesL_ (some 4) rfl rfl Try.func106 z28_5 rfl #[.int .i64 a0, .int .i64 2, .int .i64 5] rfl z28_16 ?_; (with_reducible refine (impl_within.calls a0 2 5 t535 _ A2.out).mono ?_); rintro e w' ⟨rfl, ⟨nd, rfl⟩⟩; refine ⟨_, rfl, ?_⟩))
 go_ret
 exact ⟨z28_23, z28_22⟩
def impl_hasVal.f (a0 : Int) : Option (Bool) := if a0 = 1 then (some true) else (if a0 = 4 then (some true) else (some (a0 == 6)))
set_option maxHeartbeats 8000000 in
set_option maxRecDepth 100000 in
theorem impl_hasVal.calls (a0 : Int) (r : Bool) (w : World) (h : impl_hasVal.f a0 = some r) :
  Calls Try.prog 128 #[.int .i64 a0] w fun e w' => e = .returned (.bool r) ∧ Drawn0 w w' := by
 have H : (if a0 = 1 then (some true) else (if a0 = 4 then (some true) else (some (a0 == 6)))) = some r := h
 clear h
 by_cases c2 : a0 = 1
 ·
  rw [if_pos c2] at H
  have c2b0 : (a0 == 1) = true := beq_iff_eq.mpr c2
  have c2b1 : (a0 != 1) = false := bne_eq_false_iff_eq.mpr c2
  clear c2
  obtain rfl := Option.some.inj H
  go_enter Try.func128, Try.ntmps128
  go_wp2
  go_ret
  exact ⟨z28_23, z28_22⟩
 rw [if_neg c2] at H
 have c2b0 : (a0 == 1) = false := beq_eq_false_iff_ne.mpr c2
 have c2b1 : (a0 != 1) = true := bne_iff_ne.mpr c2
 by_cases c3 : a0 = 4
 rotate_left
 ·
  rw [if_neg c3] at H
  have c3b0 : (a0 == 4) = false := beq_eq_false_iff_ne.mpr c3
  have c3b1 : (a0 != 4) = true := bne_iff_ne.mpr c3
  obtain rfl := Option.some.inj H
  go_enter Try.func128, Try.ntmps128
  go_wp2
  go_ret
  exact ⟨z28_23, z28_22⟩
 rw [if_pos c3] at H
 have c3b0 : (a0 == 4) = true := beq_iff_eq.mpr c3
 have c3b1 : (a0 != 4) = false := bne_eq_false_iff_eq.mpr c3
 clear c3
 obtain rfl := Option.some.inj H
 go_enter Try.func128, Try.ntmps128
 go_wp2
 go_ret
 exact ⟨z28_23, z28_22⟩
end Go.Proofs.Ytbanogkoaplcdaa.QSe
