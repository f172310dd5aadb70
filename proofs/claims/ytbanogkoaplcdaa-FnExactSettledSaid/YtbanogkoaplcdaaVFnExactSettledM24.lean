/- Parts of the proof of FnExactSettled, one behind the other. No condition. -/
import Derived.Test.YtbanogkoaplcdaaVFnExactSettledM10
namespace Go.Proofs.Ytbanogkoaplcdaa.QSe
open Go.RowKit Go.Proofs.Ytbanogkoaplcdaa.Short Go.Proofs.YtbanogkoaplcdaaW.PrintWords Go.Proofs.YtbanogkoaplcdaaW.PrintLast Go.Proofs.YtbanogkoaplcdaaW.PrintMore
attribute [local go_sem] max2_int min2_int max_two min_two max_three min_three max_four min_four   -- for this text's walks alone
set_option linter.unusedVariables false
set_option linter.unusedSimpArgs false
theorem z15_22 {P : Prop} (h : P := by intro w'; go_simp; with_reducible rfl) : P := h
theorem z15_21 {P : Prop} (h : P := by first | rfl | (simp; done) | (simp [*]; done)) : P := h
theorem z15_20 {P : Prop} (h : P := by repeat (first | exact Drawn0.refl _ | apply Drawn0.step)) : P := h
theorem z15_19 {P : Prop} (h : P := by repeat (first | (with_reducible first | exact HB.out | apply below_alloc | apply pw_below_drewN | apply below_drew1) | exact HB.out)) : P := h
theorem z15_18 {P : Prop} (h : P := by (with_reducible repeat (first | apply Kd.R_alloc | apply Kd.R_drewN | apply Kd.R_drew)); exact HO270.out) : P := h
theorem z15_17 {P : Prop} (h : P := by simp only [Act.put, List.setIfInBounds_toArray, List.set_cons_zero, List.set_cons_succ, i64_w, i32_w]; rfl) : P := h
theorem z15_16 {P : Prop} (h : P := by (with_reducible repeat (first | apply Kd.R_alloc | apply Kd.R_drewN | apply Kd.R_drew)); exact (Q_HO264 h0_)) : P := h
theorem z15_15 {P : Prop} (h : P := by repeat (first | (with_reducible first | exact HB.out | apply below_alloc | apply pw_below_drewN | apply below_drew1 | refine below_set ?_ GE251.out) | exact HB.out)) : P := h
theorem z15_14 {P : Prop} (h : P := by (with_reducible repeat (first | apply Kd.R_alloc | apply Kd.R_drewN | apply Kd.R_drew)); exact HO273.out) : P := h
theorem z15_13 {P : Prop} (h : P := by (with_reducible repeat (first | apply Kd.R_alloc | apply Kd.R_drewN | apply Kd.R_drew)); exact HO264.out) : P := h
theorem z15_12 {P : Prop} (h : P := by (with_reducible repeat (first | apply Kd.R_alloc | apply Kd.R_drewN | apply Kd.R_drew)); exact HO267.out) : P := h
theorem z15_11 {P : Prop} (h : P := by (with_reducible repeat (first | apply Kd.R_alloc | apply Kd.R_drewN | apply Kd.R_drew)); exact (Q_HO258 h0_)) : P := h
theorem z15_10 {P : Prop} (h : P := by (with_reducible repeat (first | apply Kd.R_alloc | apply Kd.R_drewN | apply Kd.R_drew)); exact (Q_HO255 h0_ h1_)) : P := h
theorem z15_9 {P : Prop} (h : P := by (with_reducible repeat (first | apply Kd.R_alloc | apply Kd.R_drewN | apply Kd.R_drew)); exact HO261.out) : P := h
theorem z15_8 {P : Prop} (h : P := by (with_reducible repeat (first | apply Kd.R_alloc | apply Kd.R_drewN | apply Kd.R_drew)); exact HO255.out) : P := h
theorem z15_7 {P : Prop} (h : P := by (with_reducible repeat (first | apply Kd.R_alloc | apply Kd.R_drewN | apply Kd.R_drew)); exact HO258.out) : P := h
theorem z15_6 {P : Prop} (h : P := by (with_reducible repeat (first | apply Kd.R_alloc | apply Kd.R_drewN | apply Kd.R_drew)); exact (Q_HO261 h0_ h1_)) : P := h
theorem z15_5 {P : Prop} (h : P := by (with_reducible repeat (first | apply Kd.R_alloc | apply Kd.R_drewN | apply Kd.R_drew)); exact (Q_HO267 h0_ h1_)) : P := h
theorem z15_4 {P : Prop} (h : P := by kernel_rfl) : P := h
theorem z15_3 {P : Prop} (h : P := by (with_reducible repeat (first | apply Kd.R_alloc | apply Kd.R_drewN | apply Kd.R_drew)); exact (Q_HO273 h0_ h1_)) : P := h
theorem z15_2 {P : Prop} (h : P := by (with_reducible repeat (first | refine blk_drewN ?_ _ | refine blk_drew ?_ | refine blk_alloc ?_ _)); exact BK252.out) : P := h
theorem z15_1 {P : Prop} (h : P := by (with_reducible repeat (first | refine blk_drewN ?_ _ | refine blk_drew ?_ | refine blk_alloc ?_ _)); exact BK251.out) : P := h
theorem z15_0 {P : Prop} (h : P := by repeat (first | (with_reducible first | exact HB.out | apply below_alloc | apply pw_below_drewN | apply below_drew1 | refine below_set ?_ GE251.out | refine below_set ?_ GE252.out) | exact HB.out)) : P := h
abbrev mk15_0 : Array Bool := mb 18 0
abbrev mk15_1 : Array Bool := mb 18 2
abbrev mk15_2 : Array Bool := mb 18 34
abbrev mk15_3 : Array Bool := mb 18 546
abbrev mk15_4 : Array Bool := mb 18 8738
def spec_l06Copy.f (l0_0 : List Int) (l0_1 : List (S84)) (l0_2 : List (S86)) (l0_3 : List (S73)) : Option (List Int × (List (S84)) × (List (S86)) × (List (S73))) := (some (([] : List Int) : List Int)).bind fun y253 => (if y253.length + l0_0.length < 17592186044416 then ((some (([] : List (S84)) : List (S84))).bind fun y259 => (if y259.length + l0_1.length < 4398046511104 then ((some (([] : List (S86)) : List (S86))).bind fun y265 => (if y265.length + l0_2.length < 2199023255552 then ((some (([] : List (S73)) : List (S73))).bind fun y271 => (if y271.length + l0_3.length < 1954687338268 then (some ((y253 ++ l0_0), (y259 ++ l0_1), (y265 ++ l0_2), (y271 ++ l0_3))) else (none))) else (none))) else (none))) else (none))
def spec_l06Copy.T1 : Bool × List (List Nat × List Nat) := (true, [([], []), ([], []), ([1], [1]), ([0, 2], [0, 2]), ([], []), ([], []), ([5], [5]), ([4, 6, 3], [4, 6]), ([], []), ([], []), ([9], [9]), ([8, 10, 7], [8, 10]), ([], []), ([], []), ([13], [13]), ([12, 14, 11], [12, 14]), ([3, 7, 11, 15], [3, 7, 11, 15]), ([16, 15, 0, 1, 2, 3, 4, 5, 6, 7, 8, 9, 10, 11, 12, 13, 14, 15, 16], [16])])
def spec_l06Copy.B1 : List Nat := [0, 0, 2, 7, 0, 0, 32, 127, 0, 0, 512, 2047, 0, 0, 8192, 32767, 65535, 131071]
theorem spec_l06Copy.tab1 : rtab .any (opsOf Try.f66 1) = spec_l06Copy.T1 := by kernel_rfl
theorem spec_l06Copy.bits1 : waitsOk spec_l06Copy.T1.2 spec_l06Copy.B1 = true := by kernel_rfl
set_option maxHeartbeats 8000000 in
set_option maxRecDepth 100000 in
theorem spec_l06Copy.calls (A0_0 : Option Addr) (c0_0 : Nat) (l0_0 : List Int) (A0_1 : Option Addr) (c0_1 : Nat) (l0_1 : List (S84)) (A0_2 : Option Addr) (c0_2 : Nat) (l0_2 : List (S86)) (A0_3 : Option Addr) (c0_3 : Nat) (l0_3 : List (S73)) (r1 : List Int) (r2 : List (S84)) (r3 : List (S86)) (r4 : List (S73)) (w : World) (hr0_0 : Kd.C (Kd.int .i64) w A0_0 l0_0.length l0_0) (hc0_0 : l0_0.length ≤ c0_0) (hr0_1 : Kd.C k84 w A0_1 l0_1.length l0_1) (hc0_1 : l0_1.length ≤ c0_1) (hr0_2 : Kd.C k86 w A0_2 l0_2.length l0_2) (hc0_2 : l0_2.length ≤ c0_2) (hr0_3 : Kd.C k73 w A0_3 l0_3.length l0_3) (hc0_3 : l0_3.length ≤ c0_3) (h : spec_l06Copy.f l0_0 l0_1 l0_2 l0_3 = some (r1, r2, r3, r4)) :
  Calls Try.prog 66 #[.agg #[.slice A0_0 l0_0.length c0_0, .slice A0_1 l0_1.length c0_1, .slice A0_2 l0_2.length c0_2, .slice A0_3 l0_3.length c0_3]] w fun e w' => ∃ v0_ v1_ v2_ v3_ : Value, e = .returned (.agg #[v0_, v1_, v2_, v3_]) ∧ Kd.R (Kd.int .i64) 3 w' w.heap.size (fun _ => True) v0_ r1 ∧ Kd.R k84 84 w' w.heap.size (fun _ => True) v1_ r2 ∧ Kd.R k86 86 w' w.heap.size (fun _ => True) v2_ r3 ∧ Kd.R k73 73 w' w.heap.size (fun _ => True) v3_ r4 ∧ Below w.heap.size w w' := by
 have hu36 := Try.underlying36
 have HR0_0 := Aside0.mk hr0_0
 have HC0_0 := Aside0.mk hc0_0
 clear hr0_0 hc0_0
 have HR0_1 := Aside0.mk hr0_1
 have HC0_1 := Aside0.mk hc0_1
 clear hr0_1 hc0_1
 have HR0_2 := Aside0.mk hr0_2
 have HC0_2 := Aside0.mk hc0_2
 clear hr0_2 hc0_2
 have HR0_3 := Aside0.mk hr0_3
 have HC0_3 := Aside0.mk hc0_3
 clear hr0_3 hc0_3
 have HB := Aside0.mk (Below.refl w.heap.size w)
 have H : ((some (([] : List Int) : List Int)).bind fun y253 => (if y253.length + l0_0.length < 17592186044416 then ((some (([] : List (S84)) : List (S84))).bind fun y259 => (if y259.length + l0_1.length < 4398046511104 then ((some (([] : List (S86)) : List (S86))).bind fun y265 => (if y265.length + l0_2.length < 2199023255552 then ((some (([] : List (S73)) : List (S73))).bind fun y271 => (if y271.length + l0_3.length < 1954687338268 then (some ((y253 ++ l0_0), (y259 ++ l0_1), (y265 ++ l0_2), (y271 ++ l0_3))) else (none))) else (none))) else (none))) else (none))) = some (r1, r2, r3, r4) := h
 clear h
 obtain ⟨y253, hy253⟩ : ∃ y_ : List Int, y_ = (([] : List Int)) := ⟨_, rfl⟩
 replace H : (if y253.length + l0_0.length < 17592186044416 then ((some (([] : List (S84)) : List (S84))).bind fun y259 => (if y259.length + l0_1.length < 4398046511104 then ((some (([] : List (S86)) : List (S86))).bind fun y265 => (if y265.length + l0_2.length < 2199023255552 then ((some (([] : List (S73)) : List (S73))).bind fun y271 => (if y271.length + l0_3.length < 1954687338268 then (some ((y253 ++ l0_0), (y259 ++ l0_1), (y265 ++ l0_2), (y271 ++ l0_3))) else (none))) else (none))) else (none))) else (none)) = some (r1, r2, r3, r4) := by first | (rw [hy253]; with_reducible exact H) | (have H2_ := (Option.bind_some _ _).symm.trans H; rw [hy253]; with_reducible exact H2_) | (have H2_ := (Option.bind_some _ _).symm.trans H; with_reducible exact H2_) | with_reducible exact H | (rw [hy253]; exact H) | exact H
 have Ny253 := Aside0.mk hy253
 clear hy253
 by_cases c2 : y253.length + l0_0.length < 17592186044416
 rotate_left
 ·
  rw [if_neg c2] at H
  exact absurd H (by simp)
 rw [if_pos c2] at H
 have LMc2 := Aside0.mk c2
 clear c2
 obtain ⟨y256, hy256⟩ : ∃ y_ : List Int, y_ = (y253 ++ l0_0) := ⟨_, rfl⟩
 replace H : ((some (([] : List (S84)) : List (S84))).bind fun y259 => (if y259.length + l0_1.length < 4398046511104 then ((some (([] : List (S86)) : List (S86))).bind fun y265 => (if y265.length + l0_2.length < 2199023255552 then ((some (([] : List (S73)) : List (S73))).bind fun y271 => (if y271.length + l0_3.length < 1954687338268 then (some (y256, (y259 ++ l0_1), (y265 ++ l0_2), (y271 ++ l0_3))) else (none))) else (none))) else (none))) = some (r1, r2, r3, r4) := by first | (rw [hy256]; with_reducible exact H) | (have H2_ := (Option.bind_some _ _).symm.trans H; rw [hy256]; with_reducible exact H2_) | (have H2_ := (Option.bind_some _ _).symm.trans H; with_reducible exact H2_) | with_reducible exact H | (rw [hy256]; exact H) | exact H
 have Ny256 := Aside0.mk hy256
 clear hy256
 obtain ⟨y259, hy259⟩ : ∃ y_ : List (S84), y_ = (([] : List (S84))) := ⟨_, rfl⟩
 replace H : (if y259.length + l0_1.length < 4398046511104 then ((some (([] : List (S86)) : List (S86))).bind fun y265 => (if y265.length + l0_2.length < 2199023255552 then ((some (([] : List (S73)) : List (S73))).bind fun y271 => (if y271.length + l0_3.length < 1954687338268 then (some (y256, (y259 ++ l0_1), (y265 ++ l0_2), (y271 ++ l0_3))) else (none))) else (none))) else (none)) = some (r1, r2, r3, r4) := by first | (rw [hy259]; with_reducible exact H) | (have H2_ := (Option.bind_some _ _).symm.trans H; rw [hy259]; with_reducible exact H2_) | (have H2_ := (Option.bind_some _ _).symm.trans H; with_reducible exact H2_) | with_reducible exact H | (rw [hy259]; exact H) | exact H
 have Ny259 := Aside0.mk hy259
 clear hy259
 by_cases c3 : y259.length + l0_1.length < 4398046511104
 rotate_left
 ·
  rw [if_neg c3] at H
  exact absurd H (by simp)
 rw [if_pos c3] at H
 have LMc3 := Aside0.mk c3
 clear c3
 obtain ⟨y262, hy262⟩ : ∃ y_ : List (S84), y_ = (y259 ++ l0_1) := ⟨_, rfl⟩
 replace H : ((some (([] : List (S86)) : List (S86))).bind fun y265 => (if y265.length + l0_2.length < 2199023255552 then ((some (([] : List (S73)) : List (S73))).bind fun y271 => (if y271.length + l0_3.length < 1954687338268 then (some (y256, y262, (y265 ++ l0_2), (y271 ++ l0_3))) else (none))) else (none))) = some (r1, r2, r3, r4) := by first | (rw [hy262]; with_reducible exact H) | (have H2_ := (Option.bind_some _ _).symm.trans H; rw [hy262]; with_reducible exact H2_) | (have H2_ := (Option.bind_some _ _).symm.trans H; with_reducible exact H2_) | with_reducible exact H | (rw [hy262]; exact H) | exact H
 have Ny262 := Aside0.mk hy262
 clear hy262
 obtain ⟨y265, hy265⟩ : ∃ y_ : List (S86), y_ = (([] : List (S86))) := ⟨_, rfl⟩
 replace H : (if y265.length + l0_2.length < 2199023255552 then ((some (([] : List (S73)) : List (S73))).bind fun y271 => (if y271.length + l0_3.length < 1954687338268 then (some (y256, y262, (y265 ++ l0_2), (y271 ++ l0_3))) else (none))) else (none)) = some (r1, r2, r3, r4) := by first | (rw [hy265]; with_reducible exact H) | (have H2_ := (Option.bind_some _ _).symm.trans H; rw [hy265]; with_reducible exact H2_) | (have H2_ := (Option.bind_some _ _).symm.trans H; with_reducible exact H2_) | with_reducible exact H | (rw [hy265]; exact H) | exact H
 have Ny265 := Aside0.mk hy265
 clear hy265
 by_cases c4 : y265.length + l0_2.length < 2199023255552
 rotate_left
 ·
  rw [if_neg c4] at H
  exact absurd H (by simp)
 rw [if_pos c4] at H
 have LMc4 := Aside0.mk c4
 clear c4
 obtain ⟨y268, hy268⟩ : ∃ y_ : List (S86), y_ = (y265 ++ l0_2) := ⟨_, rfl⟩
 replace H : ((some (([] : List (S73)) : List (S73))).bind fun y271 => (if y271.length + l0_3.length < 1954687338268 then (some (y256, y262, y268, (y271 ++ l0_3))) else (none))) = some (r1, r2, r3, r4) := by first | (rw [hy268]; with_reducible exact H) | (have H2_ := (Option.bind_some _ _).symm.trans H; rw [hy268]; with_reducible exact H2_) | (have H2_ := (Option.bind_some _ _).symm.trans H; with_reducible exact H2_) | with_reducible exact H | (rw [hy268]; exact H) | exact H
 have Ny268 := Aside0.mk hy268
 clear hy268
 obtain ⟨y271, hy271⟩ : ∃ y_ : List (S73), y_ = (([] : List (S73))) := ⟨_, rfl⟩
 replace H : (if y271.length + l0_3.length < 1954687338268 then (some (y256, y262, y268, (y271 ++ l0_3))) else (none)) = some (r1, r2, r3, r4) := by first | (rw [hy271]; with_reducible exact H) | (have H2_ := (Option.bind_some _ _).symm.trans H; rw [hy271]; with_reducible exact H2_) | (have H2_ := (Option.bind_some _ _).symm.trans H; with_reducible exact H2_) | with_reducible exact H | (rw [hy271]; exact H) | exact H
 have Ny271 := Aside0.mk hy271
 clear hy271
 by_cases c5 : y271.length + l0_3.length < 1954687338268
 rotate_left
 ·
  rw [if_neg c5] at H
  exact absurd H (by simp)
 rw [if_pos c5] at H
 have LMc5 := Aside0.mk c5
 clear c5
 obtain ⟨y274, hy274⟩ : ∃ y_ : List (S73), y_ = (y271 ++ l0_3) := ⟨_, rfl⟩
 replace H : (some (y256, y262, y268, y274)) = some (r1, r2, r3, r4) := by first | (rw [hy274]; with_reducible exact H) | (have H2_ := (Option.bind_some _ _).symm.trans H; rw [hy274]; with_reducible exact H2_) | (have H2_ := (Option.bind_some _ _).symm.trans H; with_reducible exact H2_) | with_reducible exact H | (rw [hy274]; exact H) | exact H
 have Ny274 := Aside0.mk hy274
 clear hy274
 simp only [Option.some.injEq, Prod.mk.injEq] at H
 obtain ⟨rfl, rfl, rfl, rfl⟩ := H
 go_enter Try.func66, Try.ntmps66
 try go_wp2_with (first | ((with_reducible refine gate_dst (N := 1) rfl ?_); refine box_event ?hg (N := 1) ?hd (cs := #[.slice A0_0 l0_0.length c0_0, .slice A0_1 l0_1.length c0_1, .slice A0_2 l0_2.length c0_2, .slice A0_3 l0_3.length c0_3]) (t := 36) ?hr ?_; (case hd => rfl); (case hg => rfl); (case hr => first | (go_simp; done) | (go_simp; rfl)); intro gb251 hg w6 hbox hb; have BK251 := Aside0.mk (hbox); have GW251 := gw_ w z15_19 hg; have GE251 := gw_ w z15_19 hg; replace HB := Aside0.mk (below_step z15_19 hb); clear hb hbox hg) | ((with_reducible refine gate_dst (N := 2) rfl ?_); refine box_event ?hg (N := 2) ?hd (cs := #[.slice none 0 0, .slice none 0 0, .slice none 0 0, .slice none 0 0]) (t := 36) ?hr ?_; (case hd => rfl); (case hg => rfl); (case hr => first | (go_simp; done) | (go_simp; rfl)); intro gb252 hg w7 hbox hb; have BK252 := Aside0.mk (hbox); have GW252 := gw_ w z15_15 hg; have GE252 := gw_ w z15_15 hg; replace HB := Aside0.mk (below_step z15_15 hb); have NB251_252 := nb_ BK251 z15_1 hg; have NB252_251 := nc_ BK251 z15_1 hg; replace BK251 := bb_ BK251 z15_1 hb; clear hb hbox hg))
 replace BK251 := Aside0.mk (blk_drew BK251.out)
 replace BK252 := Aside0.mk (blk_drew BK252.out)
 replace HB := Aside0.mk (below_drew1 HB.out)
 refine start_ (n := 18) (S := fun w' => True) (ds := []) mk15_0 z15_4 rfl rfl trivial (fun hHeld => ?_); refine with_tabW spec_l06Copy.tab1 spec_l06Copy.bits1 (fun HT_ HW_ => ?_)
 generalize w7.drew = w8 at BK251 BK252 HB hHeld ⊢
 refine p_ (i := 1) (N := some 4) mk15_1 ?_ (hv := z15_22) (ha := z15_17)
 refine p_ (i := 5) (N := some 8) mk15_2 ?_ (hv := z15_22) (ha := z15_17)
 refine p_ (i := 9) (N := some 12) mk15_3 ?_ (hv := z15_22) (ha := z15_17)
 refine p_ (i := 13) (N := some 16) mk15_4 ?_ (hv := z15_22) (ha := z15_17)
 refine inv_at [0, 2, 3, 4, 6, 7, 8, 10, 11, 12, 14, 15, 16, 17] (fun a0_ b a w' => ∃ (v254 : Value) (v257 : Value) (v260 : Value) (v263 : Value) (v266 : Value) (v269 : Value) (v272 : Value) (v275 : Value) (m16_ : Value), a = putSel a0_ b [(0, 3, v254), (2, 5, .slice A0_0 l0_0.length c0_0), (3, 6, v257), (4, 7, v260), (6, 9, .slice A0_1 l0_1.length c0_1), (7, 10, v263), (8, 11, v266), (10, 13, .slice A0_2 l0_2.length c0_2), (11, 14, v269), (12, 15, v272), (14, 17, .slice A0_3 l0_3.length c0_3), (15, 18, v275), (16, 19, m16_)] ∧ (w'.heap[gb251]? = some (.cells #[.slice A0_0 l0_0.length c0_0, .slice A0_1 l0_1.length c0_1, .slice A0_2 l0_2.length c0_2, .slice A0_3 l0_3.length c0_3] 36 (0, 0))) ∧ (b 17 = false → w'.heap[gb252]? = some (.cells #[.slice none 0 0, .slice none 0 0, .slice none 0 0, .slice none 0 0] 36 (0, 0))) ∧ (Below w.heap.size w w') ∧ (b 0 = true → b 3 = false → Kd.R (Kd.int .i64) 3 w' w.heap.size (fun _ => True) v254 y253) ∧ (b 3 = true → Kd.R (Kd.int .i64) 3 w' w.heap.size (fun _ => True) v257 y256) ∧ (b 4 = true → b 7 = false → Kd.R k84 84 w' w.heap.size (fun _ => True) v260 y259) ∧ (b 7 = true → Kd.R k84 84 w' w.heap.size (fun _ => True) v263 y262) ∧ (b 8 = true → b 11 = false → Kd.R k86 86 w' w.heap.size (fun _ => True) v266 y265) ∧ (b 11 = true → Kd.R k86 86 w' w.heap.size (fun _ => True) v269 y268) ∧ (b 12 = true → b 15 = false → Kd.R k73 73 w' w.heap.size (fun _ => True) v272 y271) ∧ (b 15 = true → Kd.R k73 73 w' w.heap.size (fun _ => True) v275 y274) ∧ (b 17 = true → w'.heap[gb252]? = some (.cells #[v257, v263, v269, v275] 36 (0, 0))) ∧ (b 16 = true → (m16_ : Value) = .agg #[v257, v263, v269, v275])) HT_.out HW_.out z15_4 z15_4 ?_ ?_ ?_
 ·
  exact ⟨.bool false, .bool false, .bool false, .bool false, .bool false, .bool false, .bool false, .bool false, .bool false, by simp only [putSel, Bool.false_eq_true, if_false], BK251.out, fun _ => BK252.out, HB.out, fun h_ => absurd h_ (by decide), fun h_ => absurd h_ (by decide), fun h_ => absurd h_ (by decide), fun h_ => absurd h_ (by decide), fun h_ => absurd h_ (by decide), fun h_ => absurd h_ (by decide), fun h_ => absurd h_ (by decide), fun h_ => absurd h_ (by decide), fun h_ => absurd h_ (by decide), fun h_ => absurd h_ (by decide)⟩
 ·
  skip
  clear BK251 BK252 HB
  refine steps_cons ?_ ?_
  ·
   rintro b a w' ⟨v254, v257, v260, v263, v266, v269, v272, v275, m16_, ha, Q_BK251, Q_BK252, Q_HB, Q_HO255, Q_HO258, Q_HO261, Q_HO264, Q_HO267, Q_HO270, Q_HO273, Q_HO276, Q_BK252_e17, Q_X16_⟩ hb_ hon hoff
   refine ⟨_, rfl, fun K hK => ?_⟩
   replace ha := Aside0.mk ha
   have BK251 := Aside0.mk Q_BK251
   have BK252 := Aside0.mk (Q_BK252 (hoff 17 z15_4))
   have HB := Aside0.mk Q_HB
   refine Kd.R_lit_step (Kd.int .i64) _ 3 ?hg (N := 3) ?hd (xs := ([] : List Int)) (inner := []) (ok := fun _ => True) (okp := fun _ => True) ?hr ?hp (fun _ hk => hk) trivial (Below.refl _ _) (Nat.le_refl _) (by simp) ?_; (case hd => rfl); (case hg => rfl); (case hr => first | (go_simp; done) | (go_simp; rfl)); (case hp => exact (Reps.none _ _))
   intro v254 w9 ho10 hb hg_ hnew_
   clear hg_ hnew_
   (first | rw [← Ny253.out] at ho10 | (simp only [Int.reduceToNat] at ho10; rw [← Ny253.out] at ho10))
   have n0_ := Aside0.mk (Kd.R_lower ho10 (below_size z15_0))
   have n1_ := Aside0.mk (blk_below (g := gb251) (o := .cells #[.slice A0_0 l0_0.length c0_0, .slice A0_1 l0_1.length c0_1, .slice A0_2 l0_2.length c0_2, .slice A0_3 l0_3.length c0_3] 36 (0, 0)) z15_1 hb)
   have n2_ := Aside0.mk (blk_below (g := gb252) (o := .cells #[.slice none 0 0, .slice none 0 0, .slice none 0 0, .slice none 0 0] 36 (0, 0)) z15_2 hb)
   have n3_ := Aside0.mk (below_step z15_0 hb)
   have z_HO261 := fun (h0_ : b 4 = true) (h1_ : b 7 = false) => (show Kd.R k84 84 w9 w.heap.size (fun _ => True) v260 y259 from by first | exact (Kd.R_below z15_6 hb) | exact Kd.R_mono (Kd.R_below z15_6 hb) (fun _ h_ => by first | trivial | exact h_ | exact h_.1))
   have z_HO267 := fun (h0_ : b 8 = true) (h1_ : b 11 = false) => (show Kd.R k86 86 w9 w.heap.size (fun _ => True) v266 y265 from by first | exact (Kd.R_below z15_5 hb) | exact Kd.R_mono (Kd.R_below z15_5 hb) (fun _ h_ => by first | trivial | exact h_ | exact h_.1))
   have z_HO273 := fun (h0_ : b 12 = true) (h1_ : b 15 = false) => (show Kd.R k73 73 w9 w.heap.size (fun _ => True) v272 y271 from by first | exact (Kd.R_below z15_3 hb) | exact Kd.R_mono (Kd.R_below z15_3 hb) (fun _ h_ => by first | trivial | exact h_ | exact h_.1))
   clear BK251
   clear BK252
   clear HB
   have HO255 := n0_
   have BK251 := n1_
   have BK252 := n2_
   have HB := n3_
   clear n0_ n1_ n2_ n3_
   clear hb ho10
   refine hK.out _ _ ⟨v254, v257, v260, v263, v266, v269, v272, v275, m16_, (by rw [ha.out]; exact putSel_upk 0 hb_ rfl rfl rfl), z15_1, fun _ => z15_2, z15_0, fun _ _ => z15_8, fun h0_ => absurd ((hoff 3 z15_4).symm.trans h0_) (by decide), z_HO261, fun h0_ => absurd ((hoff 7 z15_4).symm.trans h0_) (by decide), z_HO267, fun h0_ => absurd ((hoff 11 z15_4).symm.trans h0_) (by decide), z_HO273, fun h0_ => absurd ((hoff 15 z15_4).symm.trans h0_) (by decide), fun h0_ => absurd ((hoff 17 z15_4).symm.trans h0_) (by decide), fun h0_ => absurd ((hoff 16 z15_4).symm.trans h0_) (by decide)⟩
  refine steps_cons ?_ ?_
  ·
   rintro b a w' ⟨v254, v257, v260, v263, v266, v269, v272, v275, m16_, ha, Q_BK251, Q_BK252, Q_HB, Q_HO255, Q_HO258, Q_HO261, Q_HO264, Q_HO267, Q_HO270, Q_HO273, Q_HO276, Q_BK252_e17, Q_X16_⟩ hb_ hon hoff
   refine ⟨_, rfl, fun K hK => ?_⟩
   have e4 : a.tmps[4]? = some (.pointer (some ⟨gb251, 0, none⟩)) := by rw [ha]; exact (putSel_off rfl).trans rfl
   replace ha := Aside0.mk ha
   have BK251 := Aside0.mk Q_BK251
   have BK252 := Aside0.mk (Q_BK252 (hoff 17 z15_4))
   have HB := Aside0.mk Q_HB
   have hc0_ : w'.cell? ⟨gb251, 0, none⟩ = some (.slice A0_0 l0_0.length c0_0) := bc_ BK251 0
   have hc1_ : w'.cell? ⟨gb251, 1, none⟩ = some (.slice A0_1 l0_1.length c0_1) := bc_ BK251 1
   have hc2_ : w'.cell? ⟨gb251, 2, none⟩ = some (.slice A0_2 l0_2.length c0_2) := bc_ BK251 2
   have hc3_ : w'.cell? ⟨gb251, 3, none⟩ = some (.slice A0_3 l0_3.length c0_3) := bc_ BK251 3
   refine value_ (w1 := w') (v := .slice A0_0 l0_0.length c0_0) (by rfl) rfl ?_ ?_
   ·
    go_simp
    (try simp only [i64_w])
    try rfl
   refine hK.out _ _ ⟨v254, v257, v260, v263, v266, v269, v272, v275, m16_, (by rw [ha.out]; exact putSel_upk 1 hb_ rfl rfl rfl), Q_BK251, Q_BK252, Q_HB, Q_HO255, fun h0_ => absurd ((hoff 3 z15_4).symm.trans h0_) (by decide), Q_HO261, fun h0_ => absurd ((hoff 7 z15_4).symm.trans h0_) (by decide), Q_HO267, fun h0_ => absurd ((hoff 11 z15_4).symm.trans h0_) (by decide), Q_HO273, fun h0_ => absurd ((hoff 15 z15_4).symm.trans h0_) (by decide), fun h0_ => absurd ((hoff 17 z15_4).symm.trans h0_) (by decide), fun h0_ => absurd ((hoff 16 z15_4).symm.trans h0_) (by decide)⟩
  refine steps_cons ?_ ?_
  ·
   rintro b a w' ⟨v254, v257, v260, v263, v266, v269, v272, v275, m16_, ha, Q_BK251, Q_BK252, Q_HB, Q_HO255, Q_HO258, Q_HO261, Q_HO264, Q_HO267, Q_HO270, Q_HO273, Q_HO276, Q_BK252_e17, Q_X16_⟩ hb_ hon hoff
   refine ⟨_, rfl, fun K hK => ?_⟩
   have e3 : a.tmps[3]? = some (v254) := by rw [ha]; exact putSel_on (e := (0, 3, v254)) 0 rfl rfl (hon 0 z15_4) rfl
   have e5 : a.tmps[5]? = some (.slice A0_0 l0_0.length c0_0) := by rw [ha]; exact putSel_on (e := (2, 5, .slice A0_0 l0_0.length c0_0)) 1 rfl rfl (hon 2 z15_4) rfl
   replace ha := Aside0.mk ha
   have BK251 := Aside0.mk Q_BK251
   have BK252 := Aside0.mk (Q_BK252 (hoff 17 z15_4))
   have HB := Aside0.mk Q_HB
   have HO255 := Aside0.mk (Q_HO255 (hon 0 z15_4) hb_)
   refine Kd.R_append_rows_step (Kd.int .i64) (w0 := w) w.heap.size (by rfl) (.tmp 3) (.tmp 5) 22 3 (.int .i64 0) 8 rfl Try.underlying22 info3 rfl (by decide) (by omega) v254 y253 l0_0 _ _ _ (fun _ => True) (fun _ => False) (ev_ e3) (ev_ e5) ?aO ?aR (fun _ _ h => h) (fun _ h => h.elim) ?aF ?aB ?aS ?aL ?_
   (case aR => repeat (first | exact (Kd.C_below HR0_0.out HB.out) | (with_reducible refine Kd.C_alloc ?_ _) | (with_reducible refine Kd.C_drewN ?_ _) | (with_reducible refine Kd.C_drew ?_)))
   (case aB => exact z15_0)
   (case aF => exact (fun _ _ => trivial))
   (case aO => exact z15_8)
   (case aS => exact (below_size z15_0))
   (case aL => have := LMc2.out; omega)
   intro v257 w12 ho hb hg hat
   rw [← Ny256.out] at ho
   have n0_ := Aside0.mk (blk_grown (g := gb251) (o := .cells #[.slice A0_0 l0_0.length c0_0, .slice A0_1 l0_1.length c0_1, .slice A0_2 l0_2.length c0_2, .slice A0_3 l0_3.length c0_3] 36 (0, 0)) z15_1 hg (Kd.R_ne HO255.out BK251.out (by decide)))
   have n1_ := Aside0.mk (blk_grown (g := gb252) (o := .cells #[.slice none 0 0, .slice none 0 0, .slice none 0 0, .slice none 0 0] 36 (0, 0)) z15_2 hg (Kd.R_ne HO255.out BK252.out (by decide)))
   have n2_ := Aside0.mk (hb)
   have n3_ := Aside0.mk (ho)
   have z_HO261 := fun (h0_ : b 4 = true) (h1_ : b 7 = false) => (show Kd.R k84 84 w12 w.heap.size (fun _ => True) v260 y259 from by first | exact (Kd.R_over' z15_6 (Kd.R_typed z15_8) (by decide) hg) | exact Kd.R_mono (Kd.R_over' z15_6 (Kd.R_typed z15_8) (by decide) hg) (fun _ h_ => by first | trivial | exact h_ | exact h_.1))
   have z_HO267 := fun (h0_ : b 8 = true) (h1_ : b 11 = false) => (show Kd.R k86 86 w12 w.heap.size (fun _ => True) v266 y265 from by first | exact (Kd.R_over' z15_5 (Kd.R_typed z15_8) (by decide) hg) | exact Kd.R_mono (Kd.R_over' z15_5 (Kd.R_typed z15_8) (by decide) hg) (fun _ h_ => by first | trivial | exact h_ | exact h_.1))
   have z_HO273 := fun (h0_ : b 12 = true) (h1_ : b 15 = false) => (show Kd.R k73 73 w12 w.heap.size (fun _ => True) v272 y271 from by first | exact (Kd.R_over' z15_3 (Kd.R_typed z15_8) (by decide) hg) | exact Kd.R_mono (Kd.R_over' z15_3 (Kd.R_typed z15_8) (by decide) hg) (fun _ h_ => by first | trivial | exact h_ | exact h_.1))
   clear BK251
   clear BK252
   clear HB
   clear HO255
   have BK251 := n0_
   have BK252 := n1_
   have HB := n2_
   have HO258 := n3_
   clear n0_ n1_ n2_ n3_
   clear ho hb hg hat
   refine hK.out _ _ ⟨v254, v257, v260, v263, v266, v269, v272, v275, m16_, (by rw [ha.out]; exact putSel_upk 2 hb_ rfl rfl rfl), z15_1, fun _ => z15_2, z15_0, fun _ h1_ => absurd ((up_self b 3).symm.trans h1_) (by decide), fun _ => z15_7, z_HO261, fun h0_ => absurd ((hoff 7 z15_4).symm.trans h0_) (by decide), z_HO267, fun h0_ => absurd ((hoff 11 z15_4).symm.trans h0_) (by decide), z_HO273, fun h0_ => absurd ((hoff 15 z15_4).symm.trans h0_) (by decide), fun h0_ => absurd ((hoff 17 z15_4).symm.trans h0_) (by decide), fun h0_ => absurd ((hoff 16 z15_4).symm.trans h0_) (by decide)⟩
  refine steps_cons ?_ ?_
  ·
   rintro b a w' ⟨v254, v257, v260, v263, v266, v269, v272, v275, m16_, ha, Q_BK251, Q_BK252, Q_HB, Q_HO255, Q_HO258, Q_HO261, Q_HO264, Q_HO267, Q_HO270, Q_HO273, Q_HO276, Q_BK252_e17, Q_X16_⟩ hb_ hon hoff
   refine ⟨_, rfl, fun K hK => ?_⟩
   replace ha := Aside0.mk ha
   have BK251 := Aside0.mk Q_BK251
   have BK252 := Aside0.mk (Q_BK252 (hoff 17 z15_4))
   have HB := Aside0.mk Q_HB
   refine Kd.R_lit_step k84 _ 84 ?hg (N := 7) ?hd (xs := ([] : List (S84))) (inner := []) (ok := fun _ => True) (okp := fun _ => True) ?hr ?hp (fun _ hk => hk) trivial (Below.refl _ _) (Nat.le_refl _) (by simp) ?_; (case hd => rfl); (case hg => rfl); (case hr => first | (go_simp; done) | (go_simp; rfl)); (case hp => exact (Reps.none _ _))
   intro v260 w9 ho10 hb hg_ hnew_
   clear hg_ hnew_
   (first | rw [← Ny259.out] at ho10 | (simp only [Int.reduceToNat] at ho10; rw [← Ny259.out] at ho10))
   have n0_ := Aside0.mk (Kd.R_lower ho10 (below_size z15_0))
   have n1_ := Aside0.mk (blk_below (g := gb251) (o := .cells #[.slice A0_0 l0_0.length c0_0, .slice A0_1 l0_1.length c0_1, .slice A0_2 l0_2.length c0_2, .slice A0_3 l0_3.length c0_3] 36 (0, 0)) z15_1 hb)
   have n2_ := Aside0.mk (blk_below (g := gb252) (o := .cells #[.slice none 0 0, .slice none 0 0, .slice none 0 0, .slice none 0 0] 36 (0, 0)) z15_2 hb)
   have n3_ := Aside0.mk (below_step z15_0 hb)
   have z_HO255 := fun (h0_ : b 0 = true) (h1_ : b 3 = false) => (show Kd.R (Kd.int .i64) 3 w9 w.heap.size (fun _ => True) v254 y253 from by first | exact (Kd.R_below z15_10 hb) | exact Kd.R_mono (Kd.R_below z15_10 hb) (fun _ h_ => by first | trivial | exact h_ | exact h_.1))
   have z_HO258 := fun (h0_ : b 3 = true) => (show Kd.R (Kd.int .i64) 3 w9 w.heap.size (fun _ => True) v257 y256 from by first | exact (Kd.R_below z15_11 hb) | exact Kd.R_mono (Kd.R_below z15_11 hb) (fun _ h_ => by first | trivial | exact h_ | exact h_.1))
   have z_HO267 := fun (h0_ : b 8 = true) (h1_ : b 11 = false) => (show Kd.R k86 86 w9 w.heap.size (fun _ => True) v266 y265 from by first | exact (Kd.R_below z15_5 hb) | exact Kd.R_mono (Kd.R_below z15_5 hb) (fun _ h_ => by first | trivial | exact h_ | exact h_.1))
   have z_HO273 := fun (h0_ : b 12 = true) (h1_ : b 15 = false) => (show Kd.R k73 73 w9 w.heap.size (fun _ => True) v272 y271 from by first | exact (Kd.R_below z15_3 hb) | exact Kd.R_mono (Kd.R_below z15_3 hb) (fun _ h_ => by first | trivial | exact h_ | exact h_.1))
   clear BK251
   clear BK252
   clear HB
   have HO261 := n0_
   have BK251 := n1_
   have BK252 := n2_
   have HB := n3_
   clear n0_ n1_ n2_ n3_
   clear hb ho10
   refine hK.out _ _ ⟨v254, v257, v260, v263, v266, v269, v272, v275, m16_, (by rw [ha.out]; exact putSel_upk 3 hb_ rfl rfl rfl), z15_1, fun _ => z15_2, z15_0, z_HO255, z_HO258, fun _ _ => z15_9, fun h0_ => absurd ((hoff 7 z15_4).symm.trans h0_) (by decide), z_HO267, fun h0_ => absurd ((hoff 11 z15_4).symm.trans h0_) (by decide), z_HO273, fun h0_ => absurd ((hoff 15 z15_4).symm.trans h0_) (by decide), fun h0_ => absurd ((hoff 17 z15_4).symm.trans h0_) (by decide), fun h0_ => absurd ((hoff 16 z15_4).symm.trans h0_) (by decide)⟩
  refine steps_cons ?_ ?_
  ·
   rintro b a w' ⟨v254, v257, v260, v263, v266, v269, v272, v275, m16_, ha, Q_BK251, Q_BK252, Q_HB, Q_HO255, Q_HO258, Q_HO261, Q_HO264, Q_HO267, Q_HO270, Q_HO273, Q_HO276, Q_BK252_e17, Q_X16_⟩ hb_ hon hoff
   refine ⟨_, rfl, fun K hK => ?_⟩
   have e8 : a.tmps[8]? = some (.pointer (some ⟨gb251, 1, none⟩)) := by rw [ha]; exact (putSel_off rfl).trans rfl
   replace ha := Aside0.mk ha
   have BK251 := Aside0.mk Q_BK251
   have BK252 := Aside0.mk (Q_BK252 (hoff 17 z15_4))
   have HB := Aside0.mk Q_HB
   have hc0_ : w'.cell? ⟨gb251, 0, none⟩ = some (.slice A0_0 l0_0.length c0_0) := bc_ BK251 0
   have hc1_ : w'.cell? ⟨gb251, 1, none⟩ = some (.slice A0_1 l0_1.length c0_1) := bc_ BK251 1
   have hc2_ : w'.cell? ⟨gb251, 2, none⟩ = some (.slice A0_2 l0_2.length c0_2) := bc_ BK251 2
   have hc3_ : w'.cell? ⟨gb251, 3, none⟩ = some (.slice A0_3 l0_3.length c0_3) := bc_ BK251 3
   refine value_ (w1 := w') (v := .slice A0_1 l0_1.length c0_1) (by rfl) rfl ?_ ?_
   ·
    go_simp
    (try simp only [i64_w])
    try rfl
   refine hK.out _ _ ⟨v254, v257, v260, v263, v266, v269, v272, v275, m16_, (by rw [ha.out]; exact putSel_upk 4 hb_ rfl rfl rfl), Q_BK251, Q_BK252, Q_HB, Q_HO255, Q_HO258, Q_HO261, fun h0_ => absurd ((hoff 7 z15_4).symm.trans h0_) (by decide), Q_HO267, fun h0_ => absurd ((hoff 11 z15_4).symm.trans h0_) (by decide), Q_HO273, fun h0_ => absurd ((hoff 15 z15_4).symm.trans h0_) (by decide), fun h0_ => absurd ((hoff 17 z15_4).symm.trans h0_) (by decide), fun h0_ => absurd ((hoff 16 z15_4).symm.trans h0_) (by decide)⟩
  refine steps_cons ?_ ?_
  ·
   rintro b a w' ⟨v254, v257, v260, v263, v266, v269, v272, v275, m16_, ha, Q_BK251, Q_BK252, Q_HB, Q_HO255, Q_HO258, Q_HO261, Q_HO264, Q_HO267, Q_HO270, Q_HO273, Q_HO276, Q_BK252_e17, Q_X16_⟩ hb_ hon hoff
   refine ⟨_, rfl, fun K hK => ?_⟩
   have e7 : a.tmps[7]? = some (v260) := by rw [ha]; exact putSel_on (e := (4, 7, v260)) 3 rfl rfl (hon 4 z15_4) rfl
   have e9 : a.tmps[9]? = some (.slice A0_1 l0_1.length c0_1) := by rw [ha]; exact putSel_on (e := (6, 9, .slice A0_1 l0_1.length c0_1)) 4 rfl rfl (hon 6 z15_4) rfl
   replace ha := Aside0.mk ha
   have BK251 := Aside0.mk Q_BK251
   have BK252 := Aside0.mk (Q_BK252 (hoff 17 z15_4))
   have HB := Aside0.mk Q_HB
   have HO258 := Aside0.mk (Q_HO258 (hon 3 z15_4))
   have HO261 := Aside0.mk (Q_HO261 (hon 4 z15_4) hb_)
   refine Kd.R_append_rows_step k84 (w0 := w) w.heap.size (by rfl) (.tmp 7) (.tmp 9) 32 84 (.agg #[(.string ⟨#[]⟩), (.int .i64 0), (.int .i64 0)]) 32 rfl Try.underlying32 info84 rfl (by decide) (by omega) v260 y259 l0_1 _ _ _ (fun _ => True) (fun _ => False) (ev_ e7) (ev_ e9) ?aO ?aR (fun _ _ h => h) (fun _ h => h.elim) ?aF ?aB ?aS ?aL ?_
   (case aR => repeat (first | exact (Kd.C_below HR0_1.out HB.out) | (with_reducible refine Kd.C_alloc ?_ _) | (with_reducible refine Kd.C_drewN ?_ _) | (with_reducible refine Kd.C_drew ?_)))
   (case aB => exact z15_0)
   (case aF => exact (fun _ _ => trivial))
   (case aO => exact z15_9)
   (case aS => exact (below_size z15_0))
   (case aL => have := LMc3.out; omega)
   intro v263 w15 ho hb hg hat
   rw [← Ny262.out] at ho
   have n0_ := Aside0.mk (blk_grown (g := gb251) (o := .cells #[.slice A0_0 l0_0.length c0_0, .slice A0_1 l0_1.length c0_1, .slice A0_2 l0_2.length c0_2, .slice A0_3 l0_3.length c0_3] 36 (0, 0)) z15_1 hg (Kd.R_ne HO261.out BK251.out (by decide)))
   have n1_ := Aside0.mk (blk_grown (g := gb252) (o := .cells #[.slice none 0 0, .slice none 0 0, .slice none 0 0, .slice none 0 0] 36 (0, 0)) z15_2 hg (Kd.R_ne HO261.out BK252.out (by decide)))
   have n2_ := Aside0.mk (Kd.R_over' z15_7 (Kd.R_typed z15_9) (by decide) hg)
   have n3_ := Aside0.mk (hb)
   have n4_ := Aside0.mk (ho)
   have z_HO267 := fun (h0_ : b 8 = true) (h1_ : b 11 = false) => (show Kd.R k86 86 w15 w.heap.size (fun _ => True) v266 y265 from by first | exact (Kd.R_over' z15_5 (Kd.R_typed z15_9) (by decide) hg) | exact Kd.R_mono (Kd.R_over' z15_5 (Kd.R_typed z15_9) (by decide) hg) (fun _ h_ => by first | trivial | exact h_ | exact h_.1))
   have z_HO273 := fun (h0_ : b 12 = true) (h1_ : b 15 = false) => (show Kd.R k73 73 w15 w.heap.size (fun _ => True) v272 y271 from by first | exact (Kd.R_over' z15_3 (Kd.R_typed z15_9) (by decide) hg) | exact Kd.R_mono (Kd.R_over' z15_3 (Kd.R_typed z15_9) (by decide) hg) (fun _ h_ => by first | trivial | exact h_ | exact h_.1))
   clear BK251
   clear BK252
   clear HO258
   clear HB
   clear HO261
   have BK251 := n0_
   have BK252 := n1_
   have HO258 := n2_
   have HB := n3_
   have HO264 := n4_
   clear n0_ n1_ n2_ n3_ n4_
   clear ho hb hg hat
   refine hK.out _ _ ⟨v254, v257, v260, v263, v266, v269, v272, v275, m16_, (by rw [ha.out]; exact putSel_upk 5 hb_ rfl rfl rfl), z15_1, fun _ => z15_2, z15_0, fun _ h1_ => absurd ((hon 3 z15_4).symm.trans h1_) (by decide), fun _ => z15_7, fun _ h1_ => absurd ((up_self b 7).symm.trans h1_) (by decide), fun _ => z15_13, z_HO267, fun h0_ => absurd ((hoff 11 z15_4).symm.trans h0_) (by decide), z_HO273, fun h0_ => absurd ((hoff 15 z15_4).symm.trans h0_) (by decide), fun h0_ => absurd ((hoff 17 z15_4).symm.trans h0_) (by decide), fun h0_ => absurd ((hoff 16 z15_4).symm.trans h0_) (by decide)⟩
  refine steps_cons ?_ ?_
  ·
   rintro b a w' ⟨v254, v257, v260, v263, v266, v269, v272, v275, m16_, ha, Q_BK251, Q_BK252, Q_HB, Q_HO255, Q_HO258, Q_HO261, Q_HO264, Q_HO267, Q_HO270, Q_HO273, Q_HO276, Q_BK252_e17, Q_X16_⟩ hb_ hon hoff
   refine ⟨_, rfl, fun K hK => ?_⟩
   replace ha := Aside0.mk ha
   have BK251 := Aside0.mk Q_BK251
   have BK252 := Aside0.mk (Q_BK252 (hoff 17 z15_4))
   have HB := Aside0.mk Q_HB
   refine Kd.R_lit_step k86 _ 86 ?hg (N := 11) ?hd (xs := ([] : List (S86))) (inner := []) (ok := fun _ => True) (okp := fun _ => True) ?hr ?hp (fun _ hk => hk) trivial (Below.refl _ _) (Nat.le_refl _) (by simp) ?_; (case hd => rfl); (case hg => rfl); (case hr => first | (go_simp; done) | (go_simp; rfl)); (case hp => exact (Reps.none _ _))
   intro v266 w9 ho10 hb hg_ hnew_
   clear hg_ hnew_
   (first | rw [← Ny265.out] at ho10 | (simp only [Int.reduceToNat] at ho10; rw [← Ny265.out] at ho10))
   have n0_ := Aside0.mk (Kd.R_lower ho10 (below_size z15_0))
   have n1_ := Aside0.mk (blk_below (g := gb251) (o := .cells #[.slice A0_0 l0_0.length c0_0, .slice A0_1 l0_1.length c0_1, .slice A0_2 l0_2.length c0_2, .slice A0_3 l0_3.length c0_3] 36 (0, 0)) z15_1 hb)
   have n2_ := Aside0.mk (blk_below (g := gb252) (o := .cells #[.slice none 0 0, .slice none 0 0, .slice none 0 0, .slice none 0 0] 36 (0, 0)) z15_2 hb)
   have n3_ := Aside0.mk (below_step z15_0 hb)
   have z_HO255 := fun (h0_ : b 0 = true) (h1_ : b 3 = false) => (show Kd.R (Kd.int .i64) 3 w9 w.heap.size (fun _ => True) v254 y253 from by first | exact (Kd.R_below z15_10 hb) | exact Kd.R_mono (Kd.R_below z15_10 hb) (fun _ h_ => by first | trivial | exact h_ | exact h_.1))
   have z_HO258 := fun (h0_ : b 3 = true) => (show Kd.R (Kd.int .i64) 3 w9 w.heap.size (fun _ => True) v257 y256 from by first | exact (Kd.R_below z15_11 hb) | exact Kd.R_mono (Kd.R_below z15_11 hb) (fun _ h_ => by first | trivial | exact h_ | exact h_.1))
   have z_HO261 := fun (h0_ : b 4 = true) (h1_ : b 7 = false) => (show Kd.R k84 84 w9 w.heap.size (fun _ => True) v260 y259 from by first | exact (Kd.R_below z15_6 hb) | exact Kd.R_mono (Kd.R_below z15_6 hb) (fun _ h_ => by first | trivial | exact h_ | exact h_.1))
   have z_HO264 := fun (h0_ : b 7 = true) => (show Kd.R k84 84 w9 w.heap.size (fun _ => True) v263 y262 from by first | exact (Kd.R_below z15_16 hb) | exact Kd.R_mono (Kd.R_below z15_16 hb) (fun _ h_ => by first | trivial | exact h_ | exact h_.1))
   have z_HO273 := fun (h0_ : b 12 = true) (h1_ : b 15 = false) => (show Kd.R k73 73 w9 w.heap.size (fun _ => True) v272 y271 from by first | exact (Kd.R_below z15_3 hb) | exact Kd.R_mono (Kd.R_below z15_3 hb) (fun _ h_ => by first | trivial | exact h_ | exact h_.1))
   clear BK251
   clear BK252
   clear HB
   have HO267 := n0_
   have BK251 := n1_
   have BK252 := n2_
   have HB := n3_
   clear n0_ n1_ n2_ n3_
   clear hb ho10
   refine hK.out _ _ ⟨v254, v257, v260, v263, v266, v269, v272, v275, m16_, (by rw [ha.out]; exact putSel_upk 6 hb_ rfl rfl rfl), z15_1, fun _ => z15_2, z15_0, z_HO255, z_HO258, z_HO261, z_HO264, fun _ _ => z15_12, fun h0_ => absurd ((hoff 11 z15_4).symm.trans h0_) (by decide), z_HO273, fun h0_ => absurd ((hoff 15 z15_4).symm.trans h0_) (by decide), fun h0_ => absurd ((hoff 17 z15_4).symm.trans h0_) (by decide), fun h0_ => absurd ((hoff 16 z15_4).symm.trans h0_) (by decide)⟩
  refine steps_cons ?_ ?_
  ·
   rintro b a w' ⟨v254, v257, v260, v263, v266, v269, v272, v275, m16_, ha, Q_BK251, Q_BK252, Q_HB, Q_HO255, Q_HO258, Q_HO261, Q_HO264, Q_HO267, Q_HO270, Q_HO273, Q_HO276, Q_BK252_e17, Q_X16_⟩ hb_ hon hoff
   refine ⟨_, rfl, fun K hK => ?_⟩
   have e12 : a.tmps[12]? = some (.pointer (some ⟨gb251, 2, none⟩)) := by rw [ha]; exact (putSel_off rfl).trans rfl
   replace ha := Aside0.mk ha
   have BK251 := Aside0.mk Q_BK251
   have BK252 := Aside0.mk (Q_BK252 (hoff 17 z15_4))
   have HB := Aside0.mk Q_HB
   have hc0_ : w'.cell? ⟨gb251, 0, none⟩ = some (.slice A0_0 l0_0.length c0_0) := bc_ BK251 0
   have hc1_ : w'.cell? ⟨gb251, 1, none⟩ = some (.slice A0_1 l0_1.length c0_1) := bc_ BK251 1
   have hc2_ : w'.cell? ⟨gb251, 2, none⟩ = some (.slice A0_2 l0_2.length c0_2) := bc_ BK251 2
   have hc3_ : w'.cell? ⟨gb251, 3, none⟩ = some (.slice A0_3 l0_3.length c0_3) := bc_ BK251 3
   refine value_ (w1 := w') (v := .slice A0_2 l0_2.length c0_2) (by rfl) rfl ?_ ?_
   ·
    go_simp
    (try simp only [i64_w])
    try rfl
   refine hK.out _ _ ⟨v254, v257, v260, v263, v266, v269, v272, v275, m16_, (by rw [ha.out]; exact putSel_upk 7 hb_ rfl rfl rfl), Q_BK251, Q_BK252, Q_HB, Q_HO255, Q_HO258, Q_HO261, Q_HO264, Q_HO267, fun h0_ => absurd ((hoff 11 z15_4).symm.trans h0_) (by decide), Q_HO273, fun h0_ => absurd ((hoff 15 z15_4).symm.trans h0_) (by decide), fun h0_ => absurd ((hoff 17 z15_4).symm.trans h0_) (by decide), fun h0_ => absurd ((hoff 16 z15_4).symm.trans h0_) (by decide)⟩
  refine steps_cons ?_ ?_
  ·
   rintro b a w' ⟨v254, v257, v260, v263, v266, v269, v272, v275, m16_, ha, Q_BK251, Q_BK252, Q_HB, Q_HO255, Q_HO258, Q_HO261, Q_HO264, Q_HO267, Q_HO270, Q_HO273, Q_HO276, Q_BK252_e17, Q_X16_⟩ hb_ hon hoff
   refine ⟨_, rfl, fun K hK => ?_⟩
   have e11 : a.tmps[11]? = some (v266) := by rw [ha]; exact putSel_on (e := (8, 11, v266)) 6 rfl rfl (hon 8 z15_4) rfl
   have e13 : a.tmps[13]? = some (.slice A0_2 l0_2.length c0_2) := by rw [ha]; exact putSel_on (e := (10, 13, .slice A0_2 l0_2.length c0_2)) 7 rfl rfl (hon 10 z15_4) rfl
   replace ha := Aside0.mk ha
   have BK251 := Aside0.mk Q_BK251
   have BK252 := Aside0.mk (Q_BK252 (hoff 17 z15_4))
   have HB := Aside0.mk Q_HB
   have HO258 := Aside0.mk (Q_HO258 (hon 3 z15_4))
   have HO264 := Aside0.mk (Q_HO264 (hon 7 z15_4))
   have HO267 := Aside0.mk (Q_HO267 (hon 8 z15_4) hb_)
   refine Kd.R_append_rows_step k86 (w0 := w) w.heap.size (by rfl) (.tmp 11) (.tmp 13) 33 86 (.agg #[(.bool false), (.string ⟨#[]⟩), (.string ⟨#[]⟩), (.int .i64 0), (.int .i64 0), (.int .i64 0)]) 64 rfl Try.underlying33 info86 rfl (by decide) (by omega) v266 y265 l0_2 _ _ _ (fun _ => True) (fun _ => False) (ev_ e11) (ev_ e13) ?aO ?aR (fun _ _ h => h) (fun _ h => h.elim) ?aF ?aB ?aS ?aL ?_
   (case aR => repeat (first | exact (Kd.C_below HR0_2.out HB.out) | (with_reducible refine Kd.C_alloc ?_ _) | (with_reducible refine Kd.C_drewN ?_ _) | (with_reducible refine Kd.C_drew ?_)))
   (case aB => exact z15_0)
   (case aF => exact (fun _ _ => trivial))
   (case aO => exact z15_12)
   (case aS => exact (below_size z15_0))
   (case aL => have := LMc4.out; omega)
   intro v269 w18 ho hb hg hat
   rw [← Ny268.out] at ho
   have n0_ := Aside0.mk (blk_grown (g := gb251) (o := .cells #[.slice A0_0 l0_0.length c0_0, .slice A0_1 l0_1.length c0_1, .slice A0_2 l0_2.length c0_2, .slice A0_3 l0_3.length c0_3] 36 (0, 0)) z15_1 hg (Kd.R_ne HO267.out BK251.out (by decide)))
   have n1_ := Aside0.mk (blk_grown (g := gb252) (o := .cells #[.slice none 0 0, .slice none 0 0, .slice none 0 0, .slice none 0 0] 36 (0, 0)) z15_2 hg (Kd.R_ne HO267.out BK252.out (by decide)))
   have n2_ := Aside0.mk (Kd.R_over' z15_7 (Kd.R_typed z15_12) (by decide) hg)
   have n3_ := Aside0.mk (Kd.R_over' z15_13 (Kd.R_typed z15_12) (by decide) hg)
   have n4_ := Aside0.mk (hb)
   have n5_ := Aside0.mk (ho)
   have z_HO273 := fun (h0_ : b 12 = true) (h1_ : b 15 = false) => (show Kd.R k73 73 w18 w.heap.size (fun _ => True) v272 y271 from by first | exact (Kd.R_over' z15_3 (Kd.R_typed z15_12) (by decide) hg) | exact Kd.R_mono (Kd.R_over' z15_3 (Kd.R_typed z15_12) (by decide) hg) (fun _ h_ => by first | trivial | exact h_ | exact h_.1))
   clear BK251
   clear BK252
   clear HO258
   clear HO264
   clear HB
   clear HO267
   have BK251 := n0_
   have BK252 := n1_
   have HO258 := n2_
   have HO264 := n3_
   have HB := n4_
   have HO270 := n5_
   clear n0_ n1_ n2_ n3_ n4_ n5_
   clear ho hb hg hat
   refine hK.out _ _ ⟨v254, v257, v260, v263, v266, v269, v272, v275, m16_, (by rw [ha.out]; exact putSel_upk 8 hb_ rfl rfl rfl), z15_1, fun _ => z15_2, z15_0, fun _ h1_ => absurd ((hon 3 z15_4).symm.trans h1_) (by decide), fun _ => z15_7, fun _ h1_ => absurd ((hon 7 z15_4).symm.trans h1_) (by decide), fun _ => z15_13, fun _ h1_ => absurd ((up_self b 11).symm.trans h1_) (by decide), fun _ => z15_18, z_HO273, fun h0_ => absurd ((hoff 15 z15_4).symm.trans h0_) (by decide), fun h0_ => absurd ((hoff 17 z15_4).symm.trans h0_) (by decide), fun h0_ => absurd ((hoff 16 z15_4).symm.trans h0_) (by decide)⟩
  refine steps_cons ?_ ?_
  ·
   rintro b a w' ⟨v254, v257, v260, v263, v266, v269, v272, v275, m16_, ha, Q_BK251, Q_BK252, Q_HB, Q_HO255, Q_HO258, Q_HO261, Q_HO264, Q_HO267, Q_HO270, Q_HO273, Q_HO276, Q_BK252_e17, Q_X16_⟩ hb_ hon hoff
   refine ⟨_, rfl, fun K hK => ?_⟩
   replace ha := Aside0.mk ha
   have BK251 := Aside0.mk Q_BK251
   have BK252 := Aside0.mk (Q_BK252 (hoff 17 z15_4))
   have HB := Aside0.mk Q_HB
   refine Kd.R_lit_step k73 _ 73 ?hg (N := 15) ?hd (xs := ([] : List (S73))) (inner := []) (ok := fun _ => True) (okp := fun _ => True) ?hr ?hp (fun _ hk => hk) trivial (Below.refl _ _) (Nat.le_refl _) (by simp) ?_; (case hd => rfl); (case hg => rfl); (case hr => first | (go_simp; done) | (go_simp; rfl)); (case hp => exact (Reps.none _ _))
   intro v272 w9 ho10 hb hg_ hnew_
   clear hg_ hnew_
   (first | rw [← Ny271.out] at ho10 | (simp only [Int.reduceToNat] at ho10; rw [← Ny271.out] at ho10))
   have n0_ := Aside0.mk (Kd.R_lower ho10 (below_size z15_0))
   have n1_ := Aside0.mk (blk_below (g := gb251) (o := .cells #[.slice A0_0 l0_0.length c0_0, .slice A0_1 l0_1.length c0_1, .slice A0_2 l0_2.length c0_2, .slice A0_3 l0_3.length c0_3] 36 (0, 0)) z15_1 hb)
   have n2_ := Aside0.mk (blk_below (g := gb252) (o := .cells #[.slice none 0 0, .slice none 0 0, .slice none 0 0, .slice none 0 0] 36 (0, 0)) z15_2 hb)
   have n3_ := Aside0.mk (below_step z15_0 hb)
   have z_HO255 := fun (h0_ : b 0 = true) (h1_ : b 3 = false) => (show Kd.R (Kd.int .i64) 3 w9 w.heap.size (fun _ => True) v254 y253 from by first | exact (Kd.R_below z15_10 hb) | exact Kd.R_mono (Kd.R_below z15_10 hb) (fun _ h_ => by first | trivial | exact h_ | exact h_.1))
   have z_HO258 := fun (h0_ : b 3 = true) => (show Kd.R (Kd.int .i64) 3 w9 w.heap.size (fun _ => True) v257 y256 from by first | exact (Kd.R_below z15_11 hb) | exact Kd.R_mono (Kd.R_below z15_11 hb) (fun _ h_ => by first | trivial | exact h_ | exact h_.1))
   have z_HO261 := fun (h0_ : b 4 = true) (h1_ : b 7 = false) => (show Kd.R k84 84 w9 w.heap.size (fun _ => True) v260 y259 from by first | exact (Kd.R_below z15_6 hb) | exact Kd.R_mono (Kd.R_below z15_6 hb) (fun _ h_ => by first | trivial | exact h_ | exact h_.1))
   have z_HO264 := fun (h0_ : b 7 = true) => (show Kd.R k84 84 w9 w.heap.size (fun _ => True) v263 y262 from by first | exact (Kd.R_below z15_16 hb) | exact Kd.R_mono (Kd.R_below z15_16 hb) (fun _ h_ => by first | trivial | exact h_ | exact h_.1))
   have z_HO267 := fun (h0_ : b 8 = true) (h1_ : b 11 = false) => (show Kd.R k86 86 w9 w.heap.size (fun _ => True) v266 y265 from by first | exact (Kd.R_below z15_5 hb) | exact Kd.R_mono (Kd.R_below z15_5 hb) (fun _ h_ => by first | trivial | exact h_ | exact h_.1))
   have z_HO270 := fun (h0_ : b 11 = true) => (show Kd.R k86 86 w9 w.heap.size (fun _ => True) v269 y268 from by first | exact (Kd.R_below (by (with_reducible repeat (first | apply Kd.R_alloc | apply Kd.R_drewN | apply Kd.R_drew)); exact (Q_HO270 h0_)) hb) | exact Kd.R_mono (Kd.R_below (by (with_reducible repeat (first | apply Kd.R_alloc | apply Kd.R_drewN | apply Kd.R_drew)); exact (Q_HO270 h0_)) hb) (fun _ h_ => by first | trivial | exact h_ | exact h_.1))
   clear BK251
   clear BK252
   clear HB
   have HO273 := n0_
   have BK251 := n1_
   have BK252 := n2_
   have HB := n3_
   clear n0_ n1_ n2_ n3_
   clear hb ho10
   refine hK.out _ _ ⟨v254, v257, v260, v263, v266, v269, v272, v275, m16_, (by rw [ha.out]; exact putSel_upk 9 hb_ rfl rfl rfl), z15_1, fun _ => z15_2, z15_0, z_HO255, z_HO258, z_HO261, z_HO264, z_HO267, z_HO270, fun _ _ => z15_14, fun h0_ => absurd ((hoff 15 z15_4).symm.trans h0_) (by decide), fun h0_ => absurd ((hoff 17 z15_4).symm.trans h0_) (by decide), fun h0_ => absurd ((hoff 16 z15_4).symm.trans h0_) (by decide)⟩
  refine steps_cons ?_ ?_
  ·
   rintro b a w' ⟨v254, v257, v260, v263, v266, v269, v272, v275, m16_, ha, Q_BK251, Q_BK252, Q_HB, Q_HO255, Q_HO258, Q_HO261, Q_HO264, Q_HO267, Q_HO270, Q_HO273, Q_HO276, Q_BK252_e17, Q_X16_⟩ hb_ hon hoff
   refine ⟨_, rfl, fun K hK => ?_⟩
   have e16 : a.tmps[16]? = some (.pointer (some ⟨gb251, 3, none⟩)) := by rw [ha]; exact (putSel_off rfl).trans rfl
   replace ha := Aside0.mk ha
   have BK251 := Aside0.mk Q_BK251
   have BK252 := Aside0.mk (Q_BK252 (hoff 17 z15_4))
   have HB := Aside0.mk Q_HB
   have hc0_ : w'.cell? ⟨gb251, 0, none⟩ = some (.slice A0_0 l0_0.length c0_0) := bc_ BK251 0
   have hc1_ : w'.cell? ⟨gb251, 1, none⟩ = some (.slice A0_1 l0_1.length c0_1) := bc_ BK251 1
   have hc2_ : w'.cell? ⟨gb251, 2, none⟩ = some (.slice A0_2 l0_2.length c0_2) := bc_ BK251 2
   have hc3_ : w'.cell? ⟨gb251, 3, none⟩ = some (.slice A0_3 l0_3.length c0_3) := bc_ BK251 3
   refine value_ (w1 := w') (v := .slice A0_3 l0_3.length c0_3) (by rfl) rfl ?_ ?_
   ·
    go_simp
    (try simp only [i64_w])
    try rfl
   refine hK.out _ _ ⟨v254, v257, v260, v263, v266, v269, v272, v275, m16_, (by rw [ha.out]; exact putSel_upk 10 hb_ rfl rfl rfl), Q_BK251, Q_BK252, Q_HB, Q_HO255, Q_HO258, Q_HO261, Q_HO264, Q_HO267, Q_HO270, Q_HO273, fun h0_ => absurd ((hoff 15 z15_4).symm.trans h0_) (by decide), fun h0_ => absurd ((hoff 17 z15_4).symm.trans h0_) (by decide), fun h0_ => absurd ((hoff 16 z15_4).symm.trans h0_) (by decide)⟩
  refine steps_cons ?_ ?_
  ·
   rintro b a w' ⟨v254, v257, v260, v263, v266, v269, v272, v275, m16_, ha, Q_BK251, Q_BK252, Q_HB, Q_HO255, Q_HO258, Q_HO261, Q_HO264, Q_HO267, Q_HO270, Q_HO273, Q_HO276, Q_BK252_e17, Q_X16_⟩ hb_ hon hoff
   refine ⟨_, rfl, fun K hK => ?_⟩
   have e15 : a.tmps[15]? = some (v272) := by rw [ha]; exact putSel_on (e := (12, 15, v272)) 9 rfl rfl (hon 12 z15_4) rfl
   have e17 : a.tmps[17]? = some (.slice A0_3 l0_3.length c0_3) := by rw [ha]; exact putSel_on (e := (14, 17, .slice A0_3 l0_3.length c0_3)) 10 rfl rfl (hon 14 z15_4) rfl
   replace ha := Aside0.mk ha
   have BK251 := Aside0.mk Q_BK251
   have BK252 := Aside0.mk (Q_BK252 (hoff 17 z15_4))
   have HB := Aside0.mk Q_HB
   have HO258 := Aside0.mk (Q_HO258 (hon 3 z15_4))
   have HO264 := Aside0.mk (Q_HO264 (hon 7 z15_4))
   have HO270 := Aside0.mk (Q_HO270 (hon 11 z15_4))
   have HO273 := Aside0.mk (Q_HO273 (hon 12 z15_4) hb_)
   refine Kd.R_append_rows_step k73 (w0 := w) w.heap.size (by rfl) (.tmp 15) (.tmp 17) 34 73 (.agg #[(.string ⟨#[]⟩), (.int .i64 0), (.int .i64 0), (.int .i64 0), (.int .i64 0), (.int .i64 0), (.int .i64 0), (.bool false)]) 72 rfl Try.underlying34 info73 rfl (by decide) (by omega) v272 y271 l0_3 _ _ _ (fun _ => True) (fun _ => False) (ev_ e15) (ev_ e17) ?aO ?aR (fun _ _ h => h) (fun _ h => h.elim) ?aF ?aB ?aS ?aL ?_
   (case aR => repeat (first | exact (Kd.C_below HR0_3.out HB.out) | (with_reducible refine Kd.C_alloc ?_ _) | (with_reducible refine Kd.C_drewN ?_ _) | (with_reducible refine Kd.C_drew ?_)))
   (case aB => exact z15_0)
   (case aF => exact (fun _ _ => trivial))
   (case aO => exact z15_14)
   (case aS => exact (below_size z15_0))
   (case aL => have := LMc5.out; omega)
   intro v275 w21 ho hb hg hat
   rw [← Ny274.out] at ho
   replace BK251 := Aside0.mk (blk_grown (g := gb251) (o := .cells #[.slice A0_0 l0_0.length c0_0, .slice A0_1 l0_1.length c0_1, .slice A0_2 l0_2.length c0_2, .slice A0_3 l0_3.length c0_3] 36 (0, 0)) z15_1 hg (Kd.R_ne HO273.out BK251.out (by decide)))
   replace BK252 := Aside0.mk (blk_grown (g := gb252) (o := .cells #[.slice none 0 0, .slice none 0 0, .slice none 0 0, .slice none 0 0] 36 (0, 0)) z15_2 hg (Kd.R_ne HO273.out BK252.out (by decide)))
   replace HO258 := Aside0.mk (Kd.R_over' z15_7 (Kd.R_typed z15_14) (by decide) hg)
   replace HO264 := Aside0.mk (Kd.R_over' z15_13 (Kd.R_typed z15_14) (by decide) hg)
   replace HO270 := Aside0.mk (Kd.R_over' z15_18 (Kd.R_typed z15_14) (by decide) hg)
   replace HB := Aside0.mk (hb)
   have HO276 := Aside0.mk (ho)
   clear HO273
   clear ho hb hg hat
   obtain ⟨Ao22, co22, eo22⟩ := Kd.R_slice HO276.out
   (first | subst eo22 | (injection eo22 with f1_ f2_ f3_; have f4_ := f1_.symm; have f5_ := f3_.symm; clear f1_ f2_ f3_; subst f4_; subst f5_))
   obtain ⟨Ao23, co23, eo23⟩ := Kd.R_slice HO270.out
   (first | subst eo23 | (injection eo23 with f1_ f2_ f3_; have f4_ := f1_.symm; have f5_ := f3_.symm; clear f1_ f2_ f3_; subst f4_; subst f5_))
   obtain ⟨Ao24, co24, eo24⟩ := Kd.R_slice HO264.out
   (first | subst eo24 | (injection eo24 with f1_ f2_ f3_; have f4_ := f1_.symm; have f5_ := f3_.symm; clear f1_ f2_ f3_; subst f4_; subst f5_))
   obtain ⟨Ao25, co25, eo25⟩ := Kd.R_slice HO258.out
   (first | subst eo25 | (injection eo25 with f1_ f2_ f3_; have f4_ := f1_.symm; have f5_ := f3_.symm; clear f1_ f2_ f3_; subst f4_; subst f5_))
   refine hK.out _ _ ⟨v254, .slice Ao25 y256.length co25, v260, .slice Ao24 y262.length co24, v266, .slice Ao23 y268.length co23, v272, .slice Ao22 y274.length co22, m16_, (by rw [ha.out]; exact putSel_upk 11 hb_ rfl rfl rfl), z15_1, fun _ => z15_2, z15_0, fun _ h1_ => absurd ((hon 3 z15_4).symm.trans h1_) (by decide), fun _ => z15_7, fun _ h1_ => absurd ((hon 7 z15_4).symm.trans h1_) (by decide), fun _ => z15_13, fun _ h1_ => absurd ((hon 11 z15_4).symm.trans h1_) (by decide), fun _ => z15_18, fun _ h1_ => absurd ((up_self b 15).symm.trans h1_) (by decide), fun _ => (by (with_reducible repeat (first | apply Kd.R_alloc | apply Kd.R_drewN | apply Kd.R_drew)); exact HO276.out), fun h0_ => absurd ((hoff 17 z15_4).symm.trans h0_) (by decide), fun h0_ => absurd ((hoff 16 z15_4).symm.trans h0_) (by decide)⟩
  refine steps_cons ?_ ?_
  ·
   rintro b a w' ⟨v254, v257, v260, v263, v266, v269, v272, v275, m16_, ha, Q_BK251, Q_BK252, Q_HB, Q_HO255, Q_HO258, Q_HO261, Q_HO264, Q_HO267, Q_HO270, Q_HO273, Q_HO276, Q_BK252_e17, Q_X16_⟩ hb_ hon hoff
   refine ⟨_, rfl, fun K hK => ?_⟩
   have e6 : a.tmps[6]? = some (v257) := by rw [ha]; exact putSel_on (e := (3, 6, v257)) 2 rfl rfl (hon 3 z15_4) rfl
   have e10 : a.tmps[10]? = some (v263) := by rw [ha]; exact putSel_on (e := (7, 10, v263)) 5 rfl rfl (hon 7 z15_4) rfl
   have e14 : a.tmps[14]? = some (v269) := by rw [ha]; exact putSel_on (e := (11, 14, v269)) 8 rfl rfl (hon 11 z15_4) rfl
   have e18 : a.tmps[18]? = some (v275) := by rw [ha]; exact putSel_on (e := (15, 18, v275)) 11 rfl rfl (hon 15 z15_4) rfl
   replace ha := Aside0.mk ha
   have BK251 := Aside0.mk Q_BK251
   have BK252 := Aside0.mk (Q_BK252 (hoff 17 z15_4))
   have HB := Aside0.mk Q_HB
   have HO258 := Aside0.mk (Q_HO258 (hon 3 z15_4))
   have HO264 := Aside0.mk (Q_HO264 (hon 7 z15_4))
   have HO270 := Aside0.mk (Q_HO270 (hon 11 z15_4))
   have HO276 := Aside0.mk (Q_HO276 (hon 15 z15_4))
   obtain ⟨Ao16_0, co16_0, eo_⟩ := Kd.R_slice HO258.out
   subst eo_
   obtain ⟨Ao16_1, co16_1, eo_⟩ := Kd.R_slice HO264.out
   subst eo_
   obtain ⟨Ao16_2, co16_2, eo_⟩ := Kd.R_slice HO270.out
   subst eo_
   obtain ⟨Ao16_3, co16_3, eo_⟩ := Kd.R_slice HO276.out
   subst eo_
   refine value_ (w1 := w') (v := .agg #[.slice Ao16_0 y256.length co16_0, .slice Ao16_1 y262.length co16_1, .slice Ao16_2 y268.length co16_2, .slice Ao16_3 y274.length co16_3]) (by rfl) rfl ?_ ?_
   ·
    go_simp
    (try simp only [i64_w])
    try rfl
   refine hK.out _ _ ⟨v254, .slice Ao16_0 y256.length co16_0, v260, .slice Ao16_1 y262.length co16_1, v266, .slice Ao16_2 y268.length co16_2, v272, .slice Ao16_3 y274.length co16_3, (.agg #[.slice Ao16_0 y256.length co16_0, .slice Ao16_1 y262.length co16_1, .slice Ao16_2 y268.length co16_2, .slice Ao16_3 y274.length co16_3]), (by rw [ha.out]; exact putSel_upk 12 hb_ rfl rfl rfl), Q_BK251, Q_BK252, Q_HB, fun _ h1_ => absurd ((hon 3 z15_4).symm.trans h1_) (by decide), Q_HO258, fun _ h1_ => absurd ((hon 7 z15_4).symm.trans h1_) (by decide), Q_HO264, fun _ h1_ => absurd ((hon 11 z15_4).symm.trans h1_) (by decide), Q_HO270, fun _ h1_ => absurd ((hon 15 z15_4).symm.trans h1_) (by decide), Q_HO276, fun h0_ => absurd ((hoff 17 z15_4).symm.trans h0_) (by decide), fun _ => rfl⟩
  refine steps_cons ?_ ?_
  ·
   rintro b a w' ⟨v254, v257, v260, v263, v266, v269, v272, v275, m16_, ha, Q_BK251, Q_BK252, Q_HB, Q_HO255, Q_HO258, Q_HO261, Q_HO264, Q_HO267, Q_HO270, Q_HO273, Q_HO276, Q_BK252_e17, Q_X16_⟩ hb_ hon hoff
   refine ⟨_, rfl, fun K hK => ?_⟩
   have e2 : a.tmps[2]? = some (.pointer (some ⟨gb252, 0, none⟩)) := by rw [ha]; exact (putSel_off rfl).trans rfl
   have e19 : a.tmps[19]? = some (m16_) := by rw [ha]; exact putSel_on (e := (16, 19, m16_)) 12 rfl rfl (hon 16 z15_4) rfl
   rw [Q_X16_ (hon 16 z15_4)] at e19
   replace ha := Aside0.mk ha
   have BK251 := Aside0.mk Q_BK251
   have BK252 := Aside0.mk (Q_BK252 hb_)
   have HB := Aside0.mk Q_HB
   have HO258 := Aside0.mk (Q_HO258 (hon 3 z15_4))
   have HO264 := Aside0.mk (Q_HO264 (hon 7 z15_4))
   have HO270 := Aside0.mk (Q_HO270 (hon 11 z15_4))
   have HO276 := Aside0.mk (Q_HO276 (hon 15 z15_4))
   obtain ⟨Ao26, co26, eo26⟩ := Kd.R_slice HO276.out
   (first | subst eo26 | (injection eo26 with f1_ f2_ f3_; have f4_ := f1_.symm; have f5_ := f3_.symm; clear f1_ f2_ f3_; subst f4_; subst f5_))
   obtain ⟨Ao27, co27, eo27⟩ := Kd.R_slice HO270.out
   (first | subst eo27 | (injection eo27 with f1_ f2_ f3_; have f4_ := f1_.symm; have f5_ := f3_.symm; clear f1_ f2_ f3_; subst f4_; subst f5_))
   obtain ⟨Ao28, co28, eo28⟩ := Kd.R_slice HO264.out
   (first | subst eo28 | (injection eo28 with f1_ f2_ f3_; have f4_ := f1_.symm; have f5_ := f3_.symm; clear f1_ f2_ f3_; subst f4_; subst f5_))
   obtain ⟨Ao29, co29, eo29⟩ := Kd.R_slice HO258.out
   (first | subst eo29 | (injection eo29 with f1_ f2_ f3_; have f4_ := f1_.symm; have f5_ := f3_.symm; clear f1_ f2_ f3_; subst f4_; subst f5_))
   have hs30 : w'.cell? ⟨gb252, 0, none⟩ = some (.slice none 0 0) := bc_ BK252 0
   have hfs30 := blk_frozen BK252.out 0
   have hns30_0 := NB251_252.out
   have hms30_0 := NB252_251.out
   have hs31 : w'.cell? ⟨gb252, 1, none⟩ = some (.slice none 0 0) := bc_ BK252 1
   have hfs31 := blk_frozen BK252.out 1
   have hns31_0 := NB251_252.out
   have hms31_0 := NB252_251.out
   have hs32 : w'.cell? ⟨gb252, 2, none⟩ = some (.slice none 0 0) := bc_ BK252 2
   have hfs32 := blk_frozen BK252.out 2
   have hns32_0 := NB251_252.out
   have hms32_0 := NB252_251.out
   have hs33 : w'.cell? ⟨gb252, 3, none⟩ = some (.slice none 0 0) := bc_ BK252 3
   have hfs33 := blk_frozen BK252.out 3
   have hns33_0 := NB251_252.out
   have hms33_0 := NB252_251.out
   refine skip_ (w1 := ?_) (by rfl) rfl ?_ ?_
   rotate_left
   ·
    go_simp
    rfl
   refine hK.out _ _ ⟨v254, .slice Ao29 y256.length co29, v260, .slice Ao28 y262.length co28, v266, .slice Ao27 y268.length co27, v272, .slice Ao26 y274.length co26, m16_, (by rw [ha.out]; exact putSel_none (v := undef) rfl), (by (with_reducible repeat (first | apply blk_far (hp := NB251_252.out) | refine blk_drewN ?_ _ | refine blk_drew ?_ | refine blk_alloc ?_ _)); exact BK251.out), fun h0_ => absurd ((up_self b 17).symm.trans h0_) (by decide), z15_0, fun _ h1_ => absurd ((hon 3 z15_4).symm.trans h1_) (by decide), fun _ => (by (with_reducible repeat (first | apply Kd.R_alloc | apply Kd.R_drewN | apply Kd.R_drew)); apply Kd.R_mono; (with_reducible repeat (first | apply Kd.R_far | apply Kd.R_alloc | apply Kd.R_drewN | apply Kd.R_drew)); exact Kd.R_types HO258.out BK252.out (by decide); all_goals (intro _ hk; first | exact trivial | exact hk.2 | trivial)), fun _ h1_ => absurd ((hon 7 z15_4).symm.trans h1_) (by decide), fun _ => (by (with_reducible repeat (first | apply Kd.R_alloc | apply Kd.R_drewN | apply Kd.R_drew)); apply Kd.R_mono; (with_reducible repeat (first | apply Kd.R_far | apply Kd.R_alloc | apply Kd.R_drewN | apply Kd.R_drew)); exact Kd.R_types HO264.out BK252.out (by decide); all_goals (intro _ hk; first | exact trivial | exact hk.2 | trivial)), fun _ h1_ => absurd ((hon 11 z15_4).symm.trans h1_) (by decide), fun _ => (by (with_reducible repeat (first | apply Kd.R_alloc | apply Kd.R_drewN | apply Kd.R_drew)); apply Kd.R_mono; (with_reducible repeat (first | apply Kd.R_far | apply Kd.R_alloc | apply Kd.R_drewN | apply Kd.R_drew)); exact Kd.R_types HO270.out BK252.out (by decide); all_goals (intro _ hk; first | exact trivial | exact hk.2 | trivial)), fun _ h1_ => absurd ((hon 15 z15_4).symm.trans h1_) (by decide), fun _ => (by (with_reducible repeat (first | apply Kd.R_alloc | apply Kd.R_drewN | apply Kd.R_drew)); apply Kd.R_mono; (with_reducible repeat (first | apply Kd.R_far | apply Kd.R_alloc | apply Kd.R_drewN | apply Kd.R_drew)); exact Kd.R_types HO276.out BK252.out (by decide); all_goals (intro _ hk; first | exact trivial | exact hk.2 | trivial)), fun _ => (by (with_reducible repeat (first | apply bpa4 | refine blk_drewN ?_ _ | refine blk_drew ?_ | refine blk_alloc ?_ _)); exact BK252.out), Q_X16_⟩
  exact steps_nil
 rintro b a w29 hall ⟨v254, v257, v260, v263, v266, v269, v272, v275, m16_, ha, Q_BK251, Q_BK252, Q_HB, Q_HO255, Q_HO258, Q_HO261, Q_HO264, Q_HO267, Q_HO270, Q_HO273, Q_HO276, Q_BK252_e17, Q_X16_⟩
 clear BK251 BK252 HB
 have hb0_ := hall 0 z15_4
 have hb2_ := hall 2 z15_4
 have hb3_ := hall 3 z15_4
 have hb4_ := hall 4 z15_4
 have hb6_ := hall 6 z15_4
 have hb7_ := hall 7 z15_4
 have hb8_ := hall 8 z15_4
 have hb10_ := hall 10 z15_4
 have hb11_ := hall 11 z15_4
 have hb12_ := hall 12 z15_4
 have hb14_ := hall 14 z15_4
 have hb15_ := hall 15 z15_4
 have hb16_ := hall 16 z15_4
 have hb17_ := hall 17 z15_4
 subst ha
 obtain rfl := Q_X16_ hb16_
 simp only [putSel, hb0_, hb2_, hb3_, hb4_, hb6_, hb7_, hb8_, hb10_, hb11_, hb12_, hb14_, hb15_, hb16_, hb17_, if_true, Act.put, List.setIfInBounds_toArray, List.set_cons_zero, List.set_cons_succ]
 have BK251 := Aside0.mk Q_BK251
 clear Q_BK251
 clear Q_BK252
 have HB := Aside0.mk Q_HB
 clear Q_HB
 clear Q_HO255
 have HO258 := Aside0.mk (Q_HO258 hb3_)
 clear Q_HO258
 clear Q_HO261
 have HO264 := Aside0.mk (Q_HO264 hb7_)
 clear Q_HO264
 clear Q_HO267
 have HO270 := Aside0.mk (Q_HO270 hb11_)
 clear Q_HO270
 clear Q_HO273
 have HO276 := Aside0.mk (Q_HO276 hb15_)
 clear Q_HO276
 have BK252 := Aside0.mk (Q_BK252_e17 hb17_)
 clear Q_BK252_e17
 clear hall hb0_ hb2_ hb3_ hb4_ hb6_ hb7_ hb8_ hb10_ hb11_ hb12_ hb14_ hb15_ hb16_ hb17_
 obtain ⟨Ao30, co30, eo30⟩ := Kd.R_slice HO276.out
 (first | subst eo30 | (injection eo30 with f1_ f2_ f3_; have f4_ := f1_.symm; have f5_ := f3_.symm; clear f1_ f2_ f3_; subst f4_; subst f5_))
 obtain ⟨Ao31, co31, eo31⟩ := Kd.R_slice HO270.out
 (first | subst eo31 | (injection eo31 with f1_ f2_ f3_; have f4_ := f1_.symm; have f5_ := f3_.symm; clear f1_ f2_ f3_; subst f4_; subst f5_))
 obtain ⟨Ao32, co32, eo32⟩ := Kd.R_slice HO264.out
 (first | subst eo32 | (injection eo32 with f1_ f2_ f3_; have f4_ := f1_.symm; have f5_ := f3_.symm; clear f1_ f2_ f3_; subst f4_; subst f5_))
 obtain ⟨Ao33, co33, eo33⟩ := Kd.R_slice HO258.out
 (first | subst eo33 | (injection eo33 with f1_ f2_ f3_; have f4_ := f1_.symm; have f5_ := f3_.symm; clear f1_ f2_ f3_; subst f4_; subst f5_))
 try go_wp2
 refine bodyPost_ret (results_cell_row rfl _ _ gb252 36 #[.slice Ao33 y256.length co33, .slice Ao32 y262.length co32, .slice Ao31 y268.length co31, .slice Ao30 y274.length co30] (0, 0) _ rfl z15_2 Try.underlying36 rfl z15_4) rfl ?_
 exact ⟨_, _, _, _, by first | rfl | (simp [errW_none, errW_some] <;> rfl) | (simp [*, errW_none, errW_some] <;> rfl), z15_7, z15_13, z15_18, by (with_reducible repeat (first | apply Kd.R_alloc | apply Kd.R_drewN | apply Kd.R_drew)); exact HO276.out, z15_0⟩
def spec_l05Keyed.f (a0 : Int) : Option (Bool) := (spec_l01In.f a0 2 5).bind fun t277 => (some t277)
set_option maxHeartbeats 8000000 in
set_option maxRecDepth 100000 in
theorem spec_l05Keyed.calls (a0 : Int) (r : Bool) (w : World) (h : spec_l05Keyed.f a0 = some r) :
  Calls Try.prog 125 #[.int .i64 a0] w fun e w' => e = .returned (.bool r) ∧ Drawn0 w w' := by
 have H := h
 unfold spec_l05Keyed.f at H
 clear h
 replace H := Option.bind_eq_some_iff.mp H
 obtain ⟨t277, A20, H⟩ := H
 (try dsimp only at H)
 have A2 := Aside0.mk A20
 clear A20
 obtain rfl := Option.some.inj H
 go_enter Try.func125, Try.ntmps125
 go_wp2_with (first | ((with_reducible refine gate_callee (f := 102) rfl ?_); refine goesL_ (some 4) rfl rfl Try.func102 z15_4 rfl #[.int .i64 a0, .int .i64 2, .int .i64 5] rfl (by first | rfl | (simp only [List.map_toArray, List.map_cons, List.map_nil]; first | done | rfl)) ?_; (with_reducible refine (spec_l01In.calls a0 2 5 t277 _ A2.out).mono ?_); rintro e w' ⟨rfl, ⟨nd, rfl⟩⟩; refine ⟨_, rfl, ?_⟩))
 go_ret
 exact ⟨z15_21, z15_20⟩
def spec_l05Valued.f (a0 : Int) : Option (Bool) := if a0 = 1 then (some true) else (if a0 = 4 then (some true) else (some (a0 == 6)))
set_option maxHeartbeats 8000000 in
set_option maxRecDepth 100000 in
theorem spec_l05Valued.calls (a0 : Int) (r : Bool) (w : World) (h : spec_l05Valued.f a0 = some r) :
  Calls Try.prog 126 #[.int .i64 a0] w fun e w' => e = .returned (.bool r) ∧ Drawn0 w w' := by
 have H : (if a0 = 1 then (some true) else (if a0 = 4 then (some true) else (some (a0 == 6)))) = some r := h
 clear h
 by_cases c2 : a0 = 1
 ·
  rw [if_pos c2] at H
  have c2b0 : (a0 == 1) = true := beq_iff_eq.mpr c2
  have c2b1 : (a0 != 1) = false := bne_eq_false_iff_eq.mpr c2
  clear c2
  obtain rfl := Option.some.inj H
  go_enter Try.func126, Try.ntmps126
  go_wp2
  go_ret
  exact ⟨z15_21, z15_20⟩
 rw [if_neg c2] at H
 have c2b0 : (a0 == 1) = false := beq_eq_false_iff_ne.mpr c2
 have c2b1 : (a0 != 1) = true := bne_iff_ne.mpr c2
 by_cases c3 : a0 = 4
 rotate_left
 ·
  rw [if_neg c3] at H
  have c3b0 : (a0 == 4) = false := beq_eq_false_iff_ne.mpr c3
  have c3b1 : (a0 != 4) = true := bne_iff_ne.mpr c3
  obtain rfl := Option.some.inj H
  go_enter Try.func126, Try.ntmps126
  go_wp2
  go_ret
  exact ⟨z15_21, z15_20⟩
 rw [if_pos c3] at H
 have c3b0 : (a0 == 4) = true := beq_iff_eq.mpr c3
 have c3b1 : (a0 != 4) = false := bne_eq_false_iff_eq.mpr c3
 clear c3
 obtain rfl := Option.some.inj H
 go_enter Try.func126, Try.ntmps126
 go_wp2
 go_ret
 exact ⟨z15_21, z15_20⟩
end Go.Proofs.Ytbanogkoaplcdaa.QSe
