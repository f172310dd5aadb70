/- Parts of the proof of FnExactDoAct, one behind the other. No condition. -/
import Derived.Test.YtbanogkoaplcdaaVFnExactDoActM8
namespace Go.Proofs.Ytbanogkoaplcdaa.QDo
open Go.RowKit Go.Proofs.Ytbanogkoaplcdaa.Short Go.Proofs.YtbanogkoaplcdaaW.PrintWords Go.Proofs.YtbanogkoaplcdaaW.PrintLast Go.Proofs.YtbanogkoaplcdaaW.PrintMore
attribute [local go_sem] max2_int min2_int max_two min_two max_three min_three max_four min_four   -- for this text's walks alone
set_option linter.unusedVariables false
set_option linter.unusedSimpArgs false
theorem z12_22 {P : Prop} (h : P := by intro w'; go_simp; with_reducible rfl) : P := h
theorem z12_21 {P : Prop} (h : P := by first | rfl | (simp; done) | (simp [*]; done)) : P := h
theorem z12_20 {P : Prop} (h : P := by repeat (first | exact Drawn0.refl _ | apply Drawn0.step)) : P := h
theorem z12_19 {P : Prop} (h : P := by repeat (first | (with_reducible first | exact HB.out | apply below_alloc | apply pw_below_drewN | apply below_drew1) | exact HB.out)) : P := h
theorem z12_18 {P : Prop} (h : P := by (with_reducible repeat (first | apply Kd.R_alloc | apply Kd.R_drewN | apply Kd.R_drew)); exact HO291.out) : P := h
theorem z12_17 {P : Prop} (h : P := by simp only [Act.put, List.setIfInBounds_toArray, List.set_cons_zero, List.set_cons_succ, i64_w, i32_w]; rfl) : P := h
theorem z12_16 {P : Prop} (h : P := by (with_reducible repeat (first | apply Kd.R_alloc | apply Kd.R_drewN | apply Kd.R_drew)); exact (Q_HO285 h0_)) : P := h
theorem z12_15 {P : Prop} (h : P := by repeat (first | (with_reducible first | exact HB.out | apply below_alloc | apply pw_below_drewN | apply below_drew1 | refine below_set ?_ GE272.out) | exact HB.out)) : P := h
theorem z12_14 {P : Prop} (h : P := by (with_reducible repeat (first | apply Kd.R_alloc | apply Kd.R_drewN | apply Kd.R_drew)); exact HO294.out) : P := h
theorem z12_13 {P : Prop} (h : P := by (with_reducible repeat (first | apply Kd.R_alloc | apply Kd.R_drewN | apply Kd.R_drew)); exact HO285.out) : P := h
theorem z12_12 {P : Prop} (h : P := by (with_reducible repeat (first | apply Kd.R_alloc | apply Kd.R_drewN | apply Kd.R_drew)); exact HO288.out) : P := h
theorem z12_11 {P : Prop} (h : P := by (with_reducible repeat (first | apply Kd.R_alloc | apply Kd.R_drewN | apply Kd.R_drew)); exact (Q_HO279 h0_)) : P := h
theorem z12_10 {P : Prop} (h : P := by (with_reducible repeat (first | apply Kd.R_alloc | apply Kd.R_drewN | apply Kd.R_drew)); exact (Q_HO276 h0_ h1_)) : P := h
theorem z12_9 {P : Prop} (h : P := by (with_reducible repeat (first | apply Kd.R_alloc | apply Kd.R_drewN | apply Kd.R_drew)); exact HO282.out) : P := h
theorem z12_8 {P : Prop} (h : P := by (with_reducible repeat (first | apply Kd.R_alloc | apply Kd.R_drewN | apply Kd.R_drew)); exact HO276.out) : P := h
theorem z12_7 {P : Prop} (h : P := by (with_reducible repeat (first | apply Kd.R_alloc | apply Kd.R_drewN | apply Kd.R_drew)); exact HO279.out) : P := h
theorem z12_6 {P : Prop} (h : P := by (with_reducible repeat (first | apply Kd.R_alloc | apply Kd.R_drewN | apply Kd.R_drew)); exact (Q_HO282 h0_ h1_)) : P := h
theorem z12_5 {P : Prop} (h : P := by (with_reducible repeat (first | apply Kd.R_alloc | apply Kd.R_drewN | apply Kd.R_drew)); exact (Q_HO288 h0_ h1_)) : P := h
theorem z12_4 {P : Prop} (h : P := by kernel_rfl) : P := h
theorem z12_3 {P : Prop} (h : P := by (with_reducible repeat (first | apply Kd.R_alloc | apply Kd.R_drewN | apply Kd.R_drew)); exact (Q_HO294 h0_ h1_)) : P := h
theorem z12_2 {P : Prop} (h : P := by (with_reducible repeat (first | refine blk_drewN ?_ _ | refine blk_drew ?_ | refine blk_alloc ?_ _)); exact BK273.out) : P := h
theorem z12_1 {P : Prop} (h : P := by (with_reducible repeat (first | refine blk_drewN ?_ _ | refine blk_drew ?_ | refine blk_alloc ?_ _)); exact BK272.out) : P := h
theorem z12_0 {P : Prop} (h : P := by repeat (first | (with_reducible first | exact HB.out | apply below_alloc | apply pw_below_drewN | apply below_drew1 | refine below_set ?_ GE272.out | refine below_set ?_ GE273.out) | exact HB.out)) : P := h
abbrev mk12_0 : Array Bool := mb 18 0
abbrev mk12_1 : Array Bool := mb 18 2
abbrev mk12_2 : Array Bool := mb 18 34
abbrev mk12_3 : Array Bool := mb 18 546
abbrev mk12_4 : Array Bool := mb 18 8738
def spec_l06Copy.f (l0_0 : List Int) (l0_1 : List (S84)) (l0_2 : List (S86)) (l0_3 : List (S73)) : Option (List Int × (List (S84)) × (List (S86)) × (List (S73))) := (some (([] : List Int) : List Int)).bind fun y274 => (if y274.length + l0_0.length < 17592186044416 then ((some (([] : List (S84)) : List (S84))).bind fun y280 => (if y280.length + l0_1.length < 4398046511104 then ((some (([] : List (S86)) : List (S86))).bind fun y286 => (if y286.length + l0_2.length < 2199023255552 then ((some (([] : List (S73)) : List (S73))).bind fun y292 => (if y292.length + l0_3.length < 1954687338268 then (some ((y274 ++ l0_0), (y280 ++ l0_1), (y286 ++ l0_2), (y292 ++ l0_3))) else (none))) else (none))) else (none))) else (none))
def spec_l06Copy.T1 : Bool × List (List Nat × List Nat) := (true, [([], []), ([], []), ([1], [1]), ([0, 2], [0, 2]), ([], []), ([], []), ([5], [5]), ([4, 6, 3], [4, 6]), ([], []), ([], []), ([9], [9]), ([8, 10, 7], [8, 10]), ([], []), ([], []), ([13], [13]), ([12, 14, 11], [12, 14]), ([3, 7, 11, 15], [3, 7, 11, 15]), ([16, 15, 0, 1, 2, 3, 4, 5, 6, 7, 8, 9, 10, 11, 12, 13, 14, 15, 16], [16])])
def spec_l06Copy.B1 : List Nat := [0, 0, 2, 7, 0, 0, 32, 127, 0, 0, 512, 2047, 0, 0, 8192, 32767, 65535, 131071]
theorem spec_l06Copy.tab1 : rtab .any (opsOf Try.f66 1) = spec_l06Copy.T1 := by kernel_rfl
theorem spec_l06Copy.bits1 : waitsOk spec_l06Copy.T1.2 spec_l06Copy.B1 = true := by kernel_rfl
set_option maxHeartbeats 8000000 in
set_option maxRecDepth 100000 in
theorem spec_l06Copy.calls (A0_0 : Option Addr) (c0_0 : Nat) (l0_0 : List Int) (A0_1 : Option Addr) (c0_1 : Nat) (l0_1 : List (S84)) (A0_2 : Option Addr) (c0_2 : Nat) (l0_2 : List (S86)) (A0_3 : Option Addr) (c0_3 : Nat) (l0_3 : List (S73)) (r1 : List Int) (r2 : List (S84)) (r3 : List (S86)) (r4 : List (S73)) (w : World) (hr0_0 : Kd.C (Kd.int .i64) w A0_0 l0_0.length l0_0) (hc0_0 : l0_0.length ≤ c0_0) (hr0_1 : Kd.C k84 w A0_1 l0_1.length l0_1) (hc0_1 : l0_1.length ≤ c0_1) (hr0_2 : Kd.C k86 w A0_2 l0_2.length l0_2) (hc0_2 : l0_2.length ≤ c0_2) (hr0_3 : Kd.C k73 w A0_3 l0_3.length l0_3) (hc0_3 : l0_3.length ≤ c0_3) (h : spec_l06Copy.f l0_0 l0_1 l0_2 l0_3 = some (r1, r2, r3, r4)) :
  Calls Try.prog 66 #[.agg #[.slice A0_0 l0_0.length c0_0, .slice A0_1 l0_1.length c0_1, .slice A0_2 l0_2.length c0_2, .slice A0_3 l0_3.length c0_3]] w fun e w' => ∃ v0_ v1_ v2_ v3_ : Value, e = .returned (.agg #[v0_, v1_, v2_, v3_]) ∧ Kd.R (Kd.int .i64) 3 w' w.heap.size (fun _ => True) v0_ r1 ∧ Kd.R k84 84 w' w.heap.size (fun _ => True) v1_ r2 ∧ Kd.R k86 86 w' w.heap.size (fun _ => True) v2_ r3 ∧ Kd.R k73 73 w' w.heap.size (fun _ => True) v3_ r4 ∧ Below w.heap.size w w' := by
 have hu36 := Try.underlying36
 have HR0_0 := Aside0.mk hr0_0
 have HC0_0 := Aside0.mk hc0_0
 clear hr0_0 hc0_0
 have HR0_1 := Aside0.mk hr0_1
 have HC0_1 := Aside0.mk hc0_1
 clear hr0_1 hc0_1
 have HR0_2 := Aside0.mk hr0_2
 have HC0_2 := Aside0.mk hc0_2
 clear hr0_2 hc0_2
 have HR0_3 := Aside0.mk hr0_3
 have HC0_3 := Aside0.mk hc0_3
 clear hr0_3 hc0_3
 have HB := Aside0.mk (Below.refl w.heap.size w)
 have H : ((some (([] : List Int) : List Int)).bind fun y274 => (if y274.length + l0_0.length < 17592186044416 then ((some (([] : List (S84)) : List (S84))).bind fun y280 => (if y280.length + l0_1.length < 4398046511104 then ((some (([] : List (S86)) : List (S86))).bind fun y286 => (if y286.length + l0_2.length < 2199023255552 then ((some (([] : List (S73)) : List (S73))).bind fun y292 => (if y292.length + l0_3.length < 1954687338268 then (some ((y274 ++ l0_0), (y280 ++ l0_1), (y286 ++ l0_2), (y292 ++ l0_3))) else (none))) else (none))) else (none))) else (none))) = some (r1, r2, r3, r4) := h
 clear h
 obtain ⟨y274, hy274⟩ : ∃ y_ : List Int, y_ = (([] : List Int)) := ⟨_, rfl⟩
 replace H : (if y274.length + l0_0.length < 17592186044416 then ((some (([] : List (S84)) : List (S84))).bind fun y280 => (if y280.length + l0_1.length < 4398046511104 then ((some (([] : List (S86)) : List (S86))).bind fun y286 => (if y286.length + l0_2.length < 2199023255552 then ((some (([] : List (S73)) : List (S73))).bind fun y292 => (if y292.length + l0_3.length < 1954687338268 then (some ((y274 ++ l0_0), (y280 ++ l0_1), (y286 ++ l0_2), (y292 ++ l0_3))) else (none))) else (none))) else (none))) else (none)) = some (r1, r2, r3, r4) := by first | (rw [hy274]; with_reducible exact H) | (have H2_ := (Option.bind_some _ _).symm.trans H; rw [hy274]; with_reducible exact H2_) | (have H2_ := (Option.bind_some _ _).symm.trans H; with_reducible exact H2_) | with_reducible exact H | (rw [hy274]; exact H) | exact H
 have Ny274 := Aside0.mk hy274
 clear hy274
 by_cases c2 : y274.length + l0_0.length < 17592186044416
 rotate_left
 ·
  rw [if_neg c2] at H
  exact absurd H (by simp)
 rw [if_pos c2] at H
 have LMc2 := Aside0.mk c2
 clear c2
 obtain ⟨y277, hy277⟩ : ∃ y_ : List Int, y_ = (y274 ++ l0_0) := ⟨_, rfl⟩
 replace H : ((some (([] : List (S84)) : List (S84))).bind fun y280 => (if y280.length + l0_1.length < 4398046511104 then ((some (([] : List (S86)) : List (S86))).bind fun y286 => (if y286.length + l0_2.length < 2199023255552 then ((some (([] : List (S73)) : List (S73))).bind fun y292 => (if y292.length + l0_3.length < 1954687338268 then (some (y277, (y280 ++ l0_1), (y286 ++ l0_2), (y292 ++ l0_3))) else (none))) else (none))) else (none))) = some (r1, r2, r3, r4) := by first | (rw [hy277]; with_reducible exact H) | (have H2_ := (Option.bind_some _ _).symm.trans H; rw [hy277]; with_reducible exact H2_) | (have H2_ := (Option.bind_some _ _).symm.trans H; with_reducible exact H2_) | with_reducible exact H | (rw [hy277]; exact H) | exact H
 have Ny277 := Aside0.mk hy277
 clear hy277
 obtain ⟨y280, hy280⟩ : ∃ y_ : List (S84), y_ = (([] : List (S84))) := ⟨_, rfl⟩
 replace H : (if y280.length + l0_1.length < 4398046511104 then ((some (([] : List (S86)) : List (S86))).bind fun y286 => (if y286.length + l0_2.length < 2199023255552 then ((some (([] : List (S73)) : List (S73))).bind fun y292 => (if y292.length + l0_3.length < 1954687338268 then (some (y277, (y280 ++ l0_1), (y286 ++ l0_2), (y292 ++ l0_3))) else (none))) else (none))) else (none)) = some (r1, r2, r3, r4) := by first | (rw [hy280]; with_reducible exact H) | (have H2_ := (Option.bind_some _ _).symm.trans H; rw [hy280]; with_reducible exact H2_) | (have H2_ := (Option.bind_some _ _).symm.trans H; with_reducible exact H2_) | with_reducible exact H | (rw [hy280]; exact H) | exact H
 have Ny280 := Aside0.mk hy280
 clear hy280
 by_cases c3 : y280.length + l0_1.length < 4398046511104
 rotate_left
 ·
  rw [if_neg c3] at H
  exact absurd H (by simp)
 rw [if_pos c3] at H
 have LMc3 := Aside0.mk c3
 clear c3
 obtain ⟨y283, hy283⟩ : ∃ y_ : List (S84), y_ = (y280 ++ l0_1) := ⟨_, rfl⟩
 replace H : ((some (([] : List (S86)) : List (S86))).bind fun y286 => (if y286.length + l0_2.length < 2199023255552 then ((some (([] : List (S73)) : List (S73))).bind fun y292 => (if y292.length + l0_3.length < 1954687338268 then (some (y277, y283, (y286 ++ l0_2), (y292 ++ l0_3))) else (none))) else (none))) = some (r1, r2, r3, r4) := by first | (rw [hy283]; with_reducible exact H) | (have H2_ := (Option.bind_some _ _).symm.trans H; rw [hy283]; with_reducible exact H2_) | (have H2_ := (Option.bind_some _ _).symm.trans H; with_reducible exact H2_) | with_reducible exact H | (rw [hy283]; exact H) | exact H
 have Ny283 := Aside0.mk hy283
 clear hy283
 obtain ⟨y286, hy286⟩ : ∃ y_ : List (S86), y_ = (([] : List (S86))) := ⟨_, rfl⟩
 replace H : (if y286.length + l0_2.length < 2199023255552 then ((some (([] : List (S73)) : List (S73))).bind fun y292 => (if y292.length + l0_3.length < 1954687338268 then (some (y277, y283, (y286 ++ l0_2), (y292 ++ l0_3))) else (none))) else (none)) = some (r1, r2, r3, r4) := by first | (rw [hy286]; with_reducible exact H) | (have H2_ := (Option.bind_some _ _).symm.trans H; rw [hy286]; with_reducible exact H2_) | (have H2_ := (Option.bind_some _ _).symm.trans H; with_reducible exact H2_) | with_reducible exact H | (rw [hy286]; exact H) | exact H
 have Ny286 := Aside0.mk hy286
 clear hy286
 by_cases c4 : y286.length + l0_2.length < 2199023255552
 rotate_left
 ·
  rw [if_neg c4] at H
  exact absurd H (by simp)
 rw [if_pos c4] at H
 have LMc4 := Aside0.mk c4
 clear c4
 obtain ⟨y289, hy289⟩ : ∃ y_ : List (S86), y_ = (y286 ++ l0_2) := ⟨_, rfl⟩
 replace H : ((some (([] : List (S73)) : List (S73))).bind fun y292 => (if y292.length + l0_3.length < 1954687338268 then (some (y277, y283, y289, (y292 ++ l0_3))) else (none))) = some (r1, r2, r3, r4) := by first | (rw [hy289]; with_reducible exact H) | (have H2_ := (Option.bind_some _ _).symm.trans H; rw [hy289]; with_reducible exact H2_) | (have H2_ := (Option.bind_some _ _).symm.trans H; with_reducible exact H2_) | with_reducible exact H | (rw [hy289]; exact H) | exact H
 have Ny289 := Aside0.mk hy289
 clear hy289
 obtain ⟨y292, hy292⟩ : ∃ y_ : List (S73), y_ = (([] : List (S73))) := ⟨_, rfl⟩
 replace H : (if y292.length + l0_3.length < 1954687338268 then (some (y277, y283, y289, (y292 ++ l0_3))) else (none)) = some (r1, r2, r3, r4) := by first | (rw [hy292]; with_reducible exact H) | (have H2_ := (Option.bind_some _ _).symm.trans H; rw [hy292]; with_reducible exact H2_) | (have H2_ := (Option.bind_some _ _).symm.trans H; with_reducible exact H2_) | with_reducible exact H | (rw [hy292]; exact H) | exact H
 have Ny292 := Aside0.mk hy292
 clear hy292
 by_cases c5 : y292.length + l0_3.length < 1954687338268
 rotate_left
 ·
  rw [if_neg c5] at H
  exact absurd H (by simp)
 rw [if_pos c5] at H
 have LMc5 := Aside0.mk c5
 clear c5
 obtain ⟨y295, hy295⟩ : ∃ y_ : List (S73), y_ = (y292 ++ l0_3) := ⟨_, rfl⟩
 replace H : (some (y277, y283, y289, y295)) = some (r1, r2, r3, r4) := by first | (rw [hy295]; with_reducible exact H) | (have H2_ := (Option.bind_some _ _).symm.trans H; rw [hy295]; with_reducible exact H2_) | (have H2_ := (Option.bind_some _ _).symm.trans H; with_reducible exact H2_) | with_reducible exact H | (rw [hy295]; exact H) | exact H
 have Ny295 := Aside0.mk hy295
 clear hy295
 simp only [Option.some.injEq, Prod.mk.injEq] at H
 obtain ⟨rfl, rfl, rfl, rfl⟩ := H
 go_enter Try.func66, Try.ntmps66
 try go_wp2_with (first | ((with_reducible refine gate_dst (N := 1) rfl ?_); refine box_event ?hg (N := 1) ?hd (cs := #[.slice A0_0 l0_0.length c0_0, .slice A0_1 l0_1.length c0_1, .slice A0_2 l0_2.length c0_2, .slice A0_3 l0_3.length c0_3]) (t := 36) ?hr ?_; (case hd => rfl); (case hg => rfl); (case hr => first | (go_simp; done) | (go_simp; rfl)); intro gb272 hg w6 hbox hb; have BK272 := Aside0.mk (hbox); have GW272 := gw_ w z12_19 hg; have GE272 := gw_ w z12_19 hg; replace HB := Aside0.mk (below_step z12_19 hb); clear hb hbox hg) | ((with_reducible refine gate_dst (N := 2) rfl ?_); refine box_event ?hg (N := 2) ?hd (cs := #[.slice none 0 0, .slice none 0 0, .slice none 0 0, .slice none 0 0]) (t := 36) ?hr ?_; (case hd => rfl); (case hg => rfl); (case hr => first | (go_simp; done) | (go_simp; rfl)); intro gb273 hg w7 hbox hb; have BK273 := Aside0.mk (hbox); have GW273 := gw_ w z12_15 hg; have GE273 := gw_ w z12_15 hg; replace HB := Aside0.mk (below_step z12_15 hb); have NB272_273 := nb_ BK272 z12_1 hg; have NB273_272 := nc_ BK272 z12_1 hg; replace BK272 := bb_ BK272 z12_1 hb; clear hb hbox hg))
 replace BK272 := Aside0.mk (blk_drew BK272.out)
 replace BK273 := Aside0.mk (blk_drew BK273.out)
 replace HB := Aside0.mk (below_drew1 HB.out)
 refine start_ (n := 18) (S := fun w' => True) (ds := []) mk12_0 z12_4 rfl rfl trivial (fun hHeld => ?_); refine with_tabW spec_l06Copy.tab1 spec_l06Copy.bits1 (fun HT_ HW_ => ?_)
 generalize w7.drew = w8 at BK272 BK273 HB hHeld ⊢
 refine p_ (i := 1) (N := some 4) mk12_1 ?_ (hv := z12_22) (ha := z12_17)
 refine p_ (i := 5) (N := some 8) mk12_2 ?_ (hv := z12_22) (ha := z12_17)
 refine p_ (i := 9) (N := some 12) mk12_3 ?_ (hv := z12_22) (ha := z12_17)
 refine p_ (i := 13) (N := some 16) mk12_4 ?_ (hv := z12_22) (ha := z12_17)
 refine inv_at [0, 2, 3, 4, 6, 7, 8, 10, 11, 12, 14, 15, 16, 17] (fun a0_ b a w' => ∃ (v275 : Value) (v278 : Value) (v281 : Value) (v284 : Value) (v287 : Value) (v290 : Value) (v293 : Value) (v296 : Value) (m16_ : Value), a = putSel a0_ b [(0, 3, v275), (2, 5, .slice A0_0 l0_0.length c0_0), (3, 6, v278), (4, 7, v281), (6, 9, .slice A0_1 l0_1.length c0_1), (7, 10, v284), (8, 11, v287), (10, 13, .slice A0_2 l0_2.length c0_2), (11, 14, v290), (12, 15, v293), (14, 17, .slice A0_3 l0_3.length c0_3), (15, 18, v296), (16, 19, m16_)] ∧ (w'.heap[gb272]? = some (.cells #[.slice A0_0 l0_0.length c0_0, .slice A0_1 l0_1.length c0_1, .slice A0_2 l0_2.length c0_2, .slice A0_3 l0_3.length c0_3] 36 (0, 0))) ∧ (b 17 = false → w'.heap[gb273]? = some (.cells #[.slice none 0 0, .slice none 0 0, .slice none 0 0, .slice none 0 0] 36 (0, 0))) ∧ (Below w.heap.size w w') ∧ (b 0 = true → b 3 = false → Kd.R (Kd.int .i64) 3 w' w.heap.size (fun _ => True) v275 y274) ∧ (b 3 = true → Kd.R (Kd.int .i64) 3 w' w.heap.size (fun _ => True) v278 y277) ∧ (b 4 = true → b 7 = false → Kd.R k84 84 w' w.heap.size (fun _ => True) v281 y280) ∧ (b 7 = true → Kd.R k84 84 w' w.heap.size (fun _ => True) v284 y283) ∧ (b 8 = true → b 11 = false → Kd.R k86 86 w' w.heap.size (fun _ => True) v287 y286) ∧ (b 11 = true → Kd.R k86 86 w' w.heap.size (fun _ => True) v290 y289) ∧ (b 12 = true → b 15 = false → Kd.R k73 73 w' w.heap.size (fun _ => True) v293 y292) ∧ (b 15 = true → Kd.R k73 73 w' w.heap.size (fun _ => True) v296 y295) ∧ (b 17 = true → w'.heap[gb273]? = some (.cells #[v278, v284, v290, v296] 36 (0, 0))) ∧ (b 16 = true → (m16_ : Value) = .agg #[v278, v284, v290, v296])) HT_.out HW_.out z12_4 z12_4 ?_ ?_ ?_
 ·
  exact ⟨.bool false, .bool false, .bool false, .bool false, .bool false, .bool false, .bool false, .bool false, .bool false, by simp only [putSel, Bool.false_eq_true, if_false], BK272.out, fun _ => BK273.out, HB.out, fun h_ => absurd h_ (by decide), fun h_ => absurd h_ (by decide), fun h_ => absurd h_ (by decide), fun h_ => absurd h_ (by decide), fun h_ => absurd h_ (by decide), fun h_ => absurd h_ (by decide), fun h_ => absurd h_ (by decide), fun h_ => absurd h_ (by decide), fun h_ => absurd h_ (by decide), fun h_ => absurd h_ (by decide)⟩
 ·
  skip
  clear BK272 BK273 HB
  refine steps_cons ?_ ?_
  ·
   rintro b a w' ⟨v275, v278, v281, v284, v287, v290, v293, v296, m16_, ha, Q_BK272, Q_BK273, Q_HB, Q_HO276, Q_HO279, Q_HO282, Q_HO285, Q_HO288, Q_HO291, Q_HO294, Q_HO297, Q_BK273_e17, Q_X16_⟩ hb_ hon hoff
   refine ⟨_, rfl, fun K hK => ?_⟩
   replace ha := Aside0.mk ha
   have BK272 := Aside0.mk Q_BK272
   have BK273 := Aside0.mk (Q_BK273 (hoff 17 z12_4))
   have HB := Aside0.mk Q_HB
   refine Kd.R_lit_step (Kd.int .i64) _ 3 ?hg (N := 3) ?hd (xs := ([] : List Int)) (inner := []) (ok := fun _ => True) (okp := fun _ => True) ?hr ?hp (fun _ hk => hk) trivial (Below.refl _ _) (Nat.le_refl _) (by simp) ?_; (case hd => rfl); (case hg => rfl); (case hr => first | (go_simp; done) | (go_simp; rfl)); (case hp => exact (Reps.none _ _))
   intro v275 w9 ho10 hb hg_ hnew_
   clear hg_ hnew_
   (first | rw [← Ny274.out] at ho10 | (simp only [Int.reduceToNat] at ho10; rw [← Ny274.out] at ho10))
   have n0_ := Aside0.mk (Kd.R_lower ho10 (below_size z12_0))
   have n1_ := Aside0.mk (blk_below (g := gb272) (o := .cells #[.slice A0_0 l0_0.length c0_0, .slice A0_1 l0_1.length c0_1, .slice A0_2 l0_2.length c0_2, .slice A0_3 l0_3.length c0_3] 36 (0, 0)) z12_1 hb)
   have n2_ := Aside0.mk (blk_below (g := gb273) (o := .cells #[.slice none 0 0, .slice none 0 0, .slice none 0 0, .slice none 0 0] 36 (0, 0)) z12_2 hb)
   have n3_ := Aside0.mk (below_step z12_0 hb)
   have z_HO282 := fun (h0_ : b 4 = true) (h1_ : b 7 = false) => (show Kd.R k84 84 w9 w.heap.size (fun _ => True) v281 y280 from by first | exact (Kd.R_below z12_6 hb) | exact Kd.R_mono (Kd.R_below z12_6 hb) (fun _ h_ => by first | trivial | exact h_ | exact h_.1))
   have z_HO288 := fun (h0_ : b 8 = true) (h1_ : b 11 = false) => (show Kd.R k86 86 w9 w.heap.size (fun _ => True) v287 y286 from by first | exact (Kd.R_below z12_5 hb) | exact Kd.R_mono (Kd.R_below z12_5 hb) (fun _ h_ => by first | trivial | exact h_ | exact h_.1))
   have z_HO294 := fun (h0_ : b 12 = true) (h1_ : b 15 = false) => (show Kd.R k73 73 w9 w.heap.size (fun _ => True) v293 y292 from by first | exact (Kd.R_below z12_3 hb) | exact Kd.R_mono (Kd.R_below z12_3 hb) (fun _ h_ => by first | trivial | exact h_ | exact h_.1))
   clear BK272
   clear BK273
   clear HB
   have HO276 := n0_
   have BK272 := n1_
   have BK273 := n2_
   have HB := n3_
   clear n0_ n1_ n2_ n3_
   clear hb ho10
   refine hK.out _ _ ⟨v275, v278, v281, v284, v287, v290, v293, v296, m16_, (by rw [ha.out]; exact putSel_upk 0 hb_ rfl rfl rfl), z12_1, fun _ => z12_2, z12_0, fun _ _ => z12_8, fun h0_ => absurd ((hoff 3 z12_4).symm.trans h0_) (by decide), z_HO282, fun h0_ => absurd ((hoff 7 z12_4).symm.trans h0_) (by decide), z_HO288, fun h0_ => absurd ((hoff 11 z12_4).symm.trans h0_) (by decide), z_HO294, fun h0_ => absurd ((hoff 15 z12_4).symm.trans h0_) (by decide), fun h0_ => absurd ((hoff 17 z12_4).symm.trans h0_) (by decide), fun h0_ => absurd ((hoff 16 z12_4).symm.trans h0_) (by decide)⟩
  refine steps_cons ?_ ?_
  ·
   rintro b a w' ⟨v275, v278, v281, v284, v287, v290, v293, v296, m16_, ha, Q_BK272, Q_BK273, Q_HB, Q_HO276, Q_HO279, Q_HO282, Q_HO285, Q_HO288, Q_HO291, Q_HO294, Q_HO297, Q_BK273_e17, Q_X16_⟩ hb_ hon hoff
   refine ⟨_, rfl, fun K hK => ?_⟩
   have e4 : a.tmps[4]? = some (.pointer (some ⟨gb272, 0, none⟩)) := by rw [ha]; exact (putSel_off rfl).trans rfl
   replace ha := Aside0.mk ha
   have BK272 := Aside0.mk Q_BK272
   have BK273 := Aside0.mk (Q_BK273 (hoff 17 z12_4))
   have HB := Aside0.mk Q_HB
   have hc0_ : w'.cell? ⟨gb272, 0, none⟩ = some (.slice A0_0 l0_0.length c0_0) := bc_ BK272 0
   have hc1_ : w'.cell? ⟨gb272, 1, none⟩ = some (.slice A0_1 l0_1.length c0_1) := bc_ BK272 1
   have hc2_ : w'.cell? ⟨gb272, 2, none⟩ = some (.slice A0_2 l0_2.length c0_2) := bc_ BK272 2
   have hc3_ : w'.cell? ⟨gb272, 3, none⟩ = some (.slice A0_3 l0_3.length c0_3) := bc_ BK272 3
   refine value_ (w1 := w') (v := .slice A0_0 l0_0.length c0_0) (by rfl) rfl ?_ ?_
   ·
    go_simp
    (try simp only [i64_w])
    try rfl
   refine hK.out _ _ ⟨v275, v278, v281, v284, v287, v290, v293, v296, m16_, (by rw [ha.out]; exact putSel_upk 1 hb_ rfl rfl rfl), Q_BK272, Q_BK273, Q_HB, Q_HO276, fun h0_ => absurd ((hoff 3 z12_4).symm.trans h0_) (by decide), Q_HO282, fun h0_ => absurd ((hoff 7 z12_4).symm.trans h0_) (by decide), Q_HO288, fun h0_ => absurd ((hoff 11 z12_4).symm.trans h0_) (by decide), Q_HO294, fun h0_ => absurd ((hoff 15 z12_4).symm.trans h0_) (by decide), fun h0_ => absurd ((hoff 17 z12_4).symm.trans h0_) (by decide), fun h0_ => absurd ((hoff 16 z12_4).symm.trans h0_) (by decide)⟩
  refine steps_cons ?_ ?_
  ·
   rintro b a w' ⟨v275, v278, v281, v284, v287, v290, v293, v296, m16_, ha, Q_BK272, Q_BK273, Q_HB, Q_HO276, Q_HO279, Q_HO282, Q_HO285, Q_HO288, Q_HO291, Q_HO294, Q_HO297, Q_BK273_e17, Q_X16_⟩ hb_ hon hoff
   refine ⟨_, rfl, fun K hK => ?_⟩
   have e3 : a.tmps[3]? = some (v275) := by rw [ha]; exact putSel_on (e := (0, 3, v275)) 0 rfl rfl (hon 0 z12_4) rfl
   have e5 : a.tmps[5]? = some (.slice A0_0 l0_0.length c0_0) := by rw [ha]; exact putSel_on (e := (2, 5, .slice A0_0 l0_0.length c0_0)) 1 rfl rfl (hon 2 z12_4) rfl
   replace ha := Aside0.mk ha
   have BK272 := Aside0.mk Q_BK272
   have BK273 := Aside0.mk (Q_BK273 (hoff 17 z12_4))
   have HB := Aside0.mk Q_HB
   have HO276 := Aside0.mk (Q_HO276 (hon 0 z12_4) hb_)
   refine Kd.R_append_rows_step (Kd.int .i64) (w0 := w) w.heap.size (by rfl) (.tmp 3) (.tmp 5) 22 3 (.int .i64 0) 8 rfl Try.underlying22 info3 rfl (by decide) (by omega) v275 y274 l0_0 _ _ _ (fun _ => True) (fun _ => False) (ev_ e3) (ev_ e5) ?aO ?aR (fun _ _ h => h) (fun _ h => h.elim) ?aF ?aB ?aS ?aL ?_
   (case aR => repeat (first | exact (Kd.C_below HR0_0.out HB.out) | (with_reducible refine Kd.C_alloc ?_ _) | (with_reducible refine Kd.C_drewN ?_ _) | (with_reducible refine Kd.C_drew ?_)))
   (case aB => exact z12_0)
   (case aF => exact (fun _ _ => trivial))
   (case aO => exact z12_8)
   (case aS => exact (below_size z12_0))
   (case aL => have := LMc2.out; omega)
   intro v278 w12 ho hb hg hat
   rw [← Ny277.out] at ho
   have n0_ := Aside0.mk (blk_grown (g := gb272) (o := .cells #[.slice A0_0 l0_0.length c0_0, .slice A0_1 l0_1.length c0_1, .slice A0_2 l0_2.length c0_2, .slice A0_3 l0_3.length c0_3] 36 (0, 0)) z12_1 hg (Kd.R_ne HO276.out BK272.out (by decide)))
   have n1_ := Aside0.mk (blk_grown (g := gb273) (o := .cells #[.slice none 0 0, .slice none 0 0, .slice none 0 0, .slice none 0 0] 36 (0, 0)) z12_2 hg (Kd.R_ne HO276.out BK273.out (by decide)))
   have n2_ := Aside0.mk (hb)
   have n3_ := Aside0.mk (ho)
   have z_HO282 := fun (h0_ : b 4 = true) (h1_ : b 7 = false) => (show Kd.R k84 84 w12 w.heap.size (fun _ => True) v281 y280 from by first | exact (Kd.R_over' z12_6 (Kd.R_typed z12_8) (by decide) hg) | exact Kd.R_mono (Kd.R_over' z12_6 (Kd.R_typed z12_8) (by decide) hg) (fun _ h_ => by first | trivial | exact h_ | exact h_.1))
   have z_HO288 := fun (h0_ : b 8 = true) (h1_ : b 11 = false) => (show Kd.R k86 86 w12 w.heap.size (fun _ => True) v287 y286 from by first | exact (Kd.R_over' z12_5 (Kd.R_typed z12_8) (by decide) hg) | exact Kd.R_mono (Kd.R_over' z12_5 (Kd.R_typed z12_8) (by decide) hg) (fun _ h_ => by first | trivial | exact h_ | exact h_.1))
   have z_HO294 := fun (h0_ : b 12 = true) (h1_ : b 15 = false) => (show Kd.R k73 73 w12 w.heap.size (fun _ => True) v293 y292 from by first | exact (Kd.R_over' z12_3 (Kd.R_typed z12_8) (by decide) hg) | exact Kd.R_mono (Kd.R_over' z12_3 (Kd.R_typed z12_8) (by decide) hg) (fun _ h_ => by first | trivial | exact h_ | exact h_.1))
   clear BK272
   clear BK273
   clear HB
   clear HO276
   have BK272 := n0_
   have BK273 := n1_
   have HB := n2_
   have HO279 := n3_
   clear n0_ n1_ n2_ n3_
   clear ho hb hg hat
   refine hK.out _ _ ⟨v275, v278, v281, v284, v287, v290, v293, v296, m16_, (by rw [ha.out]; exact putSel_upk 2 hb_ rfl rfl rfl), z12_1, fun _ => z12_2, z12_0, fun _ h1_ => absurd ((up_self b 3).symm.trans h1_) (by decide), fun _ => z12_7, z_HO282, fun h0_ => absurd ((hoff 7 z12_4).symm.trans h0_) (by decide), z_HO288, fun h0_ => absurd ((hoff 11 z12_4).symm.trans h0_) (by decide), z_HO294, fun h0_ => absurd ((hoff 15 z12_4).symm.trans h0_) (by decide), fun h0_ => absurd ((hoff 17 z12_4).symm.trans h0_) (by decide), fun h0_ => absurd ((hoff 16 z12_4).symm.trans h0_) (by decide)⟩
  refine steps_cons ?_ ?_
  ·
   rintro b a w' ⟨v275, v278, v281, v284, v287, v290, v293, v296, m16_, ha, Q_BK272, Q_BK273, Q_HB, Q_HO276, Q_HO279, Q_HO282, Q_HO285, Q_HO288, Q_HO291, Q_HO294, Q_HO297, Q_BK273_e17, Q_X16_⟩ hb_ hon hoff
   refine ⟨_, rfl, fun K hK => ?_⟩
   replace ha := Aside0.mk ha
   have BK272 := Aside0.mk Q_BK272
   have BK273 := Aside0.mk (Q_BK273 (hoff 17 z12_4))
   have HB := Aside0.mk Q_HB
   refine Kd.R_lit_step k84 _ 84 ?hg (N := 7) ?hd (xs := ([] : List (S84))) (inner := []) (ok := fun _ => True) (okp := fun _ => True) ?hr ?hp (fun _ hk => hk) trivial (Below.refl _ _) (Nat.le_refl _) (by simp) ?_; (case hd => rfl); (case hg => rfl); (case hr => first | (go_simp; done) | (go_simp; rfl)); (case hp => exact (Reps.none _ _))
   intro v281 w9 ho10 hb hg_ hnew_
   clear hg_ hnew_
   (first | rw [← Ny280.out] at ho10 | (simp only [Int.reduceToNat] at ho10; rw [← Ny280.out] at ho10))
   have n0_ := Aside0.mk (Kd.R_lower ho10 (below_size z12_0))
   have n1_ := Aside0.mk (blk_below (g := gb272) (o := .cells #[.slice A0_0 l0_0.length c0_0, .slice A0_1 l0_1.length c0_1, .slice A0_2 l0_2.length c0_2, .slice A0_3 l0_3.length c0_3] 36 (0, 0)) z12_1 hb)
   have n2_ := Aside0.mk (blk_below (g := gb273) (o := .cells #[.slice none 0 0, .slice none 0 0, .slice none 0 0, .slice none 0 0] 36 (0, 0)) z12_2 hb)
   have n3_ := Aside0.mk (below_step z12_0 hb)
   have z_HO276 := fun (h0_ : b 0 = true) (h1_ : b 3 = false) => (show Kd.R (Kd.int .i64) 3 w9 w.heap.size (fun _ => True) v275 y274 from by first | exact (Kd.R_below z12_10 hb) | exact Kd.R_mono (Kd.R_below z12_10 hb) (fun _ h_ => by first | trivial | exact h_ | exact h_.1))
   have z_HO279 := fun (h0_ : b 3 = true) => (show Kd.R (Kd.int .i64) 3 w9 w.heap.size (fun _ => True) v278 y277 from by first | exact (Kd.R_below z12_11 hb) | exact Kd.R_mono (Kd.R_below z12_11 hb) (fun _ h_ => by first | trivial | exact h_ | exact h_.1))
   have z_HO288 := fun (h0_ : b 8 = true) (h1_ : b 11 = false) => (show Kd.R k86 86 w9 w.heap.size (fun _ => True) v287 y286 from by first | exact (Kd.R_below z12_5 hb) | exact Kd.R_mono (Kd.R_below z12_5 hb) (fun _ h_ => by first | trivial | exact h_ | exact h_.1))
   have z_HO294 := fun (h0_ : b 12 = true) (h1_ : b 15 = false) => (show Kd.R k73 73 w9 w.heap.size (fun _ => True) v293 y292 from by first | exact (Kd.R_below z12_3 hb) | exact Kd.R_mono (Kd.R_below z12_3 hb) (fun _ h_ => by first | trivial | exact h_ | exact h_.1))
   clear BK272
   clear BK273
   clear HB
   have HO282 := n0_
   have BK272 := n1_
   have BK273 := n2_
   have HB := n3_
   clear n0_ n1_ n2_ n3_
   clear hb ho10
   refine hK.out _ _ ⟨v275, v278, v281, v284, v287, v290, v293, v296, m16_, (by rw [ha.out]; exact putSel_upk 3 hb_ rfl rfl rfl), z12_1, fun _ => z12_2, z12_0, z_HO276, z_HO279, fun _ _ => z12_9, fun h0_ => absurd ((hoff 7 z12_4).symm.trans h0_) (by decide), z_HO288, fun h0_ => absurd ((hoff 11 z12_4).symm.trans h0_) (by decide), z_HO294, fun h0_ => absurd ((hoff 15 z12_4).symm.trans h0_) (by decide), fun h0_ => absurd ((hoff 17 z12_4).symm.trans h0_) (by decide), fun h0_ => absurd ((hoff 16 z12_4).symm.trans h0_) (by decide)⟩
  refine steps_cons ?_ ?_
  ·
   rintro b a w' ⟨v275, v278, v281, v284, v287, v290, v293, v296, m16_, ha, Q_BK272, Q_BK273, Q_HB, Q_HO276, Q_HO279, Q_HO282, Q_HO285, Q_HO288, Q_HO291, Q_HO294, Q_HO297, Q_BK273_e17, Q_X16_⟩ hb_ hon hoff
   refine ⟨_, rfl, fun K hK => ?_⟩
   have e8 : a.tmps[8]? = some (.pointer (some ⟨gb272, 1, none⟩)) := by rw [ha]; exact (putSel_off rfl).trans rfl
   replace ha := Aside0.mk ha
   have BK272 := Aside0.mk Q_BK272
   have BK273 := Aside0.mk (Q_BK273 (hoff 17 z12_4))
   have HB := Aside0.mk Q_HB
   have hc0_ : w'.cell? ⟨gb272, 0, none⟩ = some (.slice A0_0 l0_0.length c0_0) := bc_ BK272 0
   have hc1_ : w'.cell? ⟨gb272, 1, none⟩ = some (.slice A0_1 l0_1.length c0_1) := bc_ BK272 1
   have hc2_ : w'.cell? ⟨gb272, 2, none⟩ = some (.slice A0_2 l0_2.length c0_2) := bc_ BK272 2
   have hc3_ : w'.cell? ⟨gb272, 3, none⟩ = some (.slice A0_3 l0_3.length c0_3) := bc_ BK272 3
   refine value_ (w1 := w') (v := .slice A0_1 l0_1.length c0_1) (by rfl) rfl ?_ ?_
   ·
    go_simp
    (try simp only [i64_w])
    try rfl
   refine hK.out _ _ ⟨v275, v278, v281, v284, v287, v290, v293, v296, m16_, (by rw [ha.out]; exact putSel_upk 4 hb_ rfl rfl rfl), Q_BK272, Q_BK273, Q_HB, Q_HO276, Q_HO279, Q_HO282, fun h0_ => absurd ((hoff 7 z12_4).symm.trans h0_) (by decide), Q_HO288, fun h0_ => absurd ((hoff 11 z12_4).symm.trans h0_) (by decide), Q_HO294, fun h0_ => absurd ((hoff 15 z12_4).symm.trans h0_) (by decide), fun h0_ => absurd ((hoff 17 z12_4).symm.trans h0_) (by decide), fun h0_ => absurd ((hoff 16 z12_4).symm.trans h0_) (by decide)⟩
  refine steps_cons ?_ ?_
  ·
   rintro b a w' ⟨v275, v278, v281, v284, v287, v290, v293, v296, m16_, ha, Q_BK272, Q_BK273, Q_HB, Q_HO276, Q_HO279, Q_HO282, Q_HO285, Q_HO288, Q_HO291, Q_HO294, Q_HO297, Q_BK273_e17, Q_X16_⟩ hb_ hon hoff
   refine ⟨_, rfl, fun K hK => ?_⟩
   have e7 : a.tmps[7]? = some (v281) := by rw [ha]; exact putSel_on (e := (4, 7, v281)) 3 rfl rfl (hon 4 z12_4) rfl
   have e9 : a.tmps[9]? = some (.slice A0_1 l0_1.length c0_1) := by rw [ha]; exact putSel_on (e := (6, 9, .slice A0_1 l0_1.length c0_1)) 4 rfl rfl (hon 6 z12_4) rfl
   replace ha := Aside0.mk ha
   have BK272 := Aside0.mk Q_BK272
   have BK273 := Aside0.mk (Q_BK273 (hoff 17 z12_4))
   have HB := Aside0.mk Q_HB
   have HO279 := Aside0.mk (Q_HO279 (hon 3 z12_4))
   have HO282 := Aside0.mk (Q_HO282 (hon 4 z12_4) hb_)
   refine Kd.R_append_rows_step k84 (w0 := w) w.heap.size (by rfl) (.tmp 7) (.tmp 9) 32 84 (.agg #[(.string ⟨#[]⟩), (.int .i64 0), (.int .i64 0)]) 32 rfl Try.underlying32 info84 rfl (by decide) (by omega) v281 y280 l0_1 _ _ _ (fun _ => True) (fun _ => False) (ev_ e7) (ev_ e9) ?aO ?aR (fun _ _ h => h) (fun _ h => h.elim) ?aF ?aB ?aS ?aL ?_
   (case aR => repeat (first | exact (Kd.C_below HR0_1.out HB.out) | (with_reducible refine Kd.C_alloc ?_ _) | (with_reducible refine Kd.C_drewN ?_ _) | (with_reducible refine Kd.C_drew ?_)))
   (case aB => exact z12_0)
   (case aF => exact (fun _ _ => trivial))
   (case aO => exact z12_9)
   (case aS => exact (below_size z12_0))
   (case aL => have := LMc3.out; omega)
   intro v284 w15 ho hb hg hat
   rw [← Ny283.out] at ho
   have n0_ := Aside0.mk (blk_grown (g := gb272) (o := .cells #[.slice A0_0 l0_0.length c0_0, .slice A0_1 l0_1.length c0_1, .slice A0_2 l0_2.length c0_2, .slice A0_3 l0_3.length c0_3] 36 (0, 0)) z12_1 hg (Kd.R_ne HO282.out BK272.out (by decide)))
   have n1_ := Aside0.mk (blk_grown (g := gb273) (o := .cells #[.slice none 0 0, .slice none 0 0, .slice none 0 0, .slice none 0 0] 36 (0, 0)) z12_2 hg (Kd.R_ne HO282.out BK273.out (by decide)))
   have n2_ := Aside0.mk (Kd.R_over' z12_7 (Kd.R_typed z12_9) (by decide) hg)
   have n3_ := Aside0.mk (hb)
   have n4_ := Aside0.mk (ho)
   have z_HO288 := fun (h0_ : b 8 = true) (h1_ : b 11 = false) => (show Kd.R k86 86 w15 w.heap.size (fun _ => True) v287 y286 from by first | exact (Kd.R_over' z12_5 (Kd.R_typed z12_9) (by decide) hg) | exact Kd.R_mono (Kd.R_over' z12_5 (Kd.R_typed z12_9) (by decide) hg) (fun _ h_ => by first | trivial | exact h_ | exact h_.1))
   have z_HO294 := fun (h0_ : b 12 = true) (h1_ : b 15 = false) => (show Kd.R k73 73 w15 w.heap.size (fun _ => True) v293 y292 from by first | exact (Kd.R_over' z12_3 (Kd.R_typed z12_9) (by decide) hg) | exact Kd.R_mono (Kd.R_over' z12_3 (Kd.R_typed z12_9) (by decide) hg) (fun _ h_ => by first | trivial | exact h_ | exact h_.1))
   clear BK272
   clear BK273
   clear HO279
   clear HB
   clear HO282
   have BK272 := n0_
   have BK273 := n1_
   have HO279 := n2_
   have HB := n3_
   have HO285 := n4_
   clear n0_ n1_ n2_ n3_ n4_
   clear ho hb hg hat
   refine hK.out _ _ ⟨v275, v278, v281, v284, v287, v290, v293, v296, m16_, (by rw [ha.out]; exact putSel_upk 5 hb_ rfl rfl rfl), z12_1, fun _ => z12_2, z12_0, fun _ h1_ => absurd ((hon 3 z12_4).symm.trans h1_) (by decide), fun _ => z12_7, fun _ h1_ => absurd ((up_self b 7).symm.trans h1_) (by decide), fun _ => z12_13, z_HO288, fun h0_ => absurd ((hoff 11 z12_4).symm.trans h0_) (by decide), z_HO294, fun h0_ => absurd ((hoff 15 z12_4).symm.trans h0_) (by decide), fun h0_ => absurd ((hoff 17 z12_4).symm.trans h0_) (by decide), fun h0_ => absurd ((hoff 16 z12_4).symm.trans h0_) (by decide)⟩
  refine steps_cons ?_ ?_
  ·
   rintro b a w' ⟨v275, v278, v281, v284, v287, v290, v293, v296, m16_, ha, Q_BK272, Q_BK273, Q_HB, Q_HO276, Q_HO279, Q_HO282, Q_HO285, Q_HO288, Q_HO291, Q_HO294, Q_HO297, Q_BK273_e17, Q_X16_⟩ hb_ hon hoff
   refine ⟨_, rfl, fun K hK => ?_⟩
   replace ha := Aside0.mk ha
   have BK272 := Aside0.mk Q_BK272
   have BK273 := Aside0.mk (Q_BK273 (hoff 17 z12_4))
   have HB := Aside0.mk Q_HB
   refine Kd.R_lit_step k86 _ 86 ?hg (N := 11) ?hd (xs := ([] : List (S86))) (inner := []) (ok := fun _ => True) (okp := fun _ => True) ?hr ?hp (fun _ hk => hk) trivial (Below.refl _ _) (Nat.le_refl _) (by simp) ?_; (case hd => rfl); (case hg => rfl); (case hr => first | (go_simp; done) | (go_simp; rfl)); (case hp => exact (Reps.none _ _))
   intro v287 w9 ho10 hb hg_ hnew_
   clear hg_ hnew_
   (first | rw [← Ny286.out] at ho10 | (simp only [Int.reduceToNat] at ho10; rw [← Ny286.out] at ho10))
   have n0_ := Aside0.mk (Kd.R_lower ho10 (below_size z12_0))
   have n1_ := Aside0.mk (blk_below (g := gb272) (o := .cells #[.slice A0_0 l0_0.length c0_0, .slice A0_1 l0_1.length c0_1, .slice A0_2 l0_2.length c0_2, .slice A0_3 l0_3.length c0_3] 36 (0, 0)) z12_1 hb)
   have n2_ := Aside0.mk (blk_below (g := gb273) (o := .cells #[.slice none 0 0, .slice none 0 0, .slice none 0 0, .slice none 0 0] 36 (0, 0)) z12_2 hb)
   have n3_ := Aside0.mk (below_step z12_0 hb)
   have z_HO276 := fun (h0_ : b 0 = true) (h1_ : b 3 = false) => (show Kd.R (Kd.int .i64) 3 w9 w.heap.size (fun _ => True) v275 y274 from by first | exact (Kd.R_below z12_10 hb) | exact Kd.R_mono (Kd.R_below z12_10 hb) (fun _ h_ => by first | trivial | exact h_ | exact h_.1))
   have z_HO279 := fun (h0_ : b 3 = true) => (show Kd.R (Kd.int .i64) 3 w9 w.heap.size (fun _ => True) v278 y277 from by first | exact (Kd.R_below z12_11 hb) | exact Kd.R_mono (Kd.R_below z12_11 hb) (fun _ h_ => by first | trivial | exact h_ | exact h_.1))
   have z_HO282 := fun (h0_ : b 4 = true) (h1_ : b 7 = false) => (show Kd.R k84 84 w9 w.heap.size (fun _ => True) v281 y280 from by first | exact (Kd.R_below z12_6 hb) | exact Kd.R_mono (Kd.R_below z12_6 hb) (fun _ h_ => by first | trivial | exact h_ | exact h_.1))
   have z_HO285 := fun (h0_ : b 7 = true) => (show Kd.R k84 84 w9 w.heap.size (fun _ => True) v284 y283 from by first | exact (Kd.R_below z12_16 hb) | exact Kd.R_mono (Kd.R_below z12_16 hb) (fun _ h_ => by first | trivial | exact h_ | exact h_.1))
   have z_HO294 := fun (h0_ : b 12 = true) (h1_ : b 15 = false) => (show Kd.R k73 73 w9 w.heap.size (fun _ => True) v293 y292 from by first | exact (Kd.R_below z12_3 hb) | exact Kd.R_mono (Kd.R_below z12_3 hb) (fun _ h_ => by first | trivial | exact h_ | exact h_.1))
   clear BK272
   clear BK273
   clear HB
   have HO288 := n0_
   have BK272 := n1_
   have BK273 := n2_
   have HB := n3_
   clear n0_ n1_ n2_ n3_
   clear hb ho10
   refine hK.out _ _ ⟨v275, v278, v281, v284, v287, v290, v293, v296, m16_, (by rw [ha.out]; exact putSel_upk 6 hb_ rfl rfl rfl), z12_1, fun _ => z12_2, z12_0, z_HO276, z_HO279, z_HO282, z_HO285, fun _ _ => z12_12, fun h0_ => absurd ((hoff 11 z12_4).symm.trans h0_) (by decide), z_HO294, fun h0_ => absurd ((hoff 15 z12_4).symm.trans h0_) (by decide), fun h0_ => absurd ((hoff 17 z12_4).symm.trans h0_) (by decide), fun h0_ => absurd ((hoff 16 z12_4).symm.trans h0_) (by decide)⟩
  refine steps_cons ?_ ?_
  ·
   rintro b a w' ⟨v275, v278, v281, v284, v287, v290, v293, v296, m16_, ha, Q_BK272, Q_BK273, Q_HB, Q_HO276, Q_HO279, Q_HO282, Q_HO285, Q_HO288, Q_HO291, Q_HO294, Q_HO297, Q_BK273_e17, Q_X16_⟩ hb_ hon hoff
   refine ⟨_, rfl, fun K hK => ?_⟩
   have e12 : a.tmps[12]? = some (.pointer (some ⟨gb272, 2, none⟩)) := by rw [ha]; exact (putSel_off rfl).trans rfl
   replace ha := Aside0.mk ha
   have BK272 := Aside0.mk Q_BK272
   have BK273 := Aside0.mk (Q_BK273 (hoff 17 z12_4))
   have HB := Aside0.mk Q_HB
   have hc0_ : w'.cell? ⟨gb272, 0, none⟩ = some (.slice A0_0 l0_0.length c0_0) := bc_ BK272 0
   have hc1_ : w'.cell? ⟨gb272, 1, none⟩ = some (.slice A0_1 l0_1.length c0_1) := bc_ BK272 1
   have hc2_ : w'.cell? ⟨gb272, 2, none⟩ = some (.slice A0_2 l0_2.length c0_2) := bc_ BK272 2
   have hc3_ : w'.cell? ⟨gb272, 3, none⟩ = some (.slice A0_3 l0_3.length c0_3) := bc_ BK272 3
   refine value_ (w1 := w') (v := .slice A0_2 l0_2.length c0_2) (by rfl) rfl ?_ ?_
   ·
    go_simp
    (try simp only [i64_w])
    try rfl
   refine hK.out _ _ ⟨v275, v278, v281, v284, v287, v290, v293, v296, m16_, (by rw [ha.out]; exact putSel_upk 7 hb_ rfl rfl rfl), Q_BK272, Q_BK273, Q_HB, Q_HO276, Q_HO279, Q_HO282, Q_HO285, Q_HO288, fun h0_ => absurd ((hoff 11 z12_4).symm.trans h0_) (by decide), Q_HO294, fun h0_ => absurd ((hoff 15 z12_4).symm.trans h0_) (by decide), fun h0_ => absurd ((hoff 17 z12_4).symm.trans h0_) (by decide), fun h0_ => absurd ((hoff 16 z12_4).symm.trans h0_) (by decide)⟩
  refine steps_cons ?_ ?_
  ·
   rintro b a w' ⟨v275, v278, v281, v284, v287, v290, v293, v296, m16_, ha, Q_BK272, Q_BK273, Q_HB, Q_HO276, Q_HO279, Q_HO282, Q_HO285, Q_HO288, Q_HO291, Q_HO294, Q_HO297, Q_BK273_e17, Q_X16_⟩ hb_ hon hoff
   refine ⟨_, rfl, fun K hK => ?_⟩
   have e11 : a.tmps[11]? = some (v287) := by rw [ha]; exact putSel_on (e := (8, 11, v287)) 6 rfl rfl (hon 8 z12_4) rfl
   have e13 : a.tmps[13]? = some (.slice A0_2 l0_2.length c0_2) := by rw [ha]; exact putSel_on (e := (10, 13, .slice A0_2 l0_2.length c0_2)) 7 rfl rfl (hon 10 z12_4) rfl
   replace ha := Aside0.mk ha
   have BK272 := Aside0.mk Q_BK272
   have BK273 := Aside0.mk (Q_BK273 (hoff 17 z12_4))
   have HB := Aside0.mk Q_HB
   have HO279 := Aside0.mk (Q_HO279 (hon 3 z12_4))
   have HO285 := Aside0.mk (Q_HO285 (hon 7 z12_4))
   have HO288 := Aside0.mk (Q_HO288 (hon 8 z12_4) hb_)
   refine Kd.R_append_rows_step k86 (w0 := w) w.heap.size (by rfl) (.tmp 11) (.tmp 13) 33 86 (.agg #[(.bool false), (.string ⟨#[]⟩), (.string ⟨#[]⟩), (.int .i64 0), (.int .i64 0), (.int .i64 0)]) 64 rfl Try.underlying33 info86 rfl (by decide) (by omega) v287 y286 l0_2 _ _ _ (fun _ => True) (fun _ => False) (ev_ e11) (ev_ e13) ?aO ?aR (fun _ _ h => h) (fun _ h => h.elim) ?aF ?aB ?aS ?aL ?_
   (case aR => repeat (first | exact (Kd.C_below HR0_2.out HB.out) | (with_reducible refine Kd.C_alloc ?_ _) | (with_reducible refine Kd.C_drewN ?_ _) | (with_reducible refine Kd.C_drew ?_)))
   (case aB => exact z12_0)
   (case aF => exact (fun _ _ => trivial))
   (case aO => exact z12_12)
   (case aS => exact (below_size z12_0))
   (case aL => have := LMc4.out; omega)
   intro v290 w18 ho hb hg hat
   rw [← Ny289.out] at ho
   have n0_ := Aside0.mk (blk_grown (g := gb272) (o := .cells #[.slice A0_0 l0_0.length c0_0, .slice A0_1 l0_1.length c0_1, .slice A0_2 l0_2.length c0_2, .slice A0_3 l0_3.length c0_3] 36 (0, 0)) z12_1 hg (Kd.R_ne HO288.out BK272.out (by decide)))
   have n1_ := Aside0.mk (blk_grown (g := gb273) (o := .cells #[.slice none 0 0, .slice none 0 0, .slice none 0 0, .slice none 0 0] 36 (0, 0)) z12_2 hg (Kd.R_ne HO288.out BK273.out (by decide)))
   have n2_ := Aside0.mk (Kd.R_over' z12_7 (Kd.R_typed z12_12) (by decide) hg)
   have n3_ := Aside0.mk (Kd.R_over' z12_13 (Kd.R_typed z12_12) (by decide) hg)
   have n4_ := Aside0.mk (hb)
   have n5_ := Aside0.mk (ho)
   have z_HO294 := fun (h0_ : b 12 = true) (h1_ : b 15 = false) => (show Kd.R k73 73 w18 w.heap.size (fun _ => True) v293 y292 from by first | exact (Kd.R_over' z12_3 (Kd.R_typed z12_12) (by decide) hg) | exact Kd.R_mono (Kd.R_over' z12_3 (Kd.R_typed z12_12) (by decide) hg) (fun _ h_ => by first | trivial | exact h_ | exact h_.1))
   clear BK272
   clear BK273
   clear HO279
   clear HO285
   clear HB
   clear HO288
   have BK272 := n0_
   have BK273 := n1_
   have HO279 := n2_
   have HO285 := n3_
   have HB := n4_
   have HO291 := n5_
   clear n0_ n1_ n2_ n3_ n4_ n5_
   clear ho hb hg hat
   refine hK.out _ _ ⟨v275, v278, v281, v284, v287, v290, v293, v296, m16_, (by rw [ha.out]; exact putSel_upk 8 hb_ rfl rfl rfl), z12_1, fun _ => z12_2, z12_0, fun _ h1_ => absurd ((hon 3 z12_4).symm.trans h1_) (by decide), fun _ => z12_7, fun _ h1_ => absurd ((hon 7 z12_4).symm.trans h1_) (by decide), fun _ => z12_13, fun _ h1_ => absurd ((up_self b 11).symm.trans h1_) (by decide), fun _ => z12_18, z_HO294, fun h0_ => absurd ((hoff 15 z12_4).symm.trans h0_) (by decide), fun h0_ => absurd ((hoff 17 z12_4).symm.trans h0_) (by decide), fun h0_ => absurd ((hoff 16 z12_4).symm.trans h0_) (by decide)⟩
  refine steps_cons ?_ ?_
  ·
   rintro b a w' ⟨v275, v278, v281, v284, v287, v290, v293, v296, m16_, ha, Q_BK272, Q_BK273, Q_HB, Q_HO276, Q_HO279, Q_HO282, Q_HO285, Q_HO288, Q_HO291, Q_HO294, Q_HO297, Q_BK273_e17, Q_X16_⟩ hb_ hon hoff
   refine ⟨_, rfl, fun K hK => ?_⟩
   replace ha := Aside0.mk ha
   have BK272 := Aside0.mk Q_BK272
   have BK273 := Aside0.mk (Q_BK273 (hoff 17 z12_4))
   have HB := Aside0.mk Q_HB
   refine Kd.R_lit_step k73 _ 73 ?hg (N := 15) ?hd (xs := ([] : List (S73))) (inner := []) (ok := fun _ => True) (okp := fun _ => True) ?hr ?hp (fun _ hk => hk) trivial (Below.refl _ _) (Nat.le_refl _) (by simp) ?_; (case hd => rfl); (case hg => rfl); (case hr => first | (go_simp; done) | (go_simp; rfl)); (case hp => exact (Reps.none _ _))
   intro v293 w9 ho10 hb hg_ hnew_
   clear hg_ hnew_
   (first | rw [← Ny292.out] at ho10 | (simp only [Int.reduceToNat] at ho10; rw [← Ny292.out] at ho10))
   have n0_ := Aside0.mk (Kd.R_lower ho10 (below_size z12_0))
   have n1_ := Aside0.mk (blk_below (g := gb272) (o := .cells #[.slice A0_0 l0_0.length c0_0, .slice A0_1 l0_1.length c0_1, .slice A0_2 l0_2.length c0_2, .slice A0_3 l0_3.length c0_3] 36 (0, 0)) z12_1 hb)
   have n2_ := Aside0.mk (blk_below (g := gb273) (o := .cells #[.slice none 0 0, .slice none 0 0, .slice none 0 0, .slice none 0 0] 36 (0, 0)) z12_2 hb)
   have n3_ := Aside0.mk (below_step z12_0 hb)
   have z_HO276 := fun (h0_ : b 0 = true) (h1_ : b 3 = false) => (show Kd.R (Kd.int .i64) 3 w9 w.heap.size (fun _ => True) v275 y274 from by first | exact (Kd.R_below z12_10 hb) | exact Kd.R_mono (Kd.R_below z12_10 hb) (fun _ h_ => by first | trivial | exact h_ | exact h_.1))
   have z_HO279 := fun (h0_ : b 3 = true) => (show Kd.R (Kd.int .i64) 3 w9 w.heap.size (fun _ => True) v278 y277 from by first | exact (Kd.R_below z12_11 hb) | exact Kd.R_mono (Kd.R_below z12_11 hb) (fun _ h_ => by first | trivial | exact h_ | exact h_.1))
   have z_HO282 := fun (h0_ : b 4 = true) (h1_ : b 7 = false) => (show Kd.R k84 84 w9 w.heap.size (fun _ => True) v281 y280 from by first | exact (Kd.R_below z12_6 hb) | exact Kd.R_mono (Kd.R_below z12_6 hb) (fun _ h_ => by first | trivial | exact h_ | exact h_.1))
   have z_HO285 := fun (h0_ : b 7 = true) => (show Kd.R k84 84 w9 w.heap.size (fun _ => True) v284 y283 from by first | exact (Kd.R_below z12_16 hb) | exact Kd.R_mono (Kd.R_below z12_16 hb) (fun _ h_ => by first | trivial | exact h_ | exact h_.1))
   have z_HO288 := fun (h0_ : b 8 = true) (h1_ : b 11 = false) => (show Kd.R k86 86 w9 w.heap.size (fun _ => True) v287 y286 from by first | exact (Kd.R_below z12_5 hb) | exact Kd.R_mono (Kd.R_below z12_5 hb) (fun _ h_ => by first | trivial | exact h_ | exact h_.1))
   have z_HO291 := fun (h0_ : b 11 = true) => (show Kd.R k86 86 w9 w.heap.size (fun _ => True) v290 y289 from by first | exact (Kd.R_below (by (with_reducible repeat (first | apply Kd.R_alloc | apply Kd.R_drewN | apply Kd.R_drew)); exact (Q_HO291 h0_)) hb) | exact Kd.R_mono (Kd.R_below (by (with_reducible repeat (first | apply Kd.R_alloc | apply Kd.R_drewN | apply Kd.R_drew)); exact (Q_HO291 h0_)) hb) (fun _ h_ => by first | trivial | exact h_ | exact h_.1))
   clear BK272
   clear BK273
   clear HB
   have HO294 := n0_
   have BK272 := n1_
   have BK273 := n2_
   have HB := n3_
   clear n0_ n1_ n2_ n3_
   clear hb ho10
   refine hK.out _ _ ⟨v275, v278, v281, v284, v287, v290, v293, v296, m16_, (by rw [ha.out]; exact putSel_upk 9 hb_ rfl rfl rfl), z12_1, fun _ => z12_2, z12_0, z_HO276, z_HO279, z_HO282, z_HO285, z_HO288, z_HO291, fun _ _ => z12_14, fun h0_ => absurd ((hoff 15 z12_4).symm.trans h0_) (by decide), fun h0_ => absurd ((hoff 17 z12_4).symm.trans h0_) (by decide), fun h0_ => absurd ((hoff 16 z12_4).symm.trans h0_) (by decide)⟩
  refine steps_cons ?_ ?_
  ·
   rintro b a w' ⟨v275, v278, v281, v284, v287, v290, v293, v296, m16_, ha, Q_BK272, Q_BK273, Q_HB, Q_HO276, Q_HO279, Q_HO282, Q_HO285, Q_HO288, Q_HO291, Q_HO294, Q_HO297, Q_BK273_e17, Q_X16_⟩ hb_ hon hoff
   refine ⟨_, rfl, fun K hK => ?_⟩
   have e16 : a.tmps[16]? = some (.pointer (some ⟨gb272, 3, none⟩)) := by rw [ha]; exact (putSel_off rfl).trans rfl
   replace ha := Aside0.mk ha
   have BK272 := Aside0.mk Q_BK272
   have BK273 := Aside0.mk (Q_BK273 (hoff 17 z12_4))
   have HB := Aside0.mk Q_HB
   have hc0_ : w'.cell? ⟨gb272, 0, none⟩ = some (.slice A0_0 l0_0.length c0_0) := bc_ BK272 0
   have hc1_ : w'.cell? ⟨gb272, 1, none⟩ = some (.slice A0_1 l0_1.length c0_1) := bc_ BK272 1
   have hc2_ : w'.cell? ⟨gb272, 2, none⟩ = some (.slice A0_2 l0_2.length c0_2) := bc_ BK272 2
   have hc3_ : w'.cell? ⟨gb272, 3, none⟩ = some (.slice A0_3 l0_3.length c0_3) := bc_ BK272 3
   refine value_ (w1 := w') (v := .slice A0_3 l0_3.length c0_3) (by rfl) rfl ?_ ?_
   ·
    go_simp
    (try simp only [i64_w])
    try rfl
   refine hK.out _ _ ⟨v275, v278, v281, v284, v287, v290, v293, v296, m16_, (by rw [ha.out]; exact putSel_upk 10 hb_ rfl rfl rfl), Q_BK272, Q_BK273, Q_HB, Q_HO276, Q_HO279, Q_HO282, Q_HO285, Q_HO288, Q_HO291, Q_HO294, fun h0_ => absurd ((hoff 15 z12_4).symm.trans h0_) (by decide), fun h0_ => absurd ((hoff 17 z12_4).symm.trans h0_) (by decide), fun h0_ => absurd ((hoff 16 z12_4).symm.trans h0_) (by decide)⟩
  refine steps_cons ?_ ?_
  ·
   rintro b a w' ⟨v275, v278, v281, v284, v287, v290, v293, v296, m16_, ha, Q_BK272, Q_BK273, Q_HB, Q_HO276, Q_HO279, Q_HO282, Q_HO285, Q_HO288, Q_HO291, Q_HO294, Q_HO297, Q_BK273_e17, Q_X16_⟩ hb_ hon hoff
   refine ⟨_, rfl, fun K hK => ?_⟩
   have e15 : a.tmps[15]? = some (v293) := by rw [ha]; exact putSel_on (e := (12, 15, v293)) 9 rfl rfl (hon 12 z12_4) rfl
   have e17 : a.tmps[17]? = some (.slice A0_3 l0_3.length c0_3) := by rw [ha]; exact putSel_on (e := (14, 17, .slice A0_3 l0_3.length c0_3)) 10 rfl rfl (hon 14 z12_4) rfl
   replace ha := Aside0.mk ha
   have BK272 := Aside0.mk Q_BK272
   have BK273 := Aside0.mk (Q_BK273 (hoff 17 z12_4))
   have HB := Aside0.mk Q_HB
   have HO279 := Aside0.mk (Q_HO279 (hon 3 z12_4))
   have HO285 := Aside0.mk (Q_HO285 (hon 7 z12_4))
   have HO291 := Aside0.mk (Q_HO291 (hon 11 z12_4))
   have HO294 := Aside0.mk (Q_HO294 (hon 12 z12_4) hb_)
   refine Kd.R_append_rows_step k73 (w0 := w) w.heap.size (by rfl) (.tmp 15) (.tmp 17) 34 73 (.agg #[(.string ⟨#[]⟩), (.int .i64 0), (.int .i64 0), (.int .i64 0), (.int .i64 0), (.int .i64 0), (.int .i64 0), (.bool false)]) 72 rfl Try.underlying34 info73 rfl (by decide) (by omega) v293 y292 l0_3 _ _ _ (fun _ => True) (fun _ => False) (ev_ e15) (ev_ e17) ?aO ?aR (fun _ _ h => h) (fun _ h => h.elim) ?aF ?aB ?aS ?aL ?_
   (case aR => repeat (first | exact (Kd.C_below HR0_3.out HB.out) | (with_reducible refine Kd.C_alloc ?_ _) | (with_reducible refine Kd.C_drewN ?_ _) | (with_reducible refine Kd.C_drew ?_)))
   (case aB => exact z12_0)
   (case aF => exact (fun _ _ => trivial))
   (case aO => exact z12_14)
   (case aS => exact (below_size z12_0))
   (case aL => have := LMc5.out; omega)
   intro v296 w21 ho hb hg hat
   rw [← Ny295.out] at ho
   replace BK272 := Aside0.mk (blk_grown (g := gb272) (o := .cells #[.slice A0_0 l0_0.length c0_0, .slice A0_1 l0_1.length c0_1, .slice A0_2 l0_2.length c0_2, .slice A0_3 l0_3.length c0_3] 36 (0, 0)) z12_1 hg (Kd.R_ne HO294.out BK272.out (by decide)))
   replace BK273 := Aside0.mk (blk_grown (g := gb273) (o := .cells #[.slice none 0 0, .slice none 0 0, .slice none 0 0, .slice none 0 0] 36 (0, 0)) z12_2 hg (Kd.R_ne HO294.out BK273.out (by decide)))
   replace HO279 := Aside0.mk (Kd.R_over' z12_7 (Kd.R_typed z12_14) (by decide) hg)
   replace HO285 := Aside0.mk (Kd.R_over' z12_13 (Kd.R_typed z12_14) (by decide) hg)
   replace HO291 := Aside0.mk (Kd.R_over' z12_18 (Kd.R_typed z12_14) (by decide) hg)
   replace HB := Aside0.mk (hb)
   have HO297 := Aside0.mk (ho)
   clear HO294
   clear ho hb hg hat
   obtain ⟨Ao22, co22, eo22⟩ := Kd.R_slice HO297.out
   (first | subst eo22 | (injection eo22 with f1_ f2_ f3_; have f4_ := f1_.symm; have f5_ := f3_.symm; clear f1_ f2_ f3_; subst f4_; subst f5_))
   obtain ⟨Ao23, co23, eo23⟩ := Kd.R_slice HO291.out
   (first | subst eo23 | (injection eo23 with f1_ f2_ f3_; have f4_ := f1_.symm; have f5_ := f3_.symm; clear f1_ f2_ f3_; subst f4_; subst f5_))
   obtain ⟨Ao24, co24, eo24⟩ := Kd.R_slice HO285.out
   (first | subst eo24 | (injection eo24 with f1_ f2_ f3_; have f4_ := f1_.symm; have f5_ := f3_.symm; clear f1_ f2_ f3_; subst f4_; subst f5_))
   obtain ⟨Ao25, co25, eo25⟩ := Kd.R_slice HO279.out
   (first | subst eo25 | (injection eo25 with f1_ f2_ f3_; have f4_ := f1_.symm; have f5_ := f3_.symm; clear f1_ f2_ f3_; subst f4_; subst f5_))
   refine hK.out _ _ ⟨v275, .slice Ao25 y277.length co25, v281, .slice Ao24 y283.length co24, v287, .slice Ao23 y289.length co23, v293, .slice Ao22 y295.length co22, m16_, (by rw [ha.out]; exact putSel_upk 11 hb_ rfl rfl rfl), z12_1, fun _ => z12_2, z12_0, fun _ h1_ => absurd ((hon 3 z12_4).symm.trans h1_) (by decide), fun _ => z12_7, fun _ h1_ => absurd ((hon 7 z12_4).symm.trans h1_) (by decide), fun _ => z12_13, fun _ h1_ => absurd ((hon 11 z12_4).symm.trans h1_) (by decide), fun _ => z12_18, fun _ h1_ => absurd ((up_self b 15).symm.trans h1_) (by decide), fun _ => (by (with_reducible repeat (first | apply Kd.R_alloc | apply Kd.R_drewN | apply Kd.R_drew)); exact HO297.out), fun h0_ => absurd ((hoff 17 z12_4).symm.trans h0_) (by decide), fun h0_ => absurd ((hoff 16 z12_4).symm.trans h0_) (by decide)⟩
  refine steps_cons ?_ ?_
  ·
   rintro b a w' ⟨v275, v278, v281, v284, v287, v290, v293, v296, m16_, ha, Q_BK272, Q_BK273, Q_HB, Q_HO276, Q_HO279, Q_HO282, Q_HO285, Q_HO288, Q_HO291, Q_HO294, Q_HO297, Q_BK273_e17, Q_X16_⟩ hb_ hon hoff
   refine ⟨_, rfl, fun K hK => ?_⟩
   have e6 : a.tmps[6]? = some (v278) := by rw [ha]; exact putSel_on (e := (3, 6, v278)) 2 rfl rfl (hon 3 z12_4) rfl
   have e10 : a.tmps[10]? = some (v284) := by rw [ha]; exact putSel_on (e := (7, 10, v284)) 5 rfl rfl (hon 7 z12_4) rfl
   have e14 : a.tmps[14]? = some (v290) := by rw [ha]; exact putSel_on (e := (11, 14, v290)) 8 rfl rfl (hon 11 z12_4) rfl
   have e18 : a.tmps[18]? = some (v296) := by rw [ha]; exact putSel_on (e := (15, 18, v296)) 11 rfl rfl (hon 15 z12_4) rfl
   replace ha := Aside0.mk ha
   have BK272 := Aside0.mk Q_BK272
   have BK273 := Aside0.mk (Q_BK273 (hoff 17 z12_4))
   have HB := Aside0.mk Q_HB
   have HO279 := Aside0.mk (Q_HO279 (hon 3 z12_4))
   have HO285 := Aside0.mk (Q_HO285 (hon 7 z12_4))
   have HO291 := Aside0.mk (Q_HO291 (hon 11 z12_4))
   have HO297 := Aside0.mk (Q_HO297 (hon 15 z12_4))
   obtain ⟨Ao16_0, co16_0, eo_⟩ := Kd.R_slice HO279.out
   subst eo_
   obtain ⟨Ao16_1, co16_1, eo_⟩ := Kd.R_slice HO285.out
   subst eo_
   obtain ⟨Ao16_2, co16_2, eo_⟩ := Kd.R_slice HO291.out
   subst eo_
   obtain ⟨Ao16_3, co16_3, eo_⟩ := Kd.R_slice HO297.out
   subst eo_
   refine value_ (w1 := w') (v := .agg #[.slice Ao16_0 y277.length co16_0, .slice Ao16_1 y283.length co16_1, .slice Ao16_2 y289.length co16_2, .slice Ao16_3 y295.length co16_3]) (by rfl) rfl ?_ ?_
   ·
    go_simp
    (try simp only [i64_w])
    try rfl
   refine hK.out _ _ ⟨v275, .slice Ao16_0 y277.length co16_0, v281, .slice Ao16_1 y283.length co16_1, v287, .slice Ao16_2 y289.length co16_2, v293, .slice Ao16_3 y295.length co16_3, (.agg #[.slice Ao16_0 y277.length co16_0, .slice Ao16_1 y283.length co16_1, .slice Ao16_2 y289.length co16_2, .slice Ao16_3 y295.length co16_3]), (by rw [ha.out]; exact putSel_upk 12 hb_ rfl rfl rfl), Q_BK272, Q_BK273, Q_HB, fun _ h1_ => absurd ((hon 3 z12_4).symm.trans h1_) (by decide), Q_HO279, fun _ h1_ => absurd ((hon 7 z12_4).symm.trans h1_) (by decide), Q_HO285, fun _ h1_ => absurd ((hon 11 z12_4).symm.trans h1_) (by decide), Q_HO291, fun _ h1_ => absurd ((hon 15 z12_4).symm.trans h1_) (by decide), Q_HO297, fun h0_ => absurd ((hoff 17 z12_4).symm.trans h0_) (by decide), fun _ => rfl⟩
  refine steps_cons ?_ ?_
  ·
   rintro b a w' ⟨v275, v278, v281, v284, v287, v290, v293, v296, m16_, ha, Q_BK272, Q_BK273, Q_HB, Q_HO276, Q_HO279, Q_HO282, Q_HO285, Q_HO288, Q_HO291, Q_HO294, Q_HO297, Q_BK273_e17, Q_X16_⟩ hb_ hon hoff
   refine ⟨_, rfl, fun K hK => ?_⟩
   have e2 : a.tmps[2]? = some (.pointer (some ⟨gb273, 0, none⟩)) := by rw [ha]; exact (putSel_off rfl).trans rfl
   have e19 : a.tmps[19]? = some (m16_) := by rw [ha]; exact putSel_on (e := (16, 19, m16_)) 12 rfl rfl (hon 16 z12_4) rfl
   rw [Q_X16_ (hon 16 z12_4)] at e19
   replace ha := Aside0.mk ha
   have BK272 := Aside0.mk Q_BK272
   have BK273 := Aside0.mk (Q_BK273 hb_)
   have HB := Aside0.mk Q_HB
   have HO279 := Aside0.mk (Q_HO279 (hon 3 z12_4))
   have HO285 := Aside0.mk (Q_HO285 (hon 7 z12_4))
   have HO291 := Aside0.mk (Q_HO291 (hon 11 z12_4))
   have HO297 := Aside0.mk (Q_HO297 (hon 15 z12_4))
   obtain ⟨Ao26, co26, eo26⟩ := Kd.R_slice HO297.out
   (first | subst eo26 | (injection eo26 with f1_ f2_ f3_; have f4_ := f1_.symm; have f5_ := f3_.symm; clear f1_ f2_ f3_; subst f4_; subst f5_))
   obtain ⟨Ao27, co27, eo27⟩ := Kd.R_slice HO291.out
   (first | subst eo27 | (injection eo27 with f1_ f2_ f3_; have f4_ := f1_.symm; have f5_ := f3_.symm; clear f1_ f2_ f3_; subst f4_; subst f5_))
   obtain ⟨Ao28, co28, eo28⟩ := Kd.R_slice HO285.out
   (first | subst eo28 | (injection eo28 with f1_ f2_ f3_; have f4_ := f1_.symm; have f5_ := f3_.symm; clear f1_ f2_ f3_; subst f4_; subst f5_))
   obtain ⟨Ao29, co29, eo29⟩ := Kd.R_slice HO279.out
   (first | subst eo29 | (injection eo29 with f1_ f2_ f3_; have f4_ := f1_.symm; have f5_ := f3_.symm; clear f1_ f2_ f3_; subst f4_; subst f5_))
   have hs30 : w'.cell? ⟨gb273, 0, none⟩ = some (.slice none 0 0) := bc_ BK273 0
   have hfs30 := blk_frozen BK273.out 0
   have hns30_0 := NB272_273.out
   have hms30_0 := NB273_272.out
   have hs31 : w'.cell? ⟨gb273, 1, none⟩ = some (.slice none 0 0) := bc_ BK273 1
   have hfs31 := blk_frozen BK273.out 1
   have hns31_0 := NB272_273.out
   have hms31_0 := NB273_272.out
   have hs32 : w'.cell? ⟨gb273, 2, none⟩ = some (.slice none 0 0) := bc_ BK273 2
   have hfs32 := blk_frozen BK273.out 2
   have hns32_0 := NB272_273.out
   have hms32_0 := NB273_272.out
   have hs33 : w'.cell? ⟨gb273, 3, none⟩ = some (.slice none 0 0) := bc_ BK273 3
   have hfs33 := blk_frozen BK273.out 3
   have hns33_0 := NB272_273.out
   have hms33_0 := NB273_272.out
   refine skip_ (w1 := ?_) (by rfl) rfl ?_ ?_
   rotate_left
   ·
    go_simp
    rfl
   refine hK.out _ _ ⟨v275, .slice Ao29 y277.length co29, v281, .slice Ao28 y283.length co28, v287, .slice Ao27 y289.length co27, v293, .slice Ao26 y295.length co26, m16_, (by rw [ha.out]; exact putSel_none (v := undef) rfl), (by (with_reducible repeat (first | apply blk_far (hp := NB272_273.out) | refine blk_drewN ?_ _ | refine blk_drew ?_ | refine blk_alloc ?_ _)); exact BK272.out), fun h0_ => absurd ((up_self b 17).symm.trans h0_) (by decide), z12_0, fun _ h1_ => absurd ((hon 3 z12_4).symm.trans h1_) (by decide), fun _ => (by (with_reducible repeat (first | apply Kd.R_alloc | apply Kd.R_drewN | apply Kd.R_drew)); apply Kd.R_mono; (with_reducible repeat (first | apply Kd.R_far | apply Kd.R_alloc | apply Kd.R_drewN | apply Kd.R_drew)); exact Kd.R_types HO279.out BK273.out (by decide); all_goals (intro _ hk; first | exact trivial | exact hk.2 | trivial)), fun _ h1_ => absurd ((hon 7 z12_4).symm.trans h1_) (by decide), fun _ => (by (with_reducible repeat (first | apply Kd.R_alloc | apply Kd.R_drewN | apply Kd.R_drew)); apply Kd.R_mono; (with_reducible repeat (first | apply Kd.R_far | apply Kd.R_alloc | apply Kd.R_drewN | apply Kd.R_drew)); exact Kd.R_types HO285.out BK273.out (by decide); all_goals (intro _ hk; first | exact trivial | exact hk.2 | trivial)), fun _ h1_ => absurd ((hon 11 z12_4).symm.trans h1_) (by decide), fun _ => (by (with_reducible repeat (first | apply Kd.R_alloc | apply Kd.R_drewN | apply Kd.R_drew)); apply Kd.R_mono; (with_reducible repeat (first | apply Kd.R_far | apply Kd.R_alloc | apply Kd.R_drewN | apply Kd.R_drew)); exact Kd.R_types HO291.out BK273.out (by decide); all_goals (intro _ hk; first | exact trivial | exact hk.2 | trivial)), fun _ h1_ => absurd ((hon 15 z12_4).symm.trans h1_) (by decide), fun _ => (by (with_reducible repeat (first | apply Kd.R_alloc | apply Kd.R_drewN | apply Kd.R_drew)); apply Kd.R_mono; (with_reducible repeat (first | apply Kd.R_far | apply Kd.R_alloc | apply Kd.R_drewN | apply Kd.R_drew)); exact Kd.R_types HO297.out BK273.out (by decide); all_goals (intro _ hk; first | exact trivial | exact hk.2 | trivial)), fun _ => (by (with_reducible repeat (first | apply bpa4 | refine blk_drewN ?_ _ | refine blk_drew ?_ | refine blk_alloc ?_ _)); exact BK273.out), Q_X16_⟩
  exact steps_nil
 rintro b a w29 hall ⟨v275, v278, v281, v284, v287, v290, v293, v296, m16_, ha, Q_BK272, Q_BK273, Q_HB, Q_HO276, Q_HO279, Q_HO282, Q_HO285, Q_HO288, Q_HO291, Q_HO294, Q_HO297, Q_BK273_e17, Q_X16_⟩
 clear BK272 BK273 HB
 have hb0_ := hall 0 z12_4
 have hb2_ := hall 2 z12_4
 have hb3_ := hall 3 z12_4
 have hb4_ := hall 4 z12_4
 have hb6_ := hall 6 z12_4
 have hb7_ := hall 7 z12_4
 have hb8_ := hall 8 z12_4
 have hb10_ := hall 10 z12_4
 have hb11_ := hall 11 z12_4
 have hb12_ := hall 12 z12_4
 have hb14_ := hall 14 z12_4
 have hb15_ := hall 15 z12_4
 have hb16_ := hall 16 z12_4
 have hb17_ := hall 17 z12_4
 subst ha
 obtain rfl := Q_X16_ hb16_
 simp only [putSel, hb0_, hb2_, hb3_, hb4_, hb6_, hb7_, hb8_, hb10_, hb11_, hb12_, hb14_, hb15_, hb16_, hb17_, if_true, Act.put, List.setIfInBounds_toArray, List.set_cons_zero, List.set_cons_succ]
 have BK272 := Aside0.mk Q_BK272
 clear Q_BK272
 clear Q_BK273
 have HB := Aside0.mk Q_HB
 clear Q_HB
 clear Q_HO276
 have HO279 := Aside0.mk (Q_HO279 hb3_)
 clear Q_HO279
 clear Q_HO282
 have HO285 := Aside0.mk (Q_HO285 hb7_)
 clear Q_HO285
 clear Q_HO288
 have HO291 := Aside0.mk (Q_HO291 hb11_)
 clear Q_HO291
 clear Q_HO294
 have HO297 := Aside0.mk (Q_HO297 hb15_)
 clear Q_HO297
 have BK273 := Aside0.mk (Q_BK273_e17 hb17_)
 clear Q_BK273_e17
 clear hall hb0_ hb2_ hb3_ hb4_ hb6_ hb7_ hb8_ hb10_ hb11_ hb12_ hb14_ hb15_ hb16_ hb17_
 obtain ⟨Ao30, co30, eo30⟩ := Kd.R_slice HO297.out
 (first | subst eo30 | (injection eo30 with f1_ f2_ f3_; have f4_ := f1_.symm; have f5_ := f3_.symm; clear f1_ f2_ f3_; subst f4_; subst f5_))
 obtain ⟨Ao31, co31, eo31⟩ := Kd.R_slice HO291.out
 (first | subst eo31 | (injection eo31 with f1_ f2_ f3_; have f4_ := f1_.symm; have f5_ := f3_.symm; clear f1_ f2_ f3_; subst f4_; subst f5_))
 obtain ⟨Ao32, co32, eo32⟩ := Kd.R_slice HO285.out
 (first | subst eo32 | (injection eo32 with f1_ f2_ f3_; have f4_ := f1_.symm; have f5_ := f3_.symm; clear f1_ f2_ f3_; subst f4_; subst f5_))
 obtain ⟨Ao33, co33, eo33⟩ := Kd.R_slice HO279.out
 (first | subst eo33 | (injection eo33 with f1_ f2_ f3_; have f4_ := f1_.symm; have f5_ := f3_.symm; clear f1_ f2_ f3_; subst f4_; subst f5_))
 try go_wp2
 refine bodyPost_ret (results_cell_row rfl _ _ gb273 36 #[.slice Ao33 y277.length co33, .slice Ao32 y283.length co32, .slice Ao31 y289.length co31, .slice Ao30 y295.length co30] (0, 0) _ rfl z12_2 Try.underlying36 rfl z12_4) rfl ?_
 exact ⟨_, _, _, _, by first | rfl | (simp [errW_none, errW_some] <;> rfl) | (simp [*, errW_none, errW_some] <;> rfl), z12_7, z12_13, z12_18, by (with_reducible repeat (first | apply Kd.R_alloc | apply Kd.R_drewN | apply Kd.R_drew)); exact HO297.out, z12_0⟩
def spec_l05Keyed.f (a0 : Int) : Option (Bool) := (spec_l01In.f a0 2 5).bind fun t298 => (some t298)
set_option maxHeartbeats 8000000 in
set_option maxRecDepth 100000 in
theorem spec_l05Keyed.calls (a0 : Int) (r : Bool) (w : World) (h : spec_l05Keyed.f a0 = some r) :
  Calls Try.prog 125 #[.int .i64 a0] w fun e w' => e = .returned (.bool r) ∧ Drawn0 w w' := by
 have H := h
 unfold spec_l05Keyed.f at H
 clear h
 replace H := Option.bind_eq_some_iff.mp H
 obtain ⟨t298, A20, H⟩ := H
 (try dsimp only at H)
 have A2 := Aside0.mk A20
 clear A20
 obtain rfl := Option.some.inj H
 go_enter Try.func125, Try.ntmps125
 go_wp2_with (first | ((with_reducible refine gate_callee (f := 102) rfl ?_); refine goesL_ (some 4) rfl rfl Try.func102 z12_4 rfl #[.int .i64 a0, .int .i64 2, .int .i64 5] rfl (by first | rfl | (simp only [List.map_toArray, List.map_cons, List.map_nil]; first | done | rfl)) ?_; (with_reducible refine (spec_l01In.calls a0 2 5 t298 _ A2.out).mono ?_); rintro e w' ⟨rfl, ⟨nd, rfl⟩⟩; refine ⟨_, rfl, ?_⟩))
 go_ret
 exact ⟨z12_21, z12_20⟩
def spec_l05Valued.f (a0 : Int) : Option (Bool) := if a0 = 1 then (some true) else (if a0 = 4 then (some true) else (some (a0 == 6)))
set_option maxHeartbeats 8000000 in
set_option maxRecDepth 100000 in
theorem spec_l05Valued.calls (a0 : Int) (r : Bool) (w : World) (h : spec_l05Valued.f a0 = some r) :
  Calls Try.prog 126 #[.int .i64 a0] w fun e w' => e = .returned (.bool r) ∧ Drawn0 w w' := by
 have H : (if a0 = 1 then (some true) else (if a0 = 4 then (some true) else (some (a0 == 6)))) = some r := h
 clear h
 by_cases c2 : a0 = 1
 ·
  rw [if_pos c2] at H
  have c2b0 : (a0 == 1) = true := beq_iff_eq.mpr c2
  have c2b1 : (a0 != 1) = false := bne_eq_false_iff_eq.mpr c2
  clear c2
  obtain rfl := Option.some.inj H
  go_enter Try.func126, Try.ntmps126
  go_wp2
  go_ret
  exact ⟨z12_21, z12_20⟩
 rw [if_neg c2] at H
 have c2b0 : (a0 == 1) = false := beq_eq_false_iff_ne.mpr c2
 have c2b1 : (a0 != 1) = true := bne_iff_ne.mpr c2
 by_cases c3 : a0 = 4
 rotate_left
 ·
  rw [if_neg c3] at H
  have c3b0 : (a0 == 4) = false := beq_eq_false_iff_ne.mpr c3
  have c3b1 : (a0 != 4) = true := bne_iff_ne.mpr c3
  obtain rfl := Option.some.inj H
  go_enter Try.func126, Try.ntmps126
  go_wp2
  go_ret
  exact ⟨z12_21, z12_20⟩
 rw [if_pos c3] at H
 have c3b0 : (a0 == 4) = true := beq_iff_eq.mpr c3
 have c3b1 : (a0 != 4) = false := bne_eq_false_iff_eq.mpr c3
 clear c3
 obtain rfl := Option.some.inj H
 go_enter Try.func126, Try.ntmps126
 go_wp2
 go_ret
 exact ⟨z12_21, z12_20⟩
end Go.Proofs.Ytbanogkoaplcdaa.QDo
