/- Parts of the proof of FnExactDoAll, one behind the other. No condition. -/
import Derived.Test.YtbanogkoaplcdaaGreatVFnExactDoAllM5
namespace Go.Proofs.YtbanogkoaplcdaaGreat.QDa
open Go.RowKit Go.Proofs.YtbanogkoaplcdaaGreat.Short Go.Proofs.YtbanogkoaplcdaaGreatW.PrintWords Go.Proofs.YtbanogkoaplcdaaGreatW.PrintLast Go.Proofs.YtbanogkoaplcdaaGreatW.PrintMore
attribute [local go_sem] max2_int min2_int max_two min_two max_three min_three max_four min_four   -- for this text's walks alone
set_option linter.unusedVariables false
set_option linter.unusedSimpArgs false
theorem z16_37 {P : Prop} (h : P := by kernel_rfl) : P := h
theorem z16_35 {P : Prop} (h : P := by repeat (first | (with_reducible first | exact HB.out | apply below_alloc | apply pw_below_drewN | apply below_drew1 | refine below_set ?_ GE354.out | refine below_set ?_ GE355.out | refine below_set ?_ GE356.out) | exact HB.out)) : P := h
theorem z16_34 {P : Prop} (h : P := by (with_reducible repeat (first | refine blk_drewN ?_ _ | refine blk_drew ?_ | refine blk_alloc ?_ _)); exact BK341.out) : P := h
theorem z16_33 {P : Prop} (h : P := by (with_reducible repeat (first | refine blk_drewN ?_ _ | refine blk_drew ?_ | refine blk_alloc ?_ _)); exact BK352.out) : P := h
theorem z16_32 {P : Prop} (h : P := by (with_reducible repeat (first | refine blk_drewN ?_ _ | refine blk_drew ?_ | refine blk_alloc ?_ _)); exact BK355.out) : P := h
theorem z16_31 {P : Prop} (h : P := by (with_reducible repeat (first | refine blk_drewN ?_ _ | refine blk_drew ?_ | refine blk_alloc ?_ _)); exact BK371.out) : P := h
theorem z16_30 {P : Prop} (h : P := by first | rfl | (simp; done) | (simp [*]; done)) : P := h
theorem z16_29 {P : Prop} (h : P := by repeat (first | (with_reducible first | exact HB.out | apply below_alloc | apply pw_below_drewN | apply below_drew1 | refine below_set ?_ GE340.out) | exact HB.out)) : P := h
theorem z16_28 {P : Prop} (h : P := by repeat (first | (with_reducible first | exact HB.out | apply below_alloc | apply pw_below_drewN | apply below_drew1 | refine below_set ?_ GE351.out) | exact HB.out)) : P := h
theorem z16_27 {P : Prop} (h : P := by repeat (first | (with_reducible first | exact HB.out | apply below_alloc | apply pw_below_drewN | apply below_drew1 | refine below_set ?_ GE354.out) | exact HB.out)) : P := h
theorem z16_26 {P : Prop} (h : P := by repeat (first | (with_reducible first | exact HB.out | apply below_alloc | apply pw_below_drewN | apply below_drew1 | refine below_set ?_ GE370.out) | exact HB.out)) : P := h
theorem z16_25 {P : Prop} (h : P := by repeat (first | (with_reducible first | exact HB.out | apply below_alloc | apply pw_below_drewN | apply below_drew1 | refine below_set ?_ GE390.out) | exact HB.out)) : P := h
theorem z16_24 {P : Prop} (h : P := by repeat (first | (with_reducible first | exact HB.out | apply below_alloc | apply pw_below_drewN | apply below_drew1 | refine below_set ?_ GE405.out) | exact HB.out)) : P := h
theorem z16_23 {P : Prop} (h : P := by (with_reducible repeat (first | refine blk_drewN ?_ _ | refine blk_drew ?_ | refine blk_alloc ?_ _)); exact BK391.out) : P := h
theorem z16_22 {P : Prop} (h : P := by (with_reducible repeat (first | refine blk_drewN ?_ _ | refine blk_drew ?_ | refine blk_alloc ?_ _)); exact BK406.out) : P := h
theorem z16_21 {P : Prop} (h : P := by repeat (first | (with_reducible first | exact HB.out | apply below_alloc | apply pw_below_drewN | apply below_drew1 | refine below_set ?_ GE340.out | refine below_set ?_ GE341.out) | exact HB.out)) : P := h
theorem z16_20 {P : Prop} (h : P := by repeat (first | (with_reducible first | exact HB.out | apply below_alloc | apply pw_below_drewN | apply below_drew1 | refine below_set ?_ GE351.out | refine below_set ?_ GE352.out) | exact HB.out)) : P := h
theorem z16_19 {P : Prop} (h : P := by repeat (first | (with_reducible first | exact HB.out | apply below_alloc | apply pw_below_drewN | apply below_drew1 | refine below_set ?_ GE354.out | refine below_set ?_ GE355.out) | exact HB.out)) : P := h
theorem z16_18 {P : Prop} (h : P := by repeat (first | (with_reducible first | exact HB.out | apply below_alloc | apply pw_below_drewN | apply below_drew1 | refine below_set ?_ GE370.out | refine below_set ?_ GE371.out) | exact HB.out)) : P := h
theorem z16_17 {P : Prop} (h : P := by repeat (first | (with_reducible first | exact HB.out | apply below_alloc | apply pw_below_drewN | apply below_drew1 | refine below_set ?_ GE390.out | refine below_set ?_ GE391.out) | exact HB.out)) : P := h
theorem z16_16 {P : Prop} (h : P := by repeat (first | (with_reducible first | exact HB.out | apply below_alloc | apply pw_below_drewN | apply below_drew1 | refine below_set ?_ GE405.out | refine below_set ?_ GE406.out) | exact HB.out)) : P := h
theorem z16_15 {P : Prop} (h : P := by repeat (first | (with_reducible first | exact HB.out | apply below_alloc | apply pw_below_drewN | apply below_drew1 | refine below_set ?_ GE370.out | refine below_set ?_ GE371.out | refine below_set ?_ GE372.out) | exact HB.out)) : P := h
theorem z16_14 {P : Prop} (h : P := by (with_reducible repeat (first | apply blk_far (hp := NB390_392.out) | refine blk_drewN ?_ _ | refine blk_drew ?_ | refine blk_alloc ?_ _)); exact BK390.out) : P := h
theorem z16_13 {P : Prop} (h : P := by (with_reducible repeat (first | apply blk_far (hp := NB391_392.out) | refine blk_drewN ?_ _ | refine blk_drew ?_ | refine blk_alloc ?_ _)); exact BK391.out) : P := h
theorem z16_12 {P : Prop} (h : P := by (with_reducible repeat (first | refine blk_drewN ?_ _ | refine blk_drew ?_ | refine blk_alloc ?_ _)); exact BK340.out) : P := h
theorem z16_11 {P : Prop} (h : P := by (with_reducible repeat (first | refine blk_drewN ?_ _ | refine blk_drew ?_ | refine blk_alloc ?_ _)); exact BK351.out) : P := h
theorem z16_10 {P : Prop} (h : P := by (with_reducible repeat (first | refine blk_drewN ?_ _ | refine blk_drew ?_ | refine blk_alloc ?_ _)); exact BK354.out) : P := h
theorem z16_9 {P : Prop} (h : P := by (with_reducible repeat (first | refine blk_drewN ?_ _ | refine blk_drew ?_ | refine blk_alloc ?_ _)); exact BK370.out) : P := h
theorem z16_8 {P : Prop} (h : P := by (with_reducible repeat (first | refine blk_drewN ?_ _ | refine blk_drew ?_ | refine blk_alloc ?_ _)); exact BK390.out) : P := h
theorem z16_7 {P : Prop} (h : P := by (with_reducible repeat (first | refine blk_drewN ?_ _ | refine blk_drew ?_ | refine blk_alloc ?_ _)); exact BK405.out) : P := h
theorem z16_6 {P : Prop} (h : P := by first | rfl | (simp [errW_none, errW_some] <;> rfl) | (simp [*, errW_none, errW_some] <;> rfl)) : P := h
theorem z16_5 {P : Prop} (h : P := by (with_reducible repeat (first | apply Kd.R_alloc | apply Kd.R_drewN | apply Kd.R_drew)); exact HO_3.out) : P := h
theorem z16_4 {P : Prop} (h : P := by repeat (first | (with_reducible first | exact HB.out | apply below_alloc | apply pw_below_drewN | apply below_drew1 | refine below_set ?_ GE405.out | refine below_set ?_ GE406.out | refine below_set ?_ GE407.out) | exact HB.out)) : P := h
theorem z16_3 {P : Prop} (h : P := by first | rfl | (simp only [List.map_toArray, List.map_cons, List.map_nil]; first | done | rfl)) : P := h
theorem z16_2 {P : Prop} (h : P := by first | (with_reducible assumption) | assumption) : P := h
theorem z16_1 {P : Prop} (h : P := by repeat (first | (with_reducible first | exact HB.out | apply below_alloc | apply pw_below_drewN | apply below_drew1 | refine below_set ?_ GE390.out | refine below_set ?_ GE391.out | refine below_set ?_ GE392.out) | exact HB.out)) : P := h
theorem z16_0 {P : Prop} (h : P := by repeat (first | (with_reducible first | exact HB.out | apply below_alloc | apply pw_below_drewN | apply below_drew1) | exact HB.out)) : P := h
def laws_toTally.f (a0_0 : ByteArray) (a0_1 : Int) (a0_2 : Int) : Option (ByteArray × Int × Int) := some (a0_0, a0_1, a0_2)
set_option maxHeartbeats 8000000 in
set_option maxRecDepth 100000 in
theorem laws_toTally.calls (a0_0 : ByteArray) (a0_1 : Int) (a0_2 : Int) (r1 : ByteArray) (r2 : Int) (r3 : Int) (w : World) (h : laws_toTally.f a0_0 a0_1 a0_2 = some (r1, r2, r3)) :
  Calls Tryz.prog 52 #[.agg #[.string a0_0, .int .i64 a0_1, .int .i64 a0_2]] w fun e w' => e = .returned (.agg #[.string r1, .int .i64 r2, .int .i64 r3]) ∧ Below w.heap.size w w' := by
 have hu77 := Tryz.underlying77
 have hu90 := Tryz.underlying90
 have HB := Aside0.mk (Below.refl w.heap.size w)
 have H : (some (a0_0, a0_1, a0_2)) = some (r1, r2, r3) := h
 clear h
 simp only [Option.some.injEq, Prod.mk.injEq] at H
 obtain ⟨rfl, rfl, rfl⟩ := H
 go_enter Tryz.func52, Tryz.ntmps52
 go_wp2_with (first | ((with_reducible refine gate_dst (N := 1) rfl ?_); refine box_event ?hg (N := 1) ?hd (cs := #[.string a0_0, .int .i64 a0_1, .int .i64 a0_2]) (t := 77) ?hr ?_; (case hd => rfl); (case hg => rfl); (case hr => first | (go_simp; done) | (go_simp; rfl)); intro gb340 hg w2 hbox hb; have BK340 := Aside0.mk (hbox); have GW340 := gw_ w z16_0 hg; have GE340 := gw_ w z16_0 hg; replace HB := Aside0.mk (below_step z16_0 hb); clear hb hbox hg) | ((with_reducible refine gate_dst (N := 2) rfl ?_); refine box_event ?hg (N := 2) ?hd (cs := #[.string (⟨#[]⟩ : ByteArray), .int .i64 0, .int .i64 0]) (t := 90) ?hr ?_; (case hd => rfl); (case hg => rfl); (case hr => first | (go_simp; done) | (go_simp; rfl)); intro gb341 hg w3 hbox hb; have BK341 := Aside0.mk (hbox); have GW341 := gw_ w z16_29 hg; have GE341 := gw_ w z16_29 hg; replace HB := Aside0.mk (below_step z16_29 hb); have NB340_341 := nb_ BK340 z16_12 hg; have NB341_340 := nc_ BK340 z16_12 hg; replace BK340 := bb_ BK340 z16_12 hb; clear hb hbox hg) | ((with_reducible refine gate_dst (N := 3) rfl ?_); refine box_event ?hg (N := 3) ?hd (cs := #[.string (⟨#[]⟩ : ByteArray), .int .i64 0, .int .i64 0]) (t := 90) ?hr ?_; (case hd => rfl); (case hg => rfl); (case hr => first | (go_simp; done) | (go_simp; rfl)); intro gb342 hg w4 hbox hb; have BK342 := Aside0.mk (hbox); have GW342 := gw_ w z16_21 hg; have GE342 := gw_ w z16_21 hg; replace HB := Aside0.mk (below_step z16_21 hb); have NB340_342 := nb_ BK340 z16_12 hg; have NB342_340 := nc_ BK340 z16_12 hg; replace BK340 := bb_ BK340 z16_12 hb; have NB341_342 := nb_ BK341 z16_34 hg; have NB342_341 := nc_ BK341 z16_34 hg; replace BK341 := bb_ BK341 z16_34 hb; clear hb hbox hg; have hnb5 := NB340_341.out; have hnc5 := NB341_340.out; have hnb6 := NB340_342.out; have hnc6 := NB342_340.out; have hcz7 := bc3 BK340.out; have hnb8 := NB342_341.out; have hnc8 := NB341_342.out; have hcz9 := bc3 BK342.out; have hcz10 := bc3 BK341.out))
 refine bodyPost_ret (results_cell_row rfl _ _ gb341 90 #[.string a0_0, .int .i64 a0_1, .int .i64 a0_2] (0, 0) _ rfl (by (with_reducible repeat (first | apply bpa3 | apply blk_far (hp := NB341_342.out) | refine blk_drewN ?_ _ | refine blk_drew ?_ | refine blk_alloc ?_ _)); exact BK341.out) Tryz.underlying90 rfl z16_37) rfl ?_
 exact ⟨z16_6, by repeat (first | (with_reducible first | exact HB.out | apply below_alloc | apply pw_below_drewN | apply below_drew1 | refine below_set ?_ GE340.out | refine below_set ?_ GE341.out | refine below_set ?_ GE342.out) | exact HB.out)⟩
def laws_toTallyS.l0 : Nat → List (S77) → List (S90) → Int → Option ((List (S90)))
  | 0, _, _, _ => none
  | k + 1, x0, x3, x4 => if x4 < (x0.length : Int) then (if 0 ≤ x4 then ((laws_toTally.f ((rd_T77 x0 x4).f0) ((rd_T77 x0 x4).f1) ((rd_T77 x0 x4).f2)).bind fun bt347 => (if x4 < (x3.length : Int) then (laws_toTallyS.l0 k x0 (x3.set (x4 : Int).toNat (⟨bt347.1, bt347.2.1, bt347.2.2⟩ : S90)) (wrap64 (x4 + 1))) else (none))) else (none)) else (some x3)
def laws_toTallyS.f (k : Nat) (l0 : List (S77)) : Option ((List (S90))) := if 0 ≤ (l0.length : Int) then (if ((l0.length : Int) : Int).toNat ≤ 8796093022208 then (laws_toTallyS.l0 k l0 (List.replicate ((l0.length : Int) : Int).toNat z90) 0) else (none)) else (none)
set_option maxHeartbeats 8000000 in
set_option maxRecDepth 100000 in
theorem laws_toTallyS.calls (k : Nat) (A0 : Option Addr) (c0 : Nat) (l0 : List (S77)) (r : List (S90)) (w : World) (hr0 : Kd.C k77 w A0 l0.length l0) (hc0 : l0.length ≤ c0) (h : laws_toTallyS.f k l0 = some r) :
  Calls Tryz.prog 26 #[.slice A0 l0.length c0] w fun e w' => ∃ v0_ : Value, e = .returned (v0_) ∧ Kd.R k90 90 w' w.heap.size (fun _ => True) v0_ r ∧ Below w.heap.size w w' := by
 have hu77 := Tryz.underlying77
 have hu90 := Tryz.underlying90
 have HR0 := Aside0.mk hr0
 have HC0 := Aside0.mk hc0
 clear hr0 hc0
 have HB := Aside0.mk (Below.refl w.heap.size w)
 have H := h
 unfold laws_toTallyS.f at H
 clear h
 by_cases c2 : 0 ≤ (l0.length : Int)
 rotate_left
 ·
  rw [if_neg c2] at H
  exact absurd H (by simp)
 rw [if_pos c2] at H
 have c2b0 := eq_true c2
 have c2b1 : decide (0 ≤ (l0.length : Int)) = true := decide_eq_true c2
 clear c2
 by_cases c3 : ((l0.length : Int) : Int).toNat ≤ 8796093022208
 rotate_left
 ·
  rw [if_neg c3] at H
  exact absurd H (by simp)
 rw [if_pos c3] at H
 have c3b0 := eq_true c3
 have c3b1 : decide (((l0.length : Int) : Int).toNat ≤ 8796093022208) = true := decide_eq_true c3
 clear c3
 obtain ⟨y343, hy343⟩ : ∃ y_ : List (S90), y_ = (List.replicate ((l0.length : Int) : Int).toNat z90) := ⟨_, rfl⟩
 replace H : (laws_toTallyS.l0 k l0 y343 0) = some r := by first | (rw [hy343]; with_reducible exact H) | (have H2_ := (Option.bind_some _ _).symm.trans H; rw [hy343]; with_reducible exact H2_) | (have H2_ := (Option.bind_some _ _).symm.trans H; with_reducible exact H2_) | with_reducible exact H | (rw [hy343]; exact H) | exact H
 have Ny343 := Aside0.mk hy343
 clear hy343
 have H' := Aside0.mk H
 clear H
 go_enter Tryz.func26, Tryz.ntmps26
 go_wp2_with (first | ((with_reducible refine gate_dst (N := 7) rfl ?_); refine Kd.R_make k90 _ 90 rfl (N := 7) rfl 31 _ _ rfl (l0.length : Int) rfl rfl Tryz.underlying31 (.agg #[(.string ⟨#[]⟩), (.int .i64 0), (.int .i64 0)]) 32 info90 rfl (by decide) (by omega) z90 (ok := fun _ => True) (okp := fun _ => True) (k90_mkM _ _ _ z90 ) (fun _ hk => hk) trivial (of_decide_eq_true z16_2) (Nat.le_trans (Nat.mul_le_mul_right _ (of_decide_eq_true z16_2 : (l0.length : Int).toNat ≤ 8796093022208)) (by omega)) (Below.refl _ _) (Nat.le_refl _) ?_; intro v344 w4 ho5 hb hg_ hnew_; clear hg_ hnew_; (first | rw [← Ny343.out] at ho5 | (simp only [Int.reduceToNat] at ho5; rw [← Ny343.out] at ho5)); have HO345 := Aside0.mk (Kd.R_lower ho5 (below_size z16_0)); replace HB := Aside0.mk (below_step z16_0 hb); clear hb ho5))
 go_loopg [4] k (fun kq v4 w' => ∃ (x3_1 : List (S90)) (x4_1 : Int), v4 = .int .i64 x4_1 ∧ Aside0 (laws_toTallyS.l0 kq l0 x3_1 x4_1 = some r) ∧ Aside0 (kq ≤ k) ∧ Aside0 (Kd.R k90 90 w' w.heap.size (fun _ => True) v344 x3_1) ∧ Aside0 (Below w.heap.size w w'))
 case atStart => exact ⟨(y343), (0), z16_30, H', ⟨Nat.le_refl _⟩, ⟨by (with_reducible repeat (first | apply Kd.R_alloc | apply Kd.R_drewN | apply Kd.R_drew)); exact HO345.out⟩, ⟨z16_0⟩⟩
 case round =>
  clear H'
  try clear c2
  try clear c2b0
  try clear c2b1
  try clear p2
  try clear c3
  try clear c3b0
  try clear c3b1
  obtain ⟨x3_1, x4_1, rfl, HA, HK1, HO_3, HB⟩ := hrel
  cases gk with
  | zero => exact absurd HA.out (by simp [laws_toTallyS.l0])
  | succ k1 =>
   have H := HA.out
   clear HA
   simp only [laws_toTallyS.l0] at H
   by_cases c6 : x4_1 < (l0.length : Int)
   rotate_left
   ·
    rw [if_neg c6] at H
    have c6b0 : decide (x4_1 < (l0.length : Int)) = false := decide_eq_false c6
    clear c6
    obtain rfl := Option.some.inj H
    go_wp2
    go_ret
    exact ⟨_, z16_6, z16_5, z16_0⟩
   rw [if_pos c6] at H
   have c6b0 : decide (x4_1 < (l0.length : Int)) = true := decide_eq_true c6
   clear c6
   by_cases c7 : 0 ≤ x4_1
   rotate_left
   ·
    rw [if_neg c7] at H
    exact absurd H (by simp)
   rw [if_pos c7] at H
   have c7b0 : decide (0 ≤ x4_1) = true := decide_eq_true c7
   clear c7
   replace H := Option.bind_eq_some_iff.mp H
   obtain ⟨⟨t347, t348, t349⟩, A80, H⟩ := H
   (try dsimp only at H)
   have A8 := Aside0.mk A80
   clear A80
   by_cases c9 : x4_1 < (x3_1.length : Int)
   rotate_left
   ·
    rw [if_neg c9] at H
    exact absurd H (by simp)
   rw [if_pos c9] at H
   have c9b0 : decide (x4_1 < (x3_1.length : Int)) = true := decide_eq_true c9
   clear c9
   obtain ⟨y350, hy350⟩ : ∃ y_ : List (S90), y_ = (x3_1.set (x4_1 : Int).toNat (⟨t347, t348, t349⟩ : S90)) := ⟨_, rfl⟩
   replace H : (laws_toTallyS.l0 k1 l0 y350 (wrap64 (x4_1 + 1))) = some r := by first | (rw [hy350]; with_reducible exact H) | (have H2_ := (Option.bind_some _ _).symm.trans H; rw [hy350]; with_reducible exact H2_) | (have H2_ := (Option.bind_some _ _).symm.trans H; with_reducible exact H2_) | with_reducible exact H | (rw [hy350]; exact H) | exact H
   have Ny350 := Aside0.mk hy350
   clear hy350
   have H' := Aside0.mk H
   clear H
   have p346 : 0 ≤ (x4_1 : Int) := of_decide_eq_true z16_2
   have q346 : x4_1 < (l0.length : Int) := of_decide_eq_true z16_2
   obtain ⟨ad346, e346, hx346_0, hx346_1, hx346_2⟩ := at_T77 HR0.out x4_1 p346 q346
   cases e346
   replace hx346_0 := cb_ HB hx346_0
   replace hx346_1 := cb_ HB hx346_1
   replace hx346_2 := cb_ HB hx346_2
   replace p346 := eq_true p346
   replace q346 := eq_true q346
   go_wp2_with (first | ((with_reducible refine gate_callee (f := 52) rfl ?_); refine goesL_ (some 20) rfl rfl Tryz.func52 z16_37 rfl #[.agg #[.string ((rd_T77 l0 x4_1).f0), .int .i64 ((rd_T77 l0 x4_1).f1), .int .i64 ((rd_T77 l0 x4_1).f2)]] rfl z16_3 ?_; (with_reducible refine (laws_toTally.calls ((rd_T77 l0 x4_1).f0) ((rd_T77 l0 x4_1).f1) ((rd_T77 l0 x4_1).f2) t347 t348 t349 _ A8.out).mono ?_); rintro e w11 ⟨rfl, hb⟩; refine ⟨_, rfl, ?_⟩; replace HO_3 := Aside0.mk (Kd.R_below z16_5 hb); replace HB := Aside0.mk (below_step z16_0 hb); have p10 : 0 ≤ (x4_1 : Int) := of_decide_eq_true z16_2; have q10 : (x4_1 : Int) < ((x3_1.length : Int) : Int) := of_decide_eq_true z16_2; obtain ⟨go10, co10, eo10, gb10, gl10, cl10, HG10⟩ := Kd.R_form HO_3.out (by omega); (first | cases eo10 | (injection eo10 with ea_ en_ ec_; (first | subst ea_ | (injection ea_ with ea_; subst ea_)); subst ec_; clear en_)); have GB10 := Aside0.mk gb10; have GG10 := Aside0.mk HG10; clear gb10 gl10 HG10; obtain ⟨ce10, hcl10, hM10, hcc10, hfr10⟩ := Kd.R_elem HO_3.out z90 (x4_1 : Int) p10 q10; obtain rfl := k90_openM hM10; clear hcl10 hcc10 hfr10 hM10; replace p10 := eq_true p10; replace q10 := eq_true q10; have HX12 := Aside0.mk (show Kd.R k90 90 w11 w.heap.size (fun _ => True) (.slice (some ⟨go10, 0, none⟩) x3_1.length co10) x3_1 from z16_5); obtain ⟨ce12, hcl12, hM12, hcc12, hfr12⟩ := Kd.R_elem HX12.out z90 (x4_1 : Int) (of_decide_eq_true z16_2) (by have h_ : (x4_1 : Int) < ((x3_1.length : Int) : Int) := of_decide_eq_true z16_2; first | exact h_ | (have e_ := (Kd.R_reads' HO_3.out).1; omega) | simpa using h_); obtain rfl := k90_openM hM12; have HP12 := Kd.R_seg HX12.out (x4_1 : Int) (of_decide_eq_true z16_2) (by have h_ : (x4_1 : Int) < ((x3_1.length : Int) : Int) := of_decide_eq_true z16_2; first | exact h_ | (have e_ := (Kd.R_reads' HO_3.out).1; omega) | simpa using h_) (seg := [.string t347, .int .i64 t348, .int .i64 t349]) (j := 0) hcl12 hcc12 (show 3 ≤ 3 from by decide) (x' := (⟨t347, t348, t349⟩ : S90)) (k90_mkM _ _ _ (⟨t347, t348, t349⟩ : S90) ) (fun _ hk => hk); have hx12_0 := hcc12 0 _ rfl; (try simp only [show (k90).sz = 3 from rfl, Nat.mul_one, Nat.add_zero] at hx12_0); have hf12_0 := hfr12 0; (try simp only [show (k90).sz = 3 from rfl, Nat.mul_one, Nat.add_zero] at hf12_0); have hx12_1 := hcc12 1 _ rfl; (try simp only [show (k90).sz = 3 from rfl, Nat.mul_one, Nat.add_zero] at hx12_1); have hf12_1 := hfr12 1; (try simp only [show (k90).sz = 3 from rfl, Nat.mul_one, Nat.add_zero] at hf12_1); have hx12_2 := hcc12 2 _ rfl; (try simp only [show (k90).sz = 3 from rfl, Nat.mul_one, Nat.add_zero] at hx12_2); have hf12_2 := hfr12 2; (try simp only [show (k90).sz = 3 from rfl, Nat.mul_one, Nat.add_zero] at hf12_2); clear hcl12 hcc12 hfr12 hM12) | ((with_reducible refine gate_store (t := 90) (p := 21) rfl ?_); refine store_event (t := 90) (p := 21) (v := ?vo_w13) (w1 := (((w11.setCell ⟨go10, (x4_1 : Int).toNat * 3, none⟩ (.string t347)).setCell ⟨go10, (x4_1 : Int).toNat * 3 + 1, none⟩ (.int .i64 t348)).setCell ⟨go10, (x4_1 : Int).toNat * 3 + 2, none⟩ (.int .i64 t349))) ?hg ?ho ?hn ?hr ?_; (case ho => rfl); (case hg => rfl); (case hn => rfl); (case hr => first | (go_simp; done) | (go_simp; rfl)); intro w13 hw; have hg : w11.grownBy w13 (some go10) := (by rw [hw]; exact HP12.2); have hp_ : Kd.R k90 90 w13 w.heap.size (fun _ => True) (.slice (some ⟨go10, 0, none⟩) x3_1.length co10) y350 := (by rw [hw, Ny350.out]; exact HP12.1); clear HP12; replace HO_3 := Aside0.mk (hp_); replace HB := Aside0.mk ((by rw [hw]; exact below_set (below_set (below_set (HB.out) GB10.out) GB10.out) GB10.out : Below w.heap.size w w13)); clear hg hw hp_))
   go_roundg k1
   case measure => have := HK1.out; omega
   case rel => exact ⟨(y350), (wrap64 (x4_1 + 1)), z16_30, H', ⟨by have := HK1.out; omega⟩, ⟨z16_5⟩, ⟨z16_0⟩⟩
def laws_toDot.f (a0_0 : Int) (a0_1 : Int) : Option (Int × Int) := some (a0_0, a0_1)
set_option maxHeartbeats 8000000 in
set_option maxRecDepth 100000 in
theorem laws_toDot.calls (a0_0 : Int) (a0_1 : Int) (r1 : Int) (r2 : Int) (w : World) (h : laws_toDot.f a0_0 a0_1 = some (r1, r2)) :
  Calls Tryz.prog 55 #[.agg #[.int .i64 a0_0, .int .i64 a0_1]] w fun e w' => e = .returned (.agg #[.int .i64 r1, .int .i64 r2]) ∧ Below w.heap.size w w' := by
 have hu53 := Tryz.underlying53
 have hu59 := Tryz.underlying59
 have HB := Aside0.mk (Below.refl w.heap.size w)
 have H : (some (a0_0, a0_1)) = some (r1, r2) := h
 clear h
 simp only [Option.some.injEq, Prod.mk.injEq] at H
 obtain ⟨rfl, rfl⟩ := H
 go_enter Tryz.func55, Tryz.ntmps55
 go_wp2_with (first | ((with_reducible refine gate_dst (N := 1) rfl ?_); refine box_event ?hg (N := 1) ?hd (cs := #[.int .i64 a0_0, .int .i64 a0_1]) (t := 53) ?hr ?_; (case hd => rfl); (case hg => rfl); (case hr => first | (go_simp; done) | (go_simp; rfl)); intro gb351 hg w2 hbox hb; have BK351 := Aside0.mk (hbox); have GW351 := gw_ w z16_0 hg; have GE351 := gw_ w z16_0 hg; replace HB := Aside0.mk (below_step z16_0 hb); clear hb hbox hg) | ((with_reducible refine gate_dst (N := 2) rfl ?_); refine box_event ?hg (N := 2) ?hd (cs := #[.int .i64 0, .int .i64 0]) (t := 59) ?hr ?_; (case hd => rfl); (case hg => rfl); (case hr => first | (go_simp; done) | (go_simp; rfl)); intro gb352 hg w3 hbox hb; have BK352 := Aside0.mk (hbox); have GW352 := gw_ w z16_28 hg; have GE352 := gw_ w z16_28 hg; replace HB := Aside0.mk (below_step z16_28 hb); have NB351_352 := nb_ BK351 z16_11 hg; have NB352_351 := nc_ BK351 z16_11 hg; replace BK351 := bb_ BK351 z16_11 hb; clear hb hbox hg) | ((with_reducible refine gate_dst (N := 3) rfl ?_); refine box_event ?hg (N := 3) ?hd (cs := #[.int .i64 0, .int .i64 0]) (t := 59) ?hr ?_; (case hd => rfl); (case hg => rfl); (case hr => first | (go_simp; done) | (go_simp; rfl)); intro gb353 hg w4 hbox hb; have BK353 := Aside0.mk (hbox); have GW353 := gw_ w z16_20 hg; have GE353 := gw_ w z16_20 hg; replace HB := Aside0.mk (below_step z16_20 hb); have NB351_353 := nb_ BK351 z16_11 hg; have NB353_351 := nc_ BK351 z16_11 hg; replace BK351 := bb_ BK351 z16_11 hb; have NB352_353 := nb_ BK352 z16_33 hg; have NB353_352 := nc_ BK352 z16_33 hg; replace BK352 := bb_ BK352 z16_33 hb; clear hb hbox hg; have hnb5 := NB351_352.out; have hnc5 := NB352_351.out; have hnb6 := NB351_353.out; have hnc6 := NB353_351.out; have hcz7 := bc2 BK351.out; have hnb8 := NB353_352.out; have hnc8 := NB352_353.out; have hcz9 := bc2 BK353.out; have hcz10 := bc2 BK352.out))
 refine bodyPost_ret (results_cell_row rfl _ _ gb352 59 #[.int .i64 a0_0, .int .i64 a0_1] (0, 0) _ rfl (by (with_reducible repeat (first | apply bpa2 | apply blk_far (hp := NB352_353.out) | refine blk_drewN ?_ _ | refine blk_drew ?_ | refine blk_alloc ?_ _)); exact BK352.out) Tryz.underlying59 rfl z16_37) rfl ?_
 exact ⟨z16_6, by repeat (first | (with_reducible first | exact HB.out | apply below_alloc | apply pw_below_drewN | apply below_drew1 | refine below_set ?_ GE351.out | refine below_set ?_ GE352.out | refine below_set ?_ GE353.out) | exact HB.out)⟩
def laws_toLive.f (a0_0 : Bool) (a0_1 : ByteArray) (a0_2 : ByteArray) (a0_3 : Int) (a0_4 : Int) (a0_5 : Int) : Option (Bool × ByteArray × ByteArray × Int × Int × Int) := (laws_toDot.f a0_4 a0_5).bind fun bt357 => (some (a0_0, a0_1, a0_2, a0_3, bt357.1, bt357.2))
set_option maxHeartbeats 8000000 in
set_option maxRecDepth 100000 in
theorem laws_toLive.calls (a0_0 : Bool) (a0_1 : ByteArray) (a0_2 : ByteArray) (a0_3 : Int) (a0_4 : Int) (a0_5 : Int) (r1 : Bool) (r2 : ByteArray) (r3 : ByteArray) (r4 : Int) (r5 : Int) (r6 : Int) (w : World) (h : laws_toLive.f a0_0 a0_1 a0_2 a0_3 a0_4 a0_5 = some (r1, r2, r3, r4, r5, r6)) :
  Calls Tryz.prog 53 #[.agg #[.bool a0_0, .string a0_1, .string a0_2, .int .i64 a0_3, .int .i64 a0_4, .int .i64 a0_5]] w fun e w' => e = .returned (.agg #[.bool r1, .string r2, .string r3, .int .i64 r4, .int .i64 r5, .int .i64 r6]) ∧ Below w.heap.size w w' := by
 have hu80 := Tryz.underlying80
 have hu93 := Tryz.underlying93
 have hu53 := Tryz.underlying53
 have hu59 := Tryz.underlying59
 have HB := Aside0.mk (Below.refl w.heap.size w)
 have H := h
 unfold laws_toLive.f at H
 clear h
 replace H := Option.bind_eq_some_iff.mp H
 obtain ⟨⟨t357, t358⟩, A20, H⟩ := H
 (try dsimp only at H)
 have A2 := Aside0.mk A20
 clear A20
 simp only [Option.some.injEq, Prod.mk.injEq] at H
 obtain ⟨rfl, rfl, rfl, rfl, rfl, rfl⟩ := H
 go_enter Tryz.func53, Tryz.ntmps53
 go_wp2_with (first | ((with_reducible refine gate_dst (N := 1) rfl ?_); refine box_event ?hg (N := 1) ?hd (cs := #[.bool a0_0, .string a0_1, .string a0_2, .int .i64 a0_3, .int .i64 a0_4, .int .i64 a0_5]) (t := 80) ?hr ?_; (case hd => rfl); (case hg => rfl); (case hr => first | (go_simp; done) | (go_simp; rfl)); intro gb354 hg w3 hbox hb; have BK354 := Aside0.mk (hbox); have GW354 := gw_ w z16_0 hg; have GE354 := gw_ w z16_0 hg; replace HB := Aside0.mk (below_step z16_0 hb); clear hb hbox hg) | ((with_reducible refine gate_dst (N := 2) rfl ?_); refine box_event ?hg (N := 2) ?hd (cs := #[.bool false, .string (⟨#[]⟩ : ByteArray), .string (⟨#[]⟩ : ByteArray), .int .i64 0, .int .i64 0, .int .i64 0]) (t := 93) ?hr ?_; (case hd => rfl); (case hg => rfl); (case hr => first | (go_simp; done) | (go_simp; rfl)); intro gb355 hg w4 hbox hb; have BK355 := Aside0.mk (hbox); have GW355 := gw_ w z16_27 hg; have GE355 := gw_ w z16_27 hg; replace HB := Aside0.mk (below_step z16_27 hb); have NB354_355 := nb_ BK354 z16_10 hg; have NB355_354 := nc_ BK354 z16_10 hg; replace BK354 := bb_ BK354 z16_10 hb; clear hb hbox hg) | ((with_reducible refine gate_dst (N := 3) rfl ?_); refine box_event ?hg (N := 3) ?hd (cs := #[.bool false, .string (⟨#[]⟩ : ByteArray), .string (⟨#[]⟩ : ByteArray), .int .i64 0, .int .i64 0, .int .i64 0]) (t := 93) ?hr ?_; (case hd => rfl); (case hg => rfl); (case hr => first | (go_simp; done) | (go_simp; rfl)); intro gb356 hg w5 hbox hb; have BK356 := Aside0.mk (hbox); have GW356 := gw_ w z16_19 hg; have GE356 := gw_ w z16_19 hg; replace HB := Aside0.mk (below_step z16_19 hb); have NB354_356 := nb_ BK354 z16_10 hg; have NB356_354 := nc_ BK354 z16_10 hg; replace BK354 := bb_ BK354 z16_10 hb; have NB355_356 := nb_ BK355 z16_32 hg; have NB356_355 := nc_ BK355 z16_32 hg; replace BK355 := bb_ BK355 z16_32 hb; clear hb hbox hg; have hnb6 := NB354_355.out; have hnc6 := NB355_354.out; have hnb7 := NB354_356.out; have hnc7 := NB356_354.out; have hcz8 := bc6 BK354.out; have hnb9 := NB356_355.out; have hnc9 := NB355_356.out; have hcz10 := bc6 BK356.out) | ((with_reducible refine gate_callee (f := 55) rfl ?_); refine goesL_ (some 18) rfl rfl Tryz.func55 z16_37 rfl #[.agg #[.int .i64 a0_4, .int .i64 a0_5]] rfl z16_3 ?_; (with_reducible refine (laws_toDot.calls a0_4 a0_5 t357 t358 _ A2.out).mono ?_); rintro e w11 ⟨rfl, hb⟩; refine ⟨_, rfl, ?_⟩; replace BK354 := bb_ BK354 (by (with_reducible repeat (first | apply blk_far (hp := NB354_356.out) | refine blk_drewN ?_ _ | refine blk_drew ?_ | refine blk_alloc ?_ _)); exact BK354.out) hb; replace BK355 := bb_ BK355 (by (with_reducible repeat (first | apply blk_far (hp := NB355_356.out) | refine blk_drewN ?_ _ | refine blk_drew ?_ | refine blk_alloc ?_ _)); exact BK355.out) hb; replace BK356 := Aside0.mk (blk_below (g := gb356) (o := .cells #[.bool a0_0, .string a0_1, .string a0_2, .int .i64 a0_3, .int .i64 0, .int .i64 0] 93 (0, 0)) (by (with_reducible repeat (first | apply bp6_3 | apply bp6_2 | apply bp6_1 | apply bp6_0 | refine blk_drewN ?_ _ | refine blk_drew ?_ | refine blk_alloc ?_ _)); exact BK356.out) hb); replace HB := Aside0.mk (below_step z16_35 hb); have hcz12 := bc6 BK356.out; have hcz13 := bc6 BK355.out))
 refine bodyPost_ret (results_cell_row rfl _ _ gb355 93 #[.bool a0_0, .string a0_1, .string a0_2, .int .i64 a0_3, .int .i64 t357, .int .i64 t358] (0, 0) _ rfl (by (with_reducible repeat (first | apply bpa6 | apply blk_far (hp := NB355_356.out) | refine blk_drewN ?_ _ | refine blk_drew ?_ | refine blk_alloc ?_ _)); exact BK355.out) Tryz.underlying93 rfl z16_37) rfl ?_
 exact ⟨z16_6, z16_35⟩
def laws_toLiveS.l0 : Nat → List (S80) → List (S93) → Int → Option ((List (S93)))
  | 0, _, _, _ => none
  | k + 1, x0, x3, x4 => if x4 < (x0.length : Int) then (if 0 ≤ x4 then ((laws_toLive.f ((rd_T80 x0 x4).f0) ((rd_T80 x0 x4).f1) ((rd_T80 x0 x4).f2) ((rd_T80 x0 x4).f3) ((rd_T80 x0 x4).f4.f0) ((rd_T80 x0 x4).f4.f1)).bind fun bt363 => (if x4 < (x3.length : Int) then (laws_toLiveS.l0 k x0 (x3.set (x4 : Int).toNat (⟨bt363.1, bt363.2.1, bt363.2.2.1, bt363.2.2.2.1, (⟨bt363.2.2.2.2.1, bt363.2.2.2.2.2⟩ : S59)⟩ : S93)) (wrap64 (x4 + 1))) else (none))) else (none)) else (some x3)
def laws_toLiveS.f (k : Nat) (l0 : List (S80)) : Option ((List (S93))) := if 0 ≤ (l0.length : Int) then (if ((l0.length : Int) : Int).toNat ≤ 4398046511104 then (laws_toLiveS.l0 k l0 (List.replicate ((l0.length : Int) : Int).toNat z93) 0) else (none)) else (none)
set_option maxHeartbeats 8000000 in
set_option maxRecDepth 100000 in
theorem laws_toLiveS.calls (k : Nat) (A0 : Option Addr) (c0 : Nat) (l0 : List (S80)) (r : List (S93)) (w : World) (hr0 : Kd.C k80 w A0 l0.length l0) (hc0 : l0.length ≤ c0) (h : laws_toLiveS.f k l0 = some r) :
  Calls Tryz.prog 27 #[.slice A0 l0.length c0] w fun e w' => ∃ v0_ : Value, e = .returned (v0_) ∧ Kd.R k93 93 w' w.heap.size (fun _ => True) v0_ r ∧ Below w.heap.size w w' := by
 have hu80 := Tryz.underlying80
 have hu93 := Tryz.underlying93
 have HR0 := Aside0.mk hr0
 have HC0 := Aside0.mk hc0
 clear hr0 hc0
 have HB := Aside0.mk (Below.refl w.heap.size w)
 have H := h
 unfold laws_toLiveS.f at H
 clear h
 by_cases c2 : 0 ≤ (l0.length : Int)
 rotate_left
 ·
  rw [if_neg c2] at H
  exact absurd H (by simp)
 rw [if_pos c2] at H
 have c2b0 := eq_true c2
 have c2b1 : decide (0 ≤ (l0.length : Int)) = true := decide_eq_true c2
 clear c2
 by_cases c3 : ((l0.length : Int) : Int).toNat ≤ 4398046511104
 rotate_left
 ·
  rw [if_neg c3] at H
  exact absurd H (by simp)
 rw [if_pos c3] at H
 have c3b0 := eq_true c3
 have c3b1 : decide (((l0.length : Int) : Int).toNat ≤ 4398046511104) = true := decide_eq_true c3
 clear c3
 obtain ⟨y359, hy359⟩ : ∃ y_ : List (S93), y_ = (List.replicate ((l0.length : Int) : Int).toNat z93) := ⟨_, rfl⟩
 replace H : (laws_toLiveS.l0 k l0 y359 0) = some r := by first | (rw [hy359]; with_reducible exact H) | (have H2_ := (Option.bind_some _ _).symm.trans H; rw [hy359]; with_reducible exact H2_) | (have H2_ := (Option.bind_some _ _).symm.trans H; with_reducible exact H2_) | with_reducible exact H | (rw [hy359]; exact H) | exact H
 have Ny359 := Aside0.mk hy359
 clear hy359
 have H' := Aside0.mk H
 clear H
 go_enter Tryz.func27, Tryz.ntmps27
 go_wp2_with (first | ((with_reducible refine gate_dst (N := 7) rfl ?_); refine Kd.R_make k93 _ 93 rfl (N := 7) rfl 32 _ _ rfl (l0.length : Int) rfl rfl Tryz.underlying32 (.agg #[(.bool false), (.string ⟨#[]⟩), (.string ⟨#[]⟩), (.int .i64 0), (.int .i64 0), (.int .i64 0)]) 64 info93 rfl (by decide) (by omega) z93 (ok := fun _ => True) (okp := fun _ => True) (k93_mkM _ _ _ z93 ) (fun _ hk => hk) trivial (of_decide_eq_true z16_2) (Nat.le_trans (Nat.mul_le_mul_right _ (of_decide_eq_true z16_2 : (l0.length : Int).toNat ≤ 4398046511104)) (by omega)) (Below.refl _ _) (Nat.le_refl _) ?_; intro v360 w4 ho5 hb hg_ hnew_; clear hg_ hnew_; (first | rw [← Ny359.out] at ho5 | (simp only [Int.reduceToNat] at ho5; rw [← Ny359.out] at ho5)); have HO361 := Aside0.mk (Kd.R_lower ho5 (below_size z16_0)); replace HB := Aside0.mk (below_step z16_0 hb); clear hb ho5))
 go_loopg [4] k (fun kq v4 w' => ∃ (x3_1 : List (S93)) (x4_1 : Int), v4 = .int .i64 x4_1 ∧ Aside0 (laws_toLiveS.l0 kq l0 x3_1 x4_1 = some r) ∧ Aside0 (kq ≤ k) ∧ Aside0 (Kd.R k93 93 w' w.heap.size (fun _ => True) v360 x3_1) ∧ Aside0 (Below w.heap.size w w'))
 case atStart => exact ⟨(y359), (0), z16_30, H', ⟨Nat.le_refl _⟩, ⟨by (with_reducible repeat (first | apply Kd.R_alloc | apply Kd.R_drewN | apply Kd.R_drew)); exact HO361.out⟩, ⟨z16_0⟩⟩
 case round =>
  clear H'
  try clear c2
  try clear c2b0
  try clear c2b1
  try clear p2
  try clear c3
  try clear c3b0
  try clear c3b1
  obtain ⟨x3_1, x4_1, rfl, HA, HK1, HO_3, HB⟩ := hrel
  cases gk with
  | zero => exact absurd HA.out (by simp [laws_toLiveS.l0])
  | succ k1 =>
   have H := HA.out
   clear HA
   simp only [laws_toLiveS.l0] at H
   by_cases c6 : x4_1 < (l0.length : Int)
   rotate_left
   ·
    rw [if_neg c6] at H
    have c6b0 : decide (x4_1 < (l0.length : Int)) = false := decide_eq_false c6
    clear c6
    obtain rfl := Option.some.inj H
    go_wp2
    go_ret
    exact ⟨_, z16_6, z16_5, z16_0⟩
   rw [if_pos c6] at H
   have c6b0 : decide (x4_1 < (l0.length : Int)) = true := decide_eq_true c6
   clear c6
   by_cases c7 : 0 ≤ x4_1
   rotate_left
   ·
    rw [if_neg c7] at H
    exact absurd H (by simp)
   rw [if_pos c7] at H
   have c7b0 : decide (0 ≤ x4_1) = true := decide_eq_true c7
   clear c7
   replace H := Option.bind_eq_some_iff.mp H
   obtain ⟨⟨t363, t364, t365, t366, t367, t368⟩, A80, H⟩ := H
   (try dsimp only at H)
   have A8 := Aside0.mk A80
   clear A80
   by_cases c9 : x4_1 < (x3_1.length : Int)
   rotate_left
   ·
    rw [if_neg c9] at H
    exact absurd H (by simp)
   rw [if_pos c9] at H
   have c9b0 : decide (x4_1 < (x3_1.length : Int)) = true := decide_eq_true c9
   clear c9
   obtain ⟨y369, hy369⟩ : ∃ y_ : List (S93), y_ = (x3_1.set (x4_1 : Int).toNat (⟨t363, t364, t365, t366, (⟨t367, t368⟩ : S59)⟩ : S93)) := ⟨_, rfl⟩
   replace H : (laws_toLiveS.l0 k1 l0 y369 (wrap64 (x4_1 + 1))) = some r := by first | (rw [hy369]; with_reducible exact H) | (have H2_ := (Option.bind_some _ _).symm.trans H; rw [hy369]; with_reducible exact H2_) | (have H2_ := (Option.bind_some _ _).symm.trans H; with_reducible exact H2_) | with_reducible exact H | (rw [hy369]; exact H) | exact H
   have Ny369 := Aside0.mk hy369
   clear hy369
   have H' := Aside0.mk H
   clear H
   have p362 : 0 ≤ (x4_1 : Int) := of_decide_eq_true z16_2
   have q362 : x4_1 < (l0.length : Int) := of_decide_eq_true z16_2
   obtain ⟨ad362, e362, hx362_0, hx362_1, hx362_2, hx362_3, hx362_4, hx362_5⟩ := at_T80 HR0.out x4_1 p362 q362
   cases e362
   replace hx362_0 := cb_ HB hx362_0
   replace hx362_1 := cb_ HB hx362_1
   replace hx362_2 := cb_ HB hx362_2
   replace hx362_3 := cb_ HB hx362_3
   replace hx362_4 := cb_ HB hx362_4
   replace hx362_5 := cb_ HB hx362_5
   replace p362 := eq_true p362
   replace q362 := eq_true q362
   go_wp2_with (first | ((with_reducible refine gate_callee (f := 53) rfl ?_); refine goesL_ (some 20) rfl rfl Tryz.func53 z16_37 rfl #[.agg #[.bool ((rd_T80 l0 x4_1).f0), .string ((rd_T80 l0 x4_1).f1), .string ((rd_T80 l0 x4_1).f2), .int .i64 ((rd_T80 l0 x4_1).f3), .int .i64 ((rd_T80 l0 x4_1).f4.f0), .int .i64 ((rd_T80 l0 x4_1).f4.f1)]] rfl z16_3 ?_; (with_reducible refine (laws_toLive.calls ((rd_T80 l0 x4_1).f0) ((rd_T80 l0 x4_1).f1) ((rd_T80 l0 x4_1).f2) ((rd_T80 l0 x4_1).f3) ((rd_T80 l0 x4_1).f4.f0) ((rd_T80 l0 x4_1).f4.f1) t363 t364 t365 t366 t367 t368 _ A8.out).mono ?_); rintro e w11 ⟨rfl, hb⟩; refine ⟨_, rfl, ?_⟩; replace HO_3 := Aside0.mk (Kd.R_below z16_5 hb); replace HB := Aside0.mk (below_step z16_0 hb); have p10 : 0 ≤ (x4_1 : Int) := of_decide_eq_true z16_2; have q10 : (x4_1 : Int) < ((x3_1.length : Int) : Int) := of_decide_eq_true z16_2; obtain ⟨go10, co10, eo10, gb10, gl10, cl10, HG10⟩ := Kd.R_form HO_3.out (by omega); (first | cases eo10 | (injection eo10 with ea_ en_ ec_; (first | subst ea_ | (injection ea_ with ea_; subst ea_)); subst ec_; clear en_)); have GB10 := Aside0.mk gb10; have GG10 := Aside0.mk HG10; clear gb10 gl10 HG10; obtain ⟨ce10, hcl10, hM10, hcc10, hfr10⟩ := Kd.R_elem HO_3.out z93 (x4_1 : Int) p10 q10; obtain rfl := k93_openM hM10; clear hcl10 hcc10 hfr10 hM10; replace p10 := eq_true p10; replace q10 := eq_true q10; have HX12 := Aside0.mk (show Kd.R k93 93 w11 w.heap.size (fun _ => True) (.slice (some ⟨go10, 0, none⟩) x3_1.length co10) x3_1 from z16_5); obtain ⟨ce12, hcl12, hM12, hcc12, hfr12⟩ := Kd.R_elem HX12.out z93 (x4_1 : Int) (of_decide_eq_true z16_2) (by have h_ : (x4_1 : Int) < ((x3_1.length : Int) : Int) := of_decide_eq_true z16_2; first | exact h_ | (have e_ := (Kd.R_reads' HO_3.out).1; omega) | simpa using h_); obtain rfl := k93_openM hM12; have HP12 := Kd.R_seg HX12.out (x4_1 : Int) (of_decide_eq_true z16_2) (by have h_ : (x4_1 : Int) < ((x3_1.length : Int) : Int) := of_decide_eq_true z16_2; first | exact h_ | (have e_ := (Kd.R_reads' HO_3.out).1; omega) | simpa using h_) (seg := [.bool t363, .string t364, .string t365, .int .i64 t366, .int .i64 t367, .int .i64 t368]) (j := 0) hcl12 hcc12 (show 6 ≤ 6 from by decide) (x' := (⟨t363, t364, t365, t366, (⟨t367, t368⟩ : S59)⟩ : S93)) (k93_mkM _ _ _ (⟨t363, t364, t365, t366, (⟨t367, t368⟩ : S59)⟩ : S93) ) (fun _ hk => hk); have hx12_0 := hcc12 0 _ rfl; (try simp only [show (k93).sz = 6 from rfl, Nat.mul_one, Nat.add_zero] at hx12_0); have hf12_0 := hfr12 0; (try simp only [show (k93).sz = 6 from rfl, Nat.mul_one, Nat.add_zero] at hf12_0); have hx12_1 := hcc12 1 _ rfl; (try simp only [show (k93).sz = 6 from rfl, Nat.mul_one, Nat.add_zero] at hx12_1); have hf12_1 := hfr12 1; (try simp only [show (k93).sz = 6 from rfl, Nat.mul_one, Nat.add_zero] at hf12_1); have hx12_2 := hcc12 2 _ rfl; (try simp only [show (k93).sz = 6 from rfl, Nat.mul_one, Nat.add_zero] at hx12_2); have hf12_2 := hfr12 2; (try simp only [show (k93).sz = 6 from rfl, Nat.mul_one, Nat.add_zero] at hf12_2); have hx12_3 := hcc12 3 _ rfl; (try simp only [show (k93).sz = 6 from rfl, Nat.mul_one, Nat.add_zero] at hx12_3); have hf12_3 := hfr12 3; (try simp only [show (k93).sz = 6 from rfl, Nat.mul_one, Nat.add_zero] at hf12_3); have hx12_4 := hcc12 4 _ rfl; (try simp only [show (k93).sz = 6 from rfl, Nat.mul_one, Nat.add_zero] at hx12_4); have hf12_4 := hfr12 4; (try simp only [show (k93).sz = 6 from rfl, Nat.mul_one, Nat.add_zero] at hf12_4); have hx12_5 := hcc12 5 _ rfl; (try simp only [show (k93).sz = 6 from rfl, Nat.mul_one, Nat.add_zero] at hx12_5); have hf12_5 := hfr12 5; (try simp only [show (k93).sz = 6 from rfl, Nat.mul_one, Nat.add_zero] at hf12_5); clear hcl12 hcc12 hfr12 hM12) | ((with_reducible refine gate_store (t := 93) (p := 21) rfl ?_); refine store_event (t := 93) (p := 21) (v := ?vo_w13) (w1 := ((((((w11.setCell ⟨go10, (x4_1 : Int).toNat * 6, none⟩ (.bool t363)).setCell ⟨go10, (x4_1 : Int).toNat * 6 + 1, none⟩ (.string t364)).setCell ⟨go10, (x4_1 : Int).toNat * 6 + 2, none⟩ (.string t365)).setCell ⟨go10, (x4_1 : Int).toNat * 6 + 3, none⟩ (.int .i64 t366)).setCell ⟨go10, (x4_1 : Int).toNat * 6 + 4, none⟩ (.int .i64 t367)).setCell ⟨go10, (x4_1 : Int).toNat * 6 + 5, none⟩ (.int .i64 t368))) ?hg ?ho ?hn ?hr ?_; (case ho => rfl); (case hg => rfl); (case hn => rfl); (case hr => first | (go_simp; done) | (go_simp; rfl)); intro w13 hw; have hg : w11.grownBy w13 (some go10) := (by rw [hw]; exact HP12.2); have hp_ : Kd.R k93 93 w13 w.heap.size (fun _ => True) (.slice (some ⟨go10, 0, none⟩) x3_1.length co10) y369 := (by rw [hw, Ny369.out]; exact HP12.1); clear HP12; replace HO_3 := Aside0.mk (hp_); replace HB := Aside0.mk ((by rw [hw]; exact below_set (below_set (below_set (below_set (below_set (below_set (HB.out) GB10.out) GB10.out) GB10.out) GB10.out) GB10.out) GB10.out : Below w.heap.size w w13)); clear hg hw hp_))
   go_roundg k1
   case measure => have := HK1.out; omega
   case rel => exact ⟨(y369), (wrap64 (x4_1 + 1)), z16_30, H', ⟨by have := HK1.out; omega⟩, ⟨z16_5⟩, ⟨z16_0⟩⟩
def laws_toCell.f (a0_0 : ByteArray) (a0_1 : Int) (a0_2 : Int) (a0_3 : Int) (a0_4 : Int) (a0_5 : Int) (a0_6 : Int) (a0_7 : Bool) : Option (ByteArray × Int × Int × Int × Int × Int × Int × Bool) := (laws_toDot.f a0_1 a0_2).bind fun bt373 => ((laws_toDot.f a0_4 a0_5).bind fun bt375 => (some (a0_0, bt373.1, bt373.2, a0_3, bt375.1, bt375.2, a0_6, a0_7)))
set_option maxHeartbeats 8000000 in
set_option maxRecDepth 100000 in
theorem laws_toCell.calls (a0_0 : ByteArray) (a0_1 : Int) (a0_2 : Int) (a0_3 : Int) (a0_4 : Int) (a0_5 : Int) (a0_6 : Int) (a0_7 : Bool) (r1 : ByteArray) (r2 : Int) (r3 : Int) (r4 : Int) (r5 : Int) (r6 : Int) (r7 : Int) (r8 : Bool) (w : World) (h : laws_toCell.f a0_0 a0_1 a0_2 a0_3 a0_4 a0_5 a0_6 a0_7 = some (r1, r2, r3, r4, r5, r6, r7, r8)) :
  Calls Tryz.prog 54 #[.agg #[.string a0_0, .int .i64 a0_1, .int .i64 a0_2, .int .i64 a0_3, .int .i64 a0_4, .int .i64 a0_5, .int .i64 a0_6, .bool a0_7]] w fun e w' => e = .returned (.agg #[.string r1, .int .i64 r2, .int .i64 r3, .int .i64 r4, .int .i64 r5, .int .i64 r6, .int .i64 r7, .bool r8]) ∧ Below w.heap.size w w' := by
 have hu83 := Tryz.underlying83
 have hu96 := Tryz.underlying96
 have hu53 := Tryz.underlying53
 have hu59 := Tryz.underlying59
 have HB := Aside0.mk (Below.refl w.heap.size w)
 have H := h
 unfold laws_toCell.f at H
 clear h
 replace H := Option.bind_eq_some_iff.mp H
 obtain ⟨⟨t373, t374⟩, A20, H⟩ := H
 (try dsimp only at H)
 have A2 := Aside0.mk A20
 clear A20
 replace H := Option.bind_eq_some_iff.mp H
 obtain ⟨⟨t375, t376⟩, A30, H⟩ := H
 (try dsimp only at H)
 have A3 := Aside0.mk A30
 clear A30
 simp only [Option.some.injEq, Prod.mk.injEq] at H
 obtain ⟨rfl, rfl, rfl, rfl, rfl, rfl, rfl, rfl⟩ := H
 go_enter Tryz.func54, Tryz.ntmps54
 go_wp2_with (first | ((with_reducible refine gate_dst (N := 1) rfl ?_); refine box_event ?hg (N := 1) ?hd (cs := #[.string a0_0, .int .i64 a0_1, .int .i64 a0_2, .int .i64 a0_3, .int .i64 a0_4, .int .i64 a0_5, .int .i64 a0_6, .bool a0_7]) (t := 83) ?hr ?_; (case hd => rfl); (case hg => rfl); (case hr => first | (go_simp; done) | (go_simp; rfl)); intro gb370 hg w4 hbox hb; have BK370 := Aside0.mk (hbox); have GW370 := gw_ w z16_0 hg; have GE370 := gw_ w z16_0 hg; replace HB := Aside0.mk (below_step z16_0 hb); clear hb hbox hg) | ((with_reducible refine gate_dst (N := 2) rfl ?_); refine box_event ?hg (N := 2) ?hd (cs := #[.string (⟨#[]⟩ : ByteArray), .int .i64 0, .int .i64 0, .int .i64 0, .int .i64 0, .int .i64 0, .int .i64 0, .bool false]) (t := 96) ?hr ?_; (case hd => rfl); (case hg => rfl); (case hr => first | (go_simp; done) | (go_simp; rfl)); intro gb371 hg w5 hbox hb; have BK371 := Aside0.mk (hbox); have GW371 := gw_ w z16_26 hg; have GE371 := gw_ w z16_26 hg; replace HB := Aside0.mk (below_step z16_26 hb); have NB370_371 := nb_ BK370 z16_9 hg; have NB371_370 := nc_ BK370 z16_9 hg; replace BK370 := bb_ BK370 z16_9 hb; clear hb hbox hg) | ((with_reducible refine gate_dst (N := 3) rfl ?_); refine box_event ?hg (N := 3) ?hd (cs := #[.string (⟨#[]⟩ : ByteArray), .int .i64 0, .int .i64 0, .int .i64 0, .int .i64 0, .int .i64 0, .int .i64 0, .bool false]) (t := 96) ?hr ?_; (case hd => rfl); (case hg => rfl); (case hr => first | (go_simp; done) | (go_simp; rfl)); intro gb372 hg w6 hbox hb; have BK372 := Aside0.mk (hbox); have GW372 := gw_ w z16_18 hg; have GE372 := gw_ w z16_18 hg; replace HB := Aside0.mk (below_step z16_18 hb); have NB370_372 := nb_ BK370 z16_9 hg; have NB372_370 := nc_ BK370 z16_9 hg; replace BK370 := bb_ BK370 z16_9 hb; have NB371_372 := nb_ BK371 z16_31 hg; have NB372_371 := nc_ BK371 z16_31 hg; replace BK371 := bb_ BK371 z16_31 hb; clear hb hbox hg; have hnb7 := NB370_371.out; have hnc7 := NB371_370.out; have hnb8 := NB370_372.out; have hnc8 := NB372_370.out; have hcz9 := bc8 BK370.out; have hnb10 := NB372_371.out; have hnc10 := NB371_372.out; have hcz11 := bc8 BK372.out) | ((with_reducible refine gate_callee (f := 55) rfl ?_); refine goesL_ (some 9) rfl rfl Tryz.func55 z16_37 rfl #[.agg #[.int .i64 a0_1, .int .i64 a0_2]] rfl z16_3 ?_; (with_reducible refine (laws_toDot.calls a0_1 a0_2 t373 t374 _ A2.out).mono ?_); rintro e w12 ⟨rfl, hb⟩; refine ⟨_, rfl, ?_⟩; replace BK370 := bb_ BK370 (by (with_reducible repeat (first | apply blk_far (hp := NB370_372.out) | refine blk_drewN ?_ _ | refine blk_drew ?_ | refine blk_alloc ?_ _)); exact BK370.out) hb; replace BK371 := bb_ BK371 (by (with_reducible repeat (first | apply blk_far (hp := NB371_372.out) | refine blk_drewN ?_ _ | refine blk_drew ?_ | refine blk_alloc ?_ _)); exact BK371.out) hb; replace BK372 := Aside0.mk (blk_below (g := gb372) (o := .cells #[.string a0_0, .int .i64 0, .int .i64 0, .int .i64 0, .int .i64 0, .int .i64 0, .int .i64 0, .bool false] 96 (0, 0)) (by (with_reducible repeat (first | apply bp8_0 | refine blk_drewN ?_ _ | refine blk_drew ?_ | refine blk_alloc ?_ _)); exact BK372.out) hb); replace HB := Aside0.mk (below_step z16_15 hb); have hcz13 := bc8 BK372.out; have hcz14 := bc8 BK370.out) | ((with_reducible refine gate_callee (f := 55) rfl ?_); refine goesL_ (some 16) rfl rfl Tryz.func55 z16_37 rfl #[.agg #[.int .i64 a0_4, .int .i64 a0_5]] rfl z16_3 ?_; (with_reducible refine (laws_toDot.calls a0_4 a0_5 t375 t376 _ A3.out).mono ?_); rintro e w15 ⟨rfl, hb⟩; refine ⟨_, rfl, ?_⟩; replace BK370 := bb_ BK370 (by (with_reducible repeat (first | apply blk_far (hp := NB370_372.out) | refine blk_drewN ?_ _ | refine blk_drew ?_ | refine blk_alloc ?_ _)); exact BK370.out) hb; replace BK371 := bb_ BK371 (by (with_reducible repeat (first | apply blk_far (hp := NB371_372.out) | refine blk_drewN ?_ _ | refine blk_drew ?_ | refine blk_alloc ?_ _)); exact BK371.out) hb; replace BK372 := Aside0.mk (blk_below (g := gb372) (o := .cells #[.string a0_0, .int .i64 t373, .int .i64 t374, .int .i64 a0_3, .int .i64 0, .int .i64 0, .int .i64 0, .bool false] 96 (0, 0)) (by (with_reducible repeat (first | apply bp8_3 | apply bp8_2 | apply bp8_1 | refine blk_drewN ?_ _ | refine blk_drew ?_ | refine blk_alloc ?_ _)); exact BK372.out) hb); replace HB := Aside0.mk (below_step z16_15 hb); have hcz16 := bc8 BK372.out; have hcz17 := bc8 BK370.out; have hcz18 := bc8 BK371.out))
 refine bodyPost_ret (results_cell_row rfl _ _ gb371 96 #[.string a0_0, .int .i64 t373, .int .i64 t374, .int .i64 a0_3, .int .i64 t375, .int .i64 t376, .int .i64 a0_6, .bool a0_7] (0, 0) _ rfl (by (with_reducible repeat (first | apply bpa8 | apply blk_far (hp := NB371_372.out) | refine blk_drewN ?_ _ | refine blk_drew ?_ | refine blk_alloc ?_ _)); exact BK371.out) Tryz.underlying96 rfl z16_37) rfl ?_
 exact ⟨z16_6, z16_15⟩
def laws_toCellS.l0 : Nat → List (S83) → List (S96) → Int → Option ((List (S96)))
  | 0, _, _, _ => none
  | k + 1, x0, x3, x4 => if x4 < (x0.length : Int) then (if 0 ≤ x4 then ((laws_toCell.f ((rd_T83 x0 x4).f0) ((rd_T83 x0 x4).f1.f0) ((rd_T83 x0 x4).f1.f1) ((rd_T83 x0 x4).f2) ((rd_T83 x0 x4).f3.f0) ((rd_T83 x0 x4).f3.f1) ((rd_T83 x0 x4).f4) ((rd_T83 x0 x4).f5)).bind fun bt381 => (if x4 < (x3.length : Int) then (laws_toCellS.l0 k x0 (x3.set (x4 : Int).toNat (⟨bt381.1, (⟨bt381.2.1, bt381.2.2.1⟩ : S59), bt381.2.2.2.1, (⟨bt381.2.2.2.2.1, bt381.2.2.2.2.2.1⟩ : S59), bt381.2.2.2.2.2.2.1, bt381.2.2.2.2.2.2.2⟩ : S96)) (wrap64 (x4 + 1))) else (none))) else (none)) else (some x3)
def laws_toCellS.f (k : Nat) (l0 : List (S83)) : Option ((List (S96))) := if 0 ≤ (l0.length : Int) then (if ((l0.length : Int) : Int).toNat ≤ 3909374676536 then (laws_toCellS.l0 k l0 (List.replicate ((l0.length : Int) : Int).toNat z96) 0) else (none)) else (none)
set_option maxHeartbeats 8000000 in
set_option maxRecDepth 100000 in
theorem laws_toCellS.calls (k : Nat) (A0 : Option Addr) (c0 : Nat) (l0 : List (S83)) (r : List (S96)) (w : World) (hr0 : Kd.C k83 w A0 l0.length l0) (hc0 : l0.length ≤ c0) (h : laws_toCellS.f k l0 = some r) :
  Calls Tryz.prog 28 #[.slice A0 l0.length c0] w fun e w' => ∃ v0_ : Value, e = .returned (v0_) ∧ Kd.R k96 96 w' w.heap.size (fun _ => True) v0_ r ∧ Below w.heap.size w w' := by
 have hu83 := Tryz.underlying83
 have hu96 := Tryz.underlying96
 have HR0 := Aside0.mk hr0
 have HC0 := Aside0.mk hc0
 clear hr0 hc0
 have HB := Aside0.mk (Below.refl w.heap.size w)
 have H := h
 unfold laws_toCellS.f at H
 clear h
 by_cases c2 : 0 ≤ (l0.length : Int)
 rotate_left
 ·
  rw [if_neg c2] at H
  exact absurd H (by simp)
 rw [if_pos c2] at H
 have c2b0 := eq_true c2
 have c2b1 : decide (0 ≤ (l0.length : Int)) = true := decide_eq_true c2
 clear c2
 by_cases c3 : ((l0.length : Int) : Int).toNat ≤ 3909374676536
 rotate_left
 ·
  rw [if_neg c3] at H
  exact absurd H (by simp)
 rw [if_pos c3] at H
 have c3b0 := eq_true c3
 have c3b1 : decide (((l0.length : Int) : Int).toNat ≤ 3909374676536) = true := decide_eq_true c3
 clear c3
 obtain ⟨y377, hy377⟩ : ∃ y_ : List (S96), y_ = (List.replicate ((l0.length : Int) : Int).toNat z96) := ⟨_, rfl⟩
 replace H : (laws_toCellS.l0 k l0 y377 0) = some r := by first | (rw [hy377]; with_reducible exact H) | (have H2_ := (Option.bind_some _ _).symm.trans H; rw [hy377]; with_reducible exact H2_) | (have H2_ := (Option.bind_some _ _).symm.trans H; with_reducible exact H2_) | with_reducible exact H | (rw [hy377]; exact H) | exact H
 have Ny377 := Aside0.mk hy377
 clear hy377
 have H' := Aside0.mk H
 clear H
 go_enter Tryz.func28, Tryz.ntmps28
 go_wp2_with (first | ((with_reducible refine gate_dst (N := 7) rfl ?_); refine Kd.R_make k96 _ 96 rfl (N := 7) rfl 33 _ _ rfl (l0.length : Int) rfl rfl Tryz.underlying33 (.agg #[(.string ⟨#[]⟩), (.int .i64 0), (.int .i64 0), (.int .i64 0), (.int .i64 0), (.int .i64 0), (.int .i64 0), (.bool false)]) 72 info96 rfl (by decide) (by omega) z96 (ok := fun _ => True) (okp := fun _ => True) (k96_mkM _ _ _ z96 ) (fun _ hk => hk) trivial (of_decide_eq_true z16_2) (Nat.le_trans (Nat.mul_le_mul_right _ (of_decide_eq_true z16_2 : (l0.length : Int).toNat ≤ 3909374676536)) (by omega)) (Below.refl _ _) (Nat.le_refl _) ?_; intro v378 w4 ho5 hb hg_ hnew_; clear hg_ hnew_; (first | rw [← Ny377.out] at ho5 | (simp only [Int.reduceToNat] at ho5; rw [← Ny377.out] at ho5)); have HO379 := Aside0.mk (Kd.R_lower ho5 (below_size z16_0)); replace HB := Aside0.mk (below_step z16_0 hb); clear hb ho5))
 go_loopg [4] k (fun kq v4 w' => ∃ (x3_1 : List (S96)) (x4_1 : Int), v4 = .int .i64 x4_1 ∧ Aside0 (laws_toCellS.l0 kq l0 x3_1 x4_1 = some r) ∧ Aside0 (kq ≤ k) ∧ Aside0 (Kd.R k96 96 w' w.heap.size (fun _ => True) v378 x3_1) ∧ Aside0 (Below w.heap.size w w'))
 case atStart => exact ⟨(y377), (0), z16_30, H', ⟨Nat.le_refl _⟩, ⟨by (with_reducible repeat (first | apply Kd.R_alloc | apply Kd.R_drewN | apply Kd.R_drew)); exact HO379.out⟩, ⟨z16_0⟩⟩
 case round =>
  clear H'
  try clear c2
  try clear c2b0
  try clear c2b1
  try clear p2
  try clear c3
  try clear c3b0
  try clear c3b1
  obtain ⟨x3_1, x4_1, rfl, HA, HK1, HO_3, HB⟩ := hrel
  cases gk with
  | zero => exact absurd HA.out (by simp [laws_toCellS.l0])
  | succ k1 =>
   have H := HA.out
   clear HA
   simp only [laws_toCellS.l0] at H
   by_cases c6 : x4_1 < (l0.length : Int)
   rotate_left
   ·
    rw [if_neg c6] at H
    have c6b0 : decide (x4_1 < (l0.length : Int)) = false := decide_eq_false c6
    clear c6
    obtain rfl := Option.some.inj H
    go_wp2
    go_ret
    exact ⟨_, z16_6, z16_5, z16_0⟩
   rw [if_pos c6] at H
   have c6b0 : decide (x4_1 < (l0.length : Int)) = true := decide_eq_true c6
   clear c6
   by_cases c7 : 0 ≤ x4_1
   rotate_left
   ·
    rw [if_neg c7] at H
    exact absurd H (by simp)
   rw [if_pos c7] at H
   have c7b0 : decide (0 ≤ x4_1) = true := decide_eq_true c7
   clear c7
   replace H := Option.bind_eq_some_iff.mp H
   obtain ⟨⟨t381, t382, t383, t384, t385, t386, t387, t388⟩, A80, H⟩ := H
   (try dsimp only at H)
   have A8 := Aside0.mk A80
   clear A80
   by_cases c9 : x4_1 < (x3_1.length : Int)
   rotate_left
   ·
    rw [if_neg c9] at H
    exact absurd H (by simp)
   rw [if_pos c9] at H
   have c9b0 : decide (x4_1 < (x3_1.length : Int)) = true := decide_eq_true c9
   clear c9
   obtain ⟨y389, hy389⟩ : ∃ y_ : List (S96), y_ = (x3_1.set (x4_1 : Int).toNat (⟨t381, (⟨t382, t383⟩ : S59), t384, (⟨t385, t386⟩ : S59), t387, t388⟩ : S96)) := ⟨_, rfl⟩
   replace H : (laws_toCellS.l0 k1 l0 y389 (wrap64 (x4_1 + 1))) = some r := by first | (rw [hy389]; with_reducible exact H) | (have H2_ := (Option.bind_some _ _).symm.trans H; rw [hy389]; with_reducible exact H2_) | (have H2_ := (Option.bind_some _ _).symm.trans H; with_reducible exact H2_) | with_reducible exact H | (rw [hy389]; exact H) | exact H
   have Ny389 := Aside0.mk hy389
   clear hy389
   have H' := Aside0.mk H
   clear H
   have p380 : 0 ≤ (x4_1 : Int) := of_decide_eq_true z16_2
   have q380 : x4_1 < (l0.length : Int) := of_decide_eq_true z16_2
   obtain ⟨ad380, e380, hx380_0, hx380_1, hx380_2, hx380_3, hx380_4, hx380_5, hx380_6, hx380_7⟩ := at_T83 HR0.out x4_1 p380 q380
   cases e380
   replace hx380_0 := cb_ HB hx380_0
   replace hx380_1 := cb_ HB hx380_1
   replace hx380_2 := cb_ HB hx380_2
   replace hx380_3 := cb_ HB hx380_3
   replace hx380_4 := cb_ HB hx380_4
   replace hx380_5 := cb_ HB hx380_5
   replace hx380_6 := cb_ HB hx380_6
   replace hx380_7 := cb_ HB hx380_7
   replace p380 := eq_true p380
   replace q380 := eq_true q380
   go_wp2_with (first | ((with_reducible refine gate_callee (f := 54) rfl ?_); refine goesL_ (some 20) rfl rfl Tryz.func54 z16_37 rfl #[.agg #[.string ((rd_T83 l0 x4_1).f0), .int .i64 ((rd_T83 l0 x4_1).f1.f0), .int .i64 ((rd_T83 l0 x4_1).f1.f1), .int .i64 ((rd_T83 l0 x4_1).f2), .int .i64 ((rd_T83 l0 x4_1).f3.f0), .int .i64 ((rd_T83 l0 x4_1).f3.f1), .int .i64 ((rd_T83 l0 x4_1).f4), .bool ((rd_T83 l0 x4_1).f5)]] rfl z16_3 ?_; (with_reducible refine (laws_toCell.calls ((rd_T83 l0 x4_1).f0) ((rd_T83 l0 x4_1).f1.f0) ((rd_T83 l0 x4_1).f1.f1) ((rd_T83 l0 x4_1).f2) ((rd_T83 l0 x4_1).f3.f0) ((rd_T83 l0 x4_1).f3.f1) ((rd_T83 l0 x4_1).f4) ((rd_T83 l0 x4_1).f5) t381 t382 t383 t384 t385 t386 t387 t388 _ A8.out).mono ?_); rintro e w11 ⟨rfl, hb⟩; refine ⟨_, rfl, ?_⟩; replace HO_3 := Aside0.mk (Kd.R_below z16_5 hb); replace HB := Aside0.mk (below_step z16_0 hb); have p10 : 0 ≤ (x4_1 : Int) := of_decide_eq_true z16_2; have q10 : (x4_1 : Int) < ((x3_1.length : Int) : Int) := of_decide_eq_true z16_2; obtain ⟨go10, co10, eo10, gb10, gl10, cl10, HG10⟩ := Kd.R_form HO_3.out (by omega); (first | cases eo10 | (injection eo10 with ea_ en_ ec_; (first | subst ea_ | (injection ea_ with ea_; subst ea_)); subst ec_; clear en_)); have GB10 := Aside0.mk gb10; have GG10 := Aside0.mk HG10; clear gb10 gl10 HG10; obtain ⟨ce10, hcl10, hM10, hcc10, hfr10⟩ := Kd.R_elem HO_3.out z96 (x4_1 : Int) p10 q10; obtain rfl := k96_openM hM10; clear hcl10 hcc10 hfr10 hM10; replace p10 := eq_true p10; replace q10 := eq_true q10; have HX12 := Aside0.mk (show Kd.R k96 96 w11 w.heap.size (fun _ => True) (.slice (some ⟨go10, 0, none⟩) x3_1.length co10) x3_1 from z16_5); obtain ⟨ce12, hcl12, hM12, hcc12, hfr12⟩ := Kd.R_elem HX12.out z96 (x4_1 : Int) (of_decide_eq_true z16_2) (by have h_ : (x4_1 : Int) < ((x3_1.length : Int) : Int) := of_decide_eq_true z16_2; first | exact h_ | (have e_ := (Kd.R_reads' HO_3.out).1; omega) | simpa using h_); obtain rfl := k96_openM hM12; have HP12 := Kd.R_seg HX12.out (x4_1 : Int) (of_decide_eq_true z16_2) (by have h_ : (x4_1 : Int) < ((x3_1.length : Int) : Int) := of_decide_eq_true z16_2; first | exact h_ | (have e_ := (Kd.R_reads' HO_3.out).1; omega) | simpa using h_) (seg := [.string t381, .int .i64 t382, .int .i64 t383, .int .i64 t384, .int .i64 t385, .int .i64 t386, .int .i64 t387, .bool t388]) (j := 0) hcl12 hcc12 (show 8 ≤ 8 from by decide) (x' := (⟨t381, (⟨t382, t383⟩ : S59), t384, (⟨t385, t386⟩ : S59), t387, t388⟩ : S96)) (k96_mkM _ _ _ (⟨t381, (⟨t382, t383⟩ : S59), t384, (⟨t385, t386⟩ : S59), t387, t388⟩ : S96) ) (fun _ hk => hk); have hx12_0 := hcc12 0 _ rfl; (try simp only [show (k96).sz = 8 from rfl, Nat.mul_one, Nat.add_zero] at hx12_0); have hf12_0 := hfr12 0; (try simp only [show (k96).sz = 8 from rfl, Nat.mul_one, Nat.add_zero] at hf12_0); have hx12_1 := hcc12 1 _ rfl; (try simp only [show (k96).sz = 8 from rfl, Nat.mul_one, Nat.add_zero] at hx12_1); have hf12_1 := hfr12 1; (try simp only [show (k96).sz = 8 from rfl, Nat.mul_one, Nat.add_zero] at hf12_1); have hx12_2 := hcc12 2 _ rfl; (try simp only [show (k96).sz = 8 from rfl, Nat.mul_one, Nat.add_zero] at hx12_2); have hf12_2 := hfr12 2; (try simp only [show (k96).sz = 8 from rfl, Nat.mul_one, Nat.add_zero] at hf12_2); have hx12_3 := hcc12 3 _ rfl; (try simp only [show (k96).sz = 8 from rfl, Nat.mul_one, Nat.add_zero] at hx12_3); have hf12_3 := hfr12 3; (try simp only [show (k96).sz = 8 from rfl, Nat.mul_one, Nat.add_zero] at hf12_3); have hx12_4 := hcc12 4 _ rfl; (try simp only [show (k96).sz = 8 from rfl, Nat.mul_one, Nat.add_zero] at hx12_4); have hf12_4 := hfr12 4; (try simp only [show (k96).sz = 8 from rfl, Nat.mul_one, Nat.add_zero] at hf12_4); have hx12_5 := hcc12 5 _ rfl; (try simp only [show (k96).sz = 8 from rfl, Nat.mul_one, Nat.add_zero] at hx12_5); have hf12_5 := hfr12 5; (try simp only [show (k96).sz = 8 from rfl, Nat.mul_one, Nat.add_zero] at hf12_5); have hx12_6 := hcc12 6 _ rfl; (try simp only [show (k96).sz = 8 from rfl, Nat.mul_one, Nat.add_zero] at hx12_6); have hf12_6 := hfr12 6; (try simp only [show (k96).sz = 8 from rfl, Nat.mul_one, Nat.add_zero] at hf12_6); have hx12_7 := hcc12 7 _ rfl; (try simp only [show (k96).sz = 8 from rfl, Nat.mul_one, Nat.add_zero] at hx12_7); have hf12_7 := hfr12 7; (try simp only [show (k96).sz = 8 from rfl, Nat.mul_one, Nat.add_zero] at hf12_7); clear hcl12 hcc12 hfr12 hM12) | ((with_reducible refine gate_store (t := 96) (p := 21) rfl ?_); refine store_event (t := 96) (p := 21) (v := ?vo_w13) (w1 := ((((((((w11.setCell ⟨go10, (x4_1 : Int).toNat * 8, none⟩ (.string t381)).setCell ⟨go10, (x4_1 : Int).toNat * 8 + 1, none⟩ (.int .i64 t382)).setCell ⟨go10, (x4_1 : Int).toNat * 8 + 2, none⟩ (.int .i64 t383)).setCell ⟨go10, (x4_1 : Int).toNat * 8 + 3, none⟩ (.int .i64 t384)).setCell ⟨go10, (x4_1 : Int).toNat * 8 + 4, none⟩ (.int .i64 t385)).setCell ⟨go10, (x4_1 : Int).toNat * 8 + 5, none⟩ (.int .i64 t386)).setCell ⟨go10, (x4_1 : Int).toNat * 8 + 6, none⟩ (.int .i64 t387)).setCell ⟨go10, (x4_1 : Int).toNat * 8 + 7, none⟩ (.bool t388))) ?hg ?ho ?hn ?hr ?_; (case ho => rfl); (case hg => rfl); (case hn => rfl); (case hr => first | (go_simp; done) | (go_simp; rfl)); intro w13 hw; have hg : w11.grownBy w13 (some go10) := (by rw [hw]; exact HP12.2); have hp_ : Kd.R k96 96 w13 w.heap.size (fun _ => True) (.slice (some ⟨go10, 0, none⟩) x3_1.length co10) y389 := (by rw [hw, Ny389.out]; exact HP12.1); clear HP12; replace HO_3 := Aside0.mk (hp_); replace HB := Aside0.mk ((by rw [hw]; exact below_set (below_set (below_set (below_set (below_set (below_set (below_set (below_set (HB.out) GB10.out) GB10.out) GB10.out) GB10.out) GB10.out) GB10.out) GB10.out) GB10.out : Below w.heap.size w w13)); clear hg hw hp_))
   go_roundg k1
   case measure => have := HK1.out; omega
   case rel => exact ⟨(y389), (wrap64 (x4_1 + 1)), z16_30, H', ⟨by have := HK1.out; omega⟩, ⟨z16_5⟩, ⟨z16_0⟩⟩
def laws_toState.f (k : Nat) (l0_0 : List Int) (l0_1 : List (S77)) (l0_2 : List (S80)) (l0_3 : List (S83)) : Option (List Int × (List (S90)) × (List (S93)) × (List (S96))) := (laws_toIntS.f k l0_0).bind fun t393 => ((laws_toTallyS.f k l0_1).bind fun t396 => ((laws_toLiveS.f k l0_2).bind fun t399 => ((laws_toCellS.f k l0_3).bind fun t402 => (some (t393, t396, t399, t402)))))
set_option maxHeartbeats 8000000 in
set_option maxRecDepth 100000 in
theorem laws_toState.calls (k : Nat) (A0_0 : Option Addr) (c0_0 : Nat) (l0_0 : List Int) (A0_1 : Option Addr) (c0_1 : Nat) (l0_1 : List (S77)) (A0_2 : Option Addr) (c0_2 : Nat) (l0_2 : List (S80)) (A0_3 : Option Addr) (c0_3 : Nat) (l0_3 : List (S83)) (r1 : List Int) (r2 : List (S90)) (r3 : List (S93)) (r4 : List (S96)) (w : World) (hr0_0 : Kd.C (Kd.int .i64) w A0_0 l0_0.length l0_0) (hc0_0 : l0_0.length ≤ c0_0) (hr0_1 : Kd.C k77 w A0_1 l0_1.length l0_1) (hc0_1 : l0_1.length ≤ c0_1) (hr0_2 : Kd.C k80 w A0_2 l0_2.length l0_2) (hc0_2 : l0_2.length ≤ c0_2) (hr0_3 : Kd.C k83 w A0_3 l0_3.length l0_3) (hc0_3 : l0_3.length ≤ c0_3) (h : laws_toState.f k l0_0 l0_1 l0_2 l0_3 = some (r1, r2, r3, r4)) :
  Calls Tryz.prog 7 #[.agg #[.slice A0_0 l0_0.length c0_0, .slice A0_1 l0_1.length c0_1, .slice A0_2 l0_2.length c0_2, .slice A0_3 l0_3.length c0_3]] w fun e w' => ∃ v0_ v1_ v2_ v3_ : Value, e = .returned (.agg #[v0_, v1_, v2_, v3_]) ∧ Kd.R (Kd.int .i64) 3 w' w.heap.size (fun _ => True) v0_ r1 ∧ Kd.R k90 90 w' w.heap.size (fun _ => True) v1_ r2 ∧ Kd.R k93 93 w' w.heap.size (fun _ => True) v2_ r3 ∧ Kd.R k96 96 w' w.heap.size (fun _ => True) v3_ r4 ∧ Below w.heap.size w w' := by
 have hu27 := Tryz.underlying27
 have hu35 := Tryz.underlying35
 have HR0_0 := Aside0.mk hr0_0
 have HC0_0 := Aside0.mk hc0_0
 clear hr0_0 hc0_0
 have HR0_1 := Aside0.mk hr0_1
 have HC0_1 := Aside0.mk hc0_1
 clear hr0_1 hc0_1
 have HR0_2 := Aside0.mk hr0_2
 have HC0_2 := Aside0.mk hc0_2
 clear hr0_2 hc0_2
 have HR0_3 := Aside0.mk hr0_3
 have HC0_3 := Aside0.mk hc0_3
 clear hr0_3 hc0_3
 have HB := Aside0.mk (Below.refl w.heap.size w)
 have H := h
 unfold laws_toState.f at H
 clear h
 replace H := Option.bind_eq_some_iff.mp H
 obtain ⟨t393, A20, H⟩ := H
 (try dsimp only at H)
 have A2 := Aside0.mk A20
 clear A20
 replace H := Option.bind_eq_some_iff.mp H
 obtain ⟨t396, A30, H⟩ := H
 (try dsimp only at H)
 have A3 := Aside0.mk A30
 clear A30
 replace H := Option.bind_eq_some_iff.mp H
 obtain ⟨t399, A40, H⟩ := H
 (try dsimp only at H)
 have A4 := Aside0.mk A40
 clear A40
 replace H := Option.bind_eq_some_iff.mp H
 obtain ⟨t402, A50, H⟩ := H
 (try dsimp only at H)
 have A5 := Aside0.mk A50
 clear A50
 simp only [Option.some.injEq, Prod.mk.injEq] at H
 obtain ⟨rfl, rfl, rfl, rfl⟩ := H
 go_enter Tryz.func7, Tryz.ntmps7
 go_wp2_with (first | ((with_reducible refine gate_dst (N := 1) rfl ?_); refine box_event ?hg (N := 1) ?hd (cs := #[.slice A0_0 l0_0.length c0_0, .slice A0_1 l0_1.length c0_1, .slice A0_2 l0_2.length c0_2, .slice A0_3 l0_3.length c0_3]) (t := 27) ?hr ?_; (case hd => rfl); (case hg => rfl); (case hr => first | (go_simp; done) | (go_simp; rfl)); intro gb390 hg w6 hbox hb; have BK390 := Aside0.mk (hbox); have GW390 := gw_ w z16_0 hg; have GE390 := gw_ w z16_0 hg; replace HB := Aside0.mk (below_step z16_0 hb); clear hb hbox hg) | ((with_reducible refine gate_dst (N := 2) rfl ?_); refine box_event ?hg (N := 2) ?hd (cs := #[.slice none 0 0, .slice none 0 0, .slice none 0 0, .slice none 0 0]) (t := 35) ?hr ?_; (case hd => rfl); (case hg => rfl); (case hr => first | (go_simp; done) | (go_simp; rfl)); intro gb391 hg w7 hbox hb; have BK391 := Aside0.mk (hbox); have GW391 := gw_ w z16_25 hg; have GE391 := gw_ w z16_25 hg; replace HB := Aside0.mk (below_step z16_25 hb); have NB390_391 := nb_ BK390 z16_8 hg; have NB391_390 := nc_ BK390 z16_8 hg; replace BK390 := bb_ BK390 z16_8 hb; clear hb hbox hg) | ((with_reducible refine gate_dst (N := 3) rfl ?_); refine box_event ?hg (N := 3) ?hd (cs := #[.slice none 0 0, .slice none 0 0, .slice none 0 0, .slice none 0 0]) (t := 35) ?hr ?_; (case hd => rfl); (case hg => rfl); (case hr => first | (go_simp; done) | (go_simp; rfl)); intro gb392 hg w8 hbox hb; have BK392 := Aside0.mk (hbox); have GW392 := gw_ w z16_17 hg; have GE392 := gw_ w z16_17 hg; replace HB := Aside0.mk (below_step z16_17 hb); have NB390_392 := nb_ BK390 z16_8 hg; have NB392_390 := nc_ BK390 z16_8 hg; replace BK390 := bb_ BK390 z16_8 hb; have NB391_392 := nb_ BK391 z16_23 hg; have NB392_391 := nc_ BK391 z16_23 hg; replace BK391 := bb_ BK391 z16_23 hb; clear hb hbox hg; have hnb9 := NB390_391.out; have hnc9 := NB391_390.out; have hnb10 := NB390_392.out; have hnc10 := NB392_390.out; have hcz11 := bc4 BK390.out) | ((with_reducible refine gate_callee (f := 25) rfl ?_); refine goesL_ (some 6) rfl rfl Tryz.func25 z16_37 rfl #[.slice A0_0 l0_0.length c0_0] rfl z16_3 ?_; (with_reducible refine (laws_toIntS.calls k _ _ l0_0 t393 _ ?side1 ?side2 A2.out).mono ?_); (case side1 => repeat (first | exact (Kd.C_below HR0_0.out HB.out) | (with_reducible refine Kd.C_alloc ?_ _) | (with_reducible refine Kd.C_drewN ?_ _) | (with_reducible refine Kd.C_drew ?_))); (case side2 => exact HC0_0.out); rintro e w12 ⟨v394, rfl, ho0, hb⟩; refine ⟨_, rfl, ?_⟩; have HO395 := Aside0.mk (Kd.R_lower ho0 (below_size z16_1)); replace BK390 := bb_ BK390 z16_8 hb; replace BK391 := bb_ BK391 z16_23 hb; replace BK392 := bb_ BK392 (by (with_reducible repeat (first | refine blk_drewN ?_ _ | refine blk_drew ?_ | refine blk_alloc ?_ _)); exact BK392.out) hb; replace HB := Aside0.mk (below_step z16_1 hb); (try clear ho0); obtain ⟨Ao13, co13, eo13⟩ := Kd.R_slice HO395.out; subst eo13; have hnb14 := NB392_391.out; have hnc14 := NB391_392.out; have hcz15 := bc4 BK392.out; have hcz16 := bc4 BK390.out) | ((with_reducible refine gate_callee (f := 26) rfl ?_); refine goesL_ (some 10) rfl rfl Tryz.func26 z16_37 rfl #[.slice A0_1 l0_1.length c0_1] rfl z16_3 ?_; (with_reducible refine (laws_toTallyS.calls k _ _ l0_1 t396 _ ?side1 ?side2 A3.out).mono ?_); (case side1 => exact Kd.C_below HR0_1.out z16_1); (case side2 => exact HC0_1.out); rintro e w17 ⟨v397, rfl, ho0, hb⟩; refine ⟨_, rfl, ?_⟩; replace HO395 := Aside0.mk (Kd.R_below (by (with_reducible repeat (first | apply Kd.R_alloc | apply Kd.R_drewN | apply Kd.R_drew)); exact (Kd.R_mono (Kd.R_far (p := ⟨gb392, 0, none⟩) (Kd.R_types HO395.out BK392.out (by decide)) (fun _ hk => by first | exact hk.2 | trivial) (.slice Ao13 t393.length co13)) (fun _ h_ => h_.1))) hb); have HO398 := Aside0.mk (Kd.R_lower ho0 (below_size z16_1)); replace BK390 := bb_ BK390 z16_14 hb; replace BK391 := bb_ BK391 z16_13 hb; replace BK392 := Aside0.mk (blk_below (g := gb392) (o := .cells #[.slice Ao13 t393.length co13, .slice none 0 0, .slice none 0 0, .slice none 0 0] 35 (0, 0)) (by (with_reducible repeat (first | apply bp4_0 | refine blk_drewN ?_ _ | refine blk_drew ?_ | refine blk_alloc ?_ _)); exact BK392.out) hb); replace HB := Aside0.mk (below_step z16_1 hb); (try clear ho0); obtain ⟨Ao18, co18, eo18⟩ := Kd.R_slice HO398.out; subst eo18; have hcz19 := bc4 BK392.out; have hcz20 := bc4 BK390.out) | ((with_reducible refine gate_callee (f := 27) rfl ?_); refine goesL_ (some 14) rfl rfl Tryz.func27 z16_37 rfl #[.slice A0_2 l0_2.length c0_2] rfl z16_3 ?_; (with_reducible refine (laws_toLiveS.calls k _ _ l0_2 t399 _ ?side1 ?side2 A4.out).mono ?_); (case side1 => exact Kd.C_below HR0_2.out z16_1); (case side2 => exact HC0_2.out); rintro e w21 ⟨v400, rfl, ho0, hb⟩; refine ⟨_, rfl, ?_⟩; replace HO395 := Aside0.mk (Kd.R_below (by (with_reducible repeat (first | apply Kd.R_alloc | apply Kd.R_drewN | apply Kd.R_drew)); exact (Kd.R_mono (Kd.R_far (p := ⟨gb392, 1, none⟩) (Kd.R_types HO395.out BK392.out (by decide)) (fun _ hk => by first | exact hk.2 | trivial) (.slice Ao18 t396.length co18)) (fun _ h_ => h_.1))) hb); replace HO398 := Aside0.mk (Kd.R_below (by (with_reducible repeat (first | apply Kd.R_alloc | apply Kd.R_drewN | apply Kd.R_drew)); exact (Kd.R_mono (Kd.R_far (p := ⟨gb392, 1, none⟩) (Kd.R_types HO398.out BK392.out (by decide)) (fun _ hk => by first | exact hk.2 | trivial) (.slice Ao18 t396.length co18)) (fun _ h_ => h_.1))) hb); have HO401 := Aside0.mk (Kd.R_lower ho0 (below_size z16_1)); replace BK390 := bb_ BK390 z16_14 hb; replace BK391 := bb_ BK391 z16_13 hb; replace BK392 := Aside0.mk (blk_below (g := gb392) (o := .cells #[.slice Ao13 t393.length co13, .slice Ao18 t396.length co18, .slice none 0 0, .slice none 0 0] 35 (0, 0)) (by (with_reducible repeat (first | apply bp4_1 | refine blk_drewN ?_ _ | refine blk_drew ?_ | refine blk_alloc ?_ _)); exact BK392.out) hb); replace HB := Aside0.mk (below_step z16_1 hb); (try clear ho0); obtain ⟨Ao22, co22, eo22⟩ := Kd.R_slice HO401.out; subst eo22; have hcz23 := bc4 BK392.out; have hcz24 := bc4 BK390.out) | ((with_reducible refine gate_callee (f := 28) rfl ?_); refine goesL_ (some 18) rfl rfl Tryz.func28 z16_37 rfl #[.slice A0_3 l0_3.length c0_3] rfl z16_3 ?_; (with_reducible refine (laws_toCellS.calls k _ _ l0_3 t402 _ ?side1 ?side2 A5.out).mono ?_); (case side1 => exact Kd.C_below HR0_3.out z16_1); (case side2 => exact HC0_3.out); rintro e w25 ⟨v403, rfl, ho0, hb⟩; refine ⟨_, rfl, ?_⟩; replace HO395 := Aside0.mk (Kd.R_below (by (with_reducible repeat (first | apply Kd.R_alloc | apply Kd.R_drewN | apply Kd.R_drew)); exact (Kd.R_mono (Kd.R_far (p := ⟨gb392, 2, none⟩) (Kd.R_types HO395.out BK392.out (by decide)) (fun _ hk => by first | exact hk.2 | trivial) (.slice Ao22 t399.length co22)) (fun _ h_ => h_.1))) hb); replace HO398 := Aside0.mk (Kd.R_below (by (with_reducible repeat (first | apply Kd.R_alloc | apply Kd.R_drewN | apply Kd.R_drew)); exact (Kd.R_mono (Kd.R_far (p := ⟨gb392, 2, none⟩) (Kd.R_types HO398.out BK392.out (by decide)) (fun _ hk => by first | exact hk.2 | trivial) (.slice Ao22 t399.length co22)) (fun _ h_ => h_.1))) hb); replace HO401 := Aside0.mk (Kd.R_below (by (with_reducible repeat (first | apply Kd.R_alloc | apply Kd.R_drewN | apply Kd.R_drew)); exact (Kd.R_mono (Kd.R_far (p := ⟨gb392, 2, none⟩) (Kd.R_types HO401.out BK392.out (by decide)) (fun _ hk => by first | exact hk.2 | trivial) (.slice Ao22 t399.length co22)) (fun _ h_ => h_.1))) hb); have HO404 := Aside0.mk (Kd.R_lower ho0 (below_size z16_1)); replace BK390 := bb_ BK390 z16_14 hb; replace BK391 := bb_ BK391 z16_13 hb; replace BK392 := Aside0.mk (blk_below (g := gb392) (o := .cells #[.slice Ao13 t393.length co13, .slice Ao18 t396.length co18, .slice Ao22 t399.length co22, .slice none 0 0] 35 (0, 0)) (by (with_reducible repeat (first | apply bp4_2 | refine blk_drewN ?_ _ | refine blk_drew ?_ | refine blk_alloc ?_ _)); exact BK392.out) hb); replace HB := Aside0.mk (below_step z16_1 hb); (try clear ho0); obtain ⟨Ao26, co26, eo26⟩ := Kd.R_slice HO404.out; subst eo26; have hcz27 := bc4 BK392.out; have hcz28 := bc4 BK391.out))
 refine bodyPost_ret (results_cell_row rfl _ _ gb391 35 #[.slice Ao13 t393.length co13, .slice Ao18 t396.length co18, .slice Ao22 t399.length co22, .slice Ao26 t402.length co26] (0, 0) _ rfl (by (with_reducible repeat (first | apply bpa4 | apply blk_far (hp := NB391_392.out) | refine blk_drewN ?_ _ | refine blk_drew ?_ | refine blk_alloc ?_ _)); exact BK391.out) Tryz.underlying35 rfl z16_37) rfl ?_
 exact ⟨_, _, _, _, z16_6, by (with_reducible repeat (first | apply Kd.R_alloc | apply Kd.R_drewN | apply Kd.R_drew)); apply Kd.R_mono; (with_reducible repeat (first | apply Kd.R_far | apply Kd.R_alloc | apply Kd.R_drewN | apply Kd.R_drew)); exact Kd.R_types (Kd.R_types HO395.out BK392.out (by decide)) BK391.out (by decide); all_goals (intro _ hk; first | exact trivial | exact hk.2 | trivial | exact hk.1.2), by (with_reducible repeat (first | apply Kd.R_alloc | apply Kd.R_drewN | apply Kd.R_drew)); apply Kd.R_mono; (with_reducible repeat (first | apply Kd.R_far | apply Kd.R_alloc | apply Kd.R_drewN | apply Kd.R_drew)); exact Kd.R_types (Kd.R_types HO398.out BK392.out (by decide)) BK391.out (by decide); all_goals (intro _ hk; first | exact trivial | exact hk.2 | trivial | exact hk.1.2), by (with_reducible repeat (first | apply Kd.R_alloc | apply Kd.R_drewN | apply Kd.R_drew)); apply Kd.R_mono; (with_reducible repeat (first | apply Kd.R_far | apply Kd.R_alloc | apply Kd.R_drewN | apply Kd.R_drew)); exact Kd.R_types (Kd.R_types HO401.out BK392.out (by decide)) BK391.out (by decide); all_goals (intro _ hk; first | exact trivial | exact hk.2 | trivial | exact hk.1.2), by (with_reducible repeat (first | apply Kd.R_alloc | apply Kd.R_drewN | apply Kd.R_drew)); apply Kd.R_mono; (with_reducible repeat (first | apply Kd.R_far | apply Kd.R_alloc | apply Kd.R_drewN | apply Kd.R_drew)); exact Kd.R_types (Kd.R_types HO404.out BK392.out (by decide)) BK391.out (by decide); all_goals (intro _ hk; first | exact trivial | exact hk.2 | trivial | exact hk.1.2), z16_1⟩
def laws_toAct.f (k : Nat) (a0_0 : Int) (a0_1 : Int) (a0_2 : Int) (l0_3 : List Int) (a0_4 : Int) (a0_5 : ByteArray) (a0_6 : ByteArray) (a0_7 : Int) (a0_8 : Int) (a0_9 : Int) : Option (Int × Int × Int × List Int × Int × ByteArray × ByteArray × Int × Int × Int) := (laws_toDot.f a0_0 a0_1).bind fun bt408 => ((laws_toIntS.f k l0_3).bind fun t410 => ((laws_toDot.f a0_8 a0_9).bind fun bt413 => (some (bt408.1, bt408.2, a0_2, t410, a0_4, a0_5, a0_6, a0_7, bt413.1, bt413.2))))
set_option maxHeartbeats 8000000 in
set_option maxRecDepth 100000 in
theorem laws_toAct.calls (k : Nat) (a0_0 : Int) (a0_1 : Int) (a0_2 : Int) (A0_3 : Option Addr) (c0_3 : Nat) (l0_3 : List Int) (a0_4 : Int) (a0_5 : ByteArray) (a0_6 : ByteArray) (a0_7 : Int) (a0_8 : Int) (a0_9 : Int) (r1 : Int) (r2 : Int) (r3 : Int) (r4 : List Int) (r5 : Int) (r6 : ByteArray) (r7 : ByteArray) (r8 : Int) (r9 : Int) (r10 : Int) (w : World) (hr0_3 : Kd.C (Kd.int .i64) w A0_3 l0_3.length l0_3) (hc0_3 : l0_3.length ≤ c0_3) (h : laws_toAct.f k a0_0 a0_1 a0_2 l0_3 a0_4 a0_5 a0_6 a0_7 a0_8 a0_9 = some (r1, r2, r3, r4, r5, r6, r7, r8, r9, r10)) :
  Calls Tryz.prog 29 #[.agg #[.int .i64 a0_0, .int .i64 a0_1, .int .i64 a0_2, .slice A0_3 l0_3.length c0_3, .int .i64 a0_4, .string a0_5, .string a0_6, .int .i64 a0_7, .int .i64 a0_8, .int .i64 a0_9]] w fun e w' => ∃ v3_ : Value, e = .returned (.agg #[.int .i64 r1, .int .i64 r2, .int .i64 r3, v3_, .int .i64 r5, .string r6, .string r7, .int .i64 r8, .int .i64 r9, .int .i64 r10]) ∧ Kd.R (Kd.int .i64) 3 w' w.heap.size (fun _ => True) v3_ r4 ∧ Below w.heap.size w w' := by
 have hu55 := Tryz.underlying55
 have hu61 := Tryz.underlying61
 have hu53 := Tryz.underlying53
 have hu59 := Tryz.underlying59
 have HR0_3 := Aside0.mk hr0_3
 have HC0_3 := Aside0.mk hc0_3
 clear hr0_3 hc0_3
 have HB := Aside0.mk (Below.refl w.heap.size w)
 have H := h
 unfold laws_toAct.f at H
 clear h
 replace H := Option.bind_eq_some_iff.mp H
 obtain ⟨⟨t408, t409⟩, A20, H⟩ := H
 (try dsimp only at H)
 have A2 := Aside0.mk A20
 clear A20
 replace H := Option.bind_eq_some_iff.mp H
 obtain ⟨t410, A30, H⟩ := H
 (try dsimp only at H)
 have A3 := Aside0.mk A30
 clear A30
 replace H := Option.bind_eq_some_iff.mp H
 obtain ⟨⟨t413, t414⟩, A40, H⟩ := H
 (try dsimp only at H)
 have A4 := Aside0.mk A40
 clear A40
 simp only [Option.some.injEq, Prod.mk.injEq] at H
 obtain ⟨rfl, rfl, rfl, rfl, rfl, rfl, rfl, rfl, rfl, rfl⟩ := H
 go_enter Tryz.func29, Tryz.ntmps29
 go_wp2_with (first | ((with_reducible refine gate_dst (N := 1) rfl ?_); refine box_event ?hg (N := 1) ?hd (cs := #[.int .i64 a0_0, .int .i64 a0_1, .int .i64 a0_2, .slice A0_3 l0_3.length c0_3, .int .i64 a0_4, .string a0_5, .string a0_6, .int .i64 a0_7, .int .i64 a0_8, .int .i64 a0_9]) (t := 55) ?hr ?_; (case hd => rfl); (case hg => rfl); (case hr => first | (go_simp; done) | (go_simp; rfl)); intro gb405 hg w5 hbox hb; have BK405 := Aside0.mk (hbox); have GW405 := gw_ w z16_0 hg; have GE405 := gw_ w z16_0 hg; replace HB := Aside0.mk (below_step z16_0 hb); clear hb hbox hg) | ((with_reducible refine gate_dst (N := 2) rfl ?_); refine box_event ?hg (N := 2) ?hd (cs := #[.int .i64 0, .int .i64 0, .int .i64 0, .slice none 0 0, .int .i64 0, .string (⟨#[]⟩ : ByteArray), .string (⟨#[]⟩ : ByteArray), .int .i64 0, .int .i64 0, .int .i64 0]) (t := 61) ?hr ?_; (case hd => rfl); (case hg => rfl); (case hr => first | (go_simp; done) | (go_simp; rfl)); intro gb406 hg w6 hbox hb; have BK406 := Aside0.mk (hbox); have GW406 := gw_ w z16_24 hg; have GE406 := gw_ w z16_24 hg; replace HB := Aside0.mk (below_step z16_24 hb); have NB405_406 := nb_ BK405 z16_7 hg; have NB406_405 := nc_ BK405 z16_7 hg; replace BK405 := bb_ BK405 z16_7 hb; clear hb hbox hg) | ((with_reducible refine gate_dst (N := 3) rfl ?_); refine box_event ?hg (N := 3) ?hd (cs := #[.int .i64 0, .int .i64 0, .int .i64 0, .slice none 0 0, .int .i64 0, .string (⟨#[]⟩ : ByteArray), .string (⟨#[]⟩ : ByteArray), .int .i64 0, .int .i64 0, .int .i64 0]) (t := 61) ?hr ?_; (case hd => rfl); (case hg => rfl); (case hr => first | (go_simp; done) | (go_simp; rfl)); intro gb407 hg w7 hbox hb; have BK407 := Aside0.mk (hbox); have GW407 := gw_ w z16_16 hg; have GE407 := gw_ w z16_16 hg; replace HB := Aside0.mk (below_step z16_16 hb); have NB405_407 := nb_ BK405 z16_7 hg; have NB407_405 := nc_ BK405 z16_7 hg; replace BK405 := bb_ BK405 z16_7 hb; have NB406_407 := nb_ BK406 z16_22 hg; have NB407_406 := nc_ BK406 z16_22 hg; replace BK406 := bb_ BK406 z16_22 hb; clear hb hbox hg; have hnb8 := NB405_406.out; have hnc8 := NB406_405.out; have hnb9 := NB405_407.out; have hnc9 := NB407_405.out; have hcz10 := bc10 BK405.out) | ((with_reducible refine gate_callee (f := 55) rfl ?_); refine goesL_ (some 6) rfl rfl Tryz.func55 z16_37 rfl #[.agg #[.int .i64 a0_0, .int .i64 a0_1]] rfl z16_3 ?_; (with_reducible refine (laws_toDot.calls a0_0 a0_1 t408 t409 _ A2.out).mono ?_); rintro e w11 ⟨rfl, hb⟩; refine ⟨_, rfl, ?_⟩; replace BK405 := bb_ BK405 z16_7 hb; replace BK406 := bb_ BK406 z16_22 hb; replace BK407 := bb_ BK407 (by (with_reducible repeat (first | refine blk_drewN ?_ _ | refine blk_drew ?_ | refine blk_alloc ?_ _)); exact BK407.out) hb; replace HB := Aside0.mk (below_step z16_4 hb); have hnb12 := NB407_406.out; have hnc12 := NB406_407.out; have hcz13 := bc10 BK407.out; have hcz14 := bc10 BK405.out) | ((with_reducible refine gate_callee (f := 25) rfl ?_); refine goesL_ (some 13) rfl rfl Tryz.func25 z16_37 rfl #[.slice A0_3 l0_3.length c0_3] rfl z16_3 ?_; (with_reducible refine (laws_toIntS.calls k _ _ l0_3 t410 _ ?side1 ?side2 A3.out).mono ?_); (case side1 => exact Kd.C_below HR0_3.out z16_4); (case side2 => exact HC0_3.out); rintro e w15 ⟨v411, rfl, ho0, hb⟩; refine ⟨_, rfl, ?_⟩; have HO412 := Aside0.mk (Kd.R_lower ho0 (below_size z16_4)); replace BK405 := bb_ BK405 (by (with_reducible repeat (first | apply blk_far (hp := NB405_407.out) | refine blk_drewN ?_ _ | refine blk_drew ?_ | refine blk_alloc ?_ _)); exact BK405.out) hb; replace BK406 := bb_ BK406 (by (with_reducible repeat (first | apply blk_far (hp := NB406_407.out) | refine blk_drewN ?_ _ | refine blk_drew ?_ | refine blk_alloc ?_ _)); exact BK406.out) hb; replace BK407 := Aside0.mk (blk_below (g := gb407) (o := .cells #[.int .i64 t408, .int .i64 t409, .int .i64 a0_2, .slice none 0 0, .int .i64 0, .string (⟨#[]⟩ : ByteArray), .string (⟨#[]⟩ : ByteArray), .int .i64 0, .int .i64 0, .int .i64 0] 61 (0, 0)) (by (with_reducible repeat (first | apply bp10_2 | apply bp10_1 | apply bp10_0 | refine blk_drewN ?_ _ | refine blk_drew ?_ | refine blk_alloc ?_ _)); exact BK407.out) hb); replace HB := Aside0.mk (below_step z16_4 hb); (try clear ho0); obtain ⟨Ao16, co16, eo16⟩ := Kd.R_slice HO412.out; subst eo16; have hcz17 := bc10 BK407.out; have hcz18 := bc10 BK405.out) | ((with_reducible refine gate_callee (f := 55) rfl ?_); refine goesL_ (some 29) rfl rfl Tryz.func55 z16_37 rfl #[.agg #[.int .i64 a0_8, .int .i64 a0_9]] rfl z16_3 ?_; (with_reducible refine (laws_toDot.calls a0_8 a0_9 t413 t414 _ A4.out).mono ?_); rintro e w19 ⟨rfl, hb⟩; refine ⟨_, rfl, ?_⟩; replace HO412 := Aside0.mk (Kd.R_below (by (with_reducible repeat (first | apply Kd.R_alloc | apply Kd.R_drewN | apply Kd.R_drew)); exact (Kd.R_mono (Kd.R_far (p := ⟨gb407, 7, none⟩) (Kd.R_far (p := ⟨gb407, 6, none⟩) (Kd.R_far (p := ⟨gb407, 5, none⟩) (Kd.R_far (p := ⟨gb407, 4, none⟩) (Kd.R_far (p := ⟨gb407, 3, none⟩) (Kd.R_types HO412.out BK407.out (by decide)) (fun _ hk => by first | exact hk.2 | trivial) (.slice Ao16 t410.length co16)) (fun _ hk => by first | exact hk.2 | trivial) (.int .i64 a0_4)) (fun _ hk => by first | exact hk.2 | trivial) (.string a0_5)) (fun _ hk => by first | exact hk.2 | trivial) (.string a0_6)) (fun _ hk => by first | exact hk.2 | trivial) (.int .i64 a0_7)) (fun _ h_ => h_.1))) hb); replace BK405 := bb_ BK405 (by (with_reducible repeat (first | apply blk_far (hp := NB405_407.out) | refine blk_drewN ?_ _ | refine blk_drew ?_ | refine blk_alloc ?_ _)); exact BK405.out) hb; replace BK406 := bb_ BK406 (by (with_reducible repeat (first | apply blk_far (hp := NB406_407.out) | refine blk_drewN ?_ _ | refine blk_drew ?_ | refine blk_alloc ?_ _)); exact BK406.out) hb; replace BK407 := Aside0.mk (blk_below (g := gb407) (o := .cells #[.int .i64 t408, .int .i64 t409, .int .i64 a0_2, .slice Ao16 t410.length co16, .int .i64 a0_4, .string a0_5, .string a0_6, .int .i64 a0_7, .int .i64 0, .int .i64 0] 61 (0, 0)) (by (with_reducible repeat (first | apply bp10_7 | apply bp10_6 | apply bp10_5 | apply bp10_4 | apply bp10_3 | refine blk_drewN ?_ _ | refine blk_drew ?_ | refine blk_alloc ?_ _)); exact BK407.out) hb); replace HB := Aside0.mk (below_step z16_4 hb); have hcz20 := bc10 BK407.out; have hcz21 := bc10 BK406.out))
 refine bodyPost_ret (results_cell_row rfl _ _ gb406 61 #[.int .i64 t408, .int .i64 t409, .int .i64 a0_2, .slice Ao16 t410.length co16, .int .i64 a0_4, .string a0_5, .string a0_6, .int .i64 a0_7, .int .i64 t413, .int .i64 t414] (0, 0) _ rfl (by (with_reducible repeat (first | apply bpa10 | apply blk_far (hp := NB406_407.out) | refine blk_drewN ?_ _ | refine blk_drew ?_ | refine blk_alloc ?_ _)); exact BK406.out) Tryz.underlying61 rfl z16_37) rfl ?_
 exact ⟨_, z16_6, by (with_reducible repeat (first | apply Kd.R_alloc | apply Kd.R_drewN | apply Kd.R_drew)); apply Kd.R_mono; (with_reducible repeat (first | apply Kd.R_far | apply Kd.R_alloc | apply Kd.R_drewN | apply Kd.R_drew)); exact Kd.R_types (Kd.R_types HO412.out BK407.out (by decide)) BK406.out (by decide); all_goals (intro _ hk; first | exact trivial | exact hk.2 | trivial | exact hk.1.2), z16_4⟩
def impl_copyInts.f (l0 : List Int) : Option (List Int) := (some (([] : List Int) : List Int)).bind fun y432 => (if y432.length + l0.length < 17592186044416 then (some (y432 ++ l0)) else (none))
set_option maxHeartbeats 8000000 in
set_option maxRecDepth 100000 in
theorem impl_copyInts.calls (A0 : Option Addr) (c0 : Nat) (l0 : List Int) (r : List Int) (w : World) (hr0 : Kd.C (Kd.int .i64) w A0 l0.length l0) (hc0 : l0.length ≤ c0) (h : impl_copyInts.f l0 = some r) :
  Calls Tryz.prog 56 #[.slice A0 l0.length c0] w fun e w' => ∃ v0_ : Value, e = .returned (v0_) ∧ Kd.R (Kd.int .i64) 3 w' w.heap.size (fun _ => True) v0_ r ∧ Below w.heap.size w w' := by
 have HR0 := Aside0.mk hr0
 have HC0 := Aside0.mk hc0
 clear hr0 hc0
 have HB := Aside0.mk (Below.refl w.heap.size w)
 have H : ((some (([] : List Int) : List Int)).bind fun y432 => (if y432.length + l0.length < 17592186044416 then (some (y432 ++ l0)) else (none))) = some r := h
 clear h
 obtain ⟨y432, hy432⟩ : ∃ y_ : List Int, y_ = (([] : List Int)) := ⟨_, rfl⟩
 replace H : (if y432.length + l0.length < 17592186044416 then (some (y432 ++ l0)) else (none)) = some r := by first | (rw [hy432]; with_reducible exact H) | (have H2_ := (Option.bind_some _ _).symm.trans H; rw [hy432]; with_reducible exact H2_) | (have H2_ := (Option.bind_some _ _).symm.trans H; with_reducible exact H2_) | with_reducible exact H | (rw [hy432]; exact H) | exact H
 have Ny432 := Aside0.mk hy432
 clear hy432
 by_cases c2 : y432.length + l0.length < 17592186044416
 rotate_left
 ·
  rw [if_neg c2] at H
  exact absurd H (by simp)
 rw [if_pos c2] at H
 have LMc2 := Aside0.mk c2
 clear c2
 obtain ⟨y435, hy435⟩ : ∃ y_ : List Int, y_ = (y432 ++ l0) := ⟨_, rfl⟩
 replace H : (some y435) = some r := by first | (rw [hy435]; with_reducible exact H) | (have H2_ := (Option.bind_some _ _).symm.trans H; rw [hy435]; with_reducible exact H2_) | (have H2_ := (Option.bind_some _ _).symm.trans H; with_reducible exact H2_) | with_reducible exact H | (rw [hy435]; exact H) | exact H
 have Ny435 := Aside0.mk hy435
 clear hy435
 obtain rfl := Option.some.inj H
 go_enter Tryz.func56, Tryz.ntmps56
 go_wp2_with (first | ((with_reducible refine gate_dst (N := 3) rfl ?_); refine Kd.R_lit (Kd.int .i64) _ 3 ?hg (N := 3) ?hd (xs := ([] : List Int)) (inner := []) (ok := fun _ => True) (okp := fun _ => True) ?hr ?hp (fun _ hk => hk) trivial (Below.refl _ _) (Nat.le_refl _) (by simp) ?_; (case hd => rfl); (case hg => rfl); (case hr => first | (go_simp; done) | (go_simp; rfl)); (case hp => exact (Reps.none _ _)); intro v433 w3 ho4 hb hg_ hnew_; clear hg_ hnew_; (first | rw [← Ny432.out] at ho4 | (simp only [Int.reduceToNat] at ho4; rw [← Ny432.out] at ho4)); have HO434 := Aside0.mk (Kd.R_lower ho4 (below_size z16_0)); replace HB := Aside0.mk (below_step z16_0 hb); clear hb ho4) | ((with_reducible refine gate_builtin (b := .append) (xs := #[.tmp 3, .tmp 4]) rfl ?_); at_builtin; refine Kd.R_append_rows (Kd.int .i64) (w0 := w) w.heap.size rfl (.tmp 3) (.tmp 4) 22 3 (.int .i64 0) 8 rfl Tryz.underlying22 info3 rfl (by decide) (by omega) v433 y432 l0 _ _ _ (fun _ => True) (fun _ => False) rfl rfl ?aO ?aR (fun _ _ h => h) (fun _ h => h.elim) ?aF ?aB ?aS ?aL ?_; (case aR => repeat (first | exact (Kd.C_below HR0.out HB.out) | (with_reducible refine Kd.C_alloc ?_ _) | (with_reducible refine Kd.C_drewN ?_ _) | (with_reducible refine Kd.C_drew ?_))); (case aB => exact z16_0); (case aF => exact (fun _ _ => trivial)); (case aO => exact (by (with_reducible repeat (first | apply Kd.R_alloc | apply Kd.R_drewN | apply Kd.R_drew)); exact HO434.out)); (case aS => exact (below_size z16_0)); (case aL => have := LMc2.out; omega); intro v436 w5 ho hb hg hat; rw [← Ny435.out] at ho; replace HB := Aside0.mk (hb); have HO437 := Aside0.mk (ho); clear HO434; clear ho hb hg hat))
 go_ret
 exact ⟨_, z16_6, by (with_reducible repeat (first | apply Kd.R_alloc | apply Kd.R_drewN | apply Kd.R_drew)); exact HO437.out, z16_0⟩
end Go.Proofs.YtbanogkoaplcdaaGreat.QDa
