/- What the functions behind FnExactMapOf compute, and that the program's calls come to just that. Written by a program of this session on the base of the kit's print. No condition. -/
import Derived.Test.YtbanogkoaplcdaaVFnExactMapOfQx0
namespace Go.Proofs.Ytbanogkoaplcdaa.QFnExactMapOf
open Go.RowKit Go.Proofs.YtbanogkoaplcdaaW.PrintWords Go.Proofs.YtbanogkoaplcdaaW.PrintLast Go.Proofs.YtbanogkoaplcdaaW.PrintMore
attribute [local go_sem] max2_int min2_int max_two min_two max_three min_three max_four min_four   -- for this text's walks alone
set_option linter.unusedVariables false
set_option linter.unusedSimpArgs false
theorem z14_9 {P : Prop} (h : P := by repeat (first | (with_reducible first | exact HB.out | apply below_alloc | apply pw_below_drewN | apply below_drew1) | exact HB.out)) : P := h
theorem z14_8 {P : Prop} (h : P := by first | (with_reducible assumption) | assumption) : P := h
theorem z14_7 {P : Prop} (h : P := by first | rfl | (simp; done) | (simp [*]; done)) : P := h
theorem z14_6 {P : Prop} (h : P := by (with_reducible repeat (first | apply Kd.R_alloc | apply Kd.R_drewN | apply Kd.R_drew)); exact HO_9.out) : P := h
theorem z14_5 {P : Prop} (h : P := by repeat (first | (with_reducible first | exact HB.out | apply below_alloc | apply pw_below_drewN | apply below_drew1 | refine below_set ?_ GE288.out | refine below_set ?_ GE293.out) | exact HB.out)) : P := h
theorem z14_4 {P : Prop} (h : P := by (with_reducible repeat (first | refine blk_drewN ?_ _ | refine blk_drew ?_ | refine blk_alloc ?_ _)); exact BK288.out) : P := h
theorem z14_3 {P : Prop} (h : P := by (with_reducible repeat (first | refine blk_drewN ?_ _ | refine blk_drew ?_ | refine blk_alloc ?_ _)); refine blk_put (cs := #[.bool ((rd_T86 l0_2 x16_1).f0), .string ((rd_T86 l0_2 x16_1).f1), .string ((rd_T86 l0_2 x16_1).f2), .int .i64 ((rd_T86 l0_2 x16_1).f3), .int .i64 ((rd_T86 l0_2 x16_1).f4.f0), .int .i64 0]) ?_ 5 _ rfl; (with_reducible repeat (first | refine blk_drewN ?_ _ | refine blk_drew ?_ | refine blk_alloc ?_ _)); refine blk_put (cs := #[.bool ((rd_T86 l0_2 x16_1).f0), .string ((rd_T86 l0_2 x16_1).f1), .string ((rd_T86 l0_2 x16_1).f2), .int .i64 ((rd_T86 l0_2 x16_1).f3), .int .i64 0, .int .i64 0]) ?_ 4 _ rfl; (with_reducible repeat (first | refine blk_drewN ?_ _ | refine blk_drew ?_ | refine blk_alloc ?_ _)); refine blk_put (cs := #[.bool ((rd_T86 l0_2 x16_1).f0), .string ((rd_T86 l0_2 x16_1).f1), .string ((rd_T86 l0_2 x16_1).f2), .int .i64 0, .int .i64 0, .int .i64 0]) ?_ 3 _ rfl; (with_reducible repeat (first | refine blk_drewN ?_ _ | refine blk_drew ?_ | refine blk_alloc ?_ _)); refine blk_put (cs := #[.bool ((rd_T86 l0_2 x16_1).f0), .string ((rd_T86 l0_2 x16_1).f1), .string (⟨#[]⟩ : ByteArray), .int .i64 0, .int .i64 0, .int .i64 0]) ?_ 2 _ rfl; (with_reducible repeat (first | refine blk_drewN ?_ _ | refine blk_drew ?_ | refine blk_alloc ?_ _)); refine blk_put (cs := #[.bool ((rd_T86 l0_2 x16_1).f0), .string (⟨#[]⟩ : ByteArray), .string (⟨#[]⟩ : ByteArray), .int .i64 0, .int .i64 0, .int .i64 0]) ?_ 1 _ rfl; (with_reducible repeat (first | refine blk_drewN ?_ _ | refine blk_drew ?_ | refine blk_alloc ?_ _)); refine blk_put (cs := #[.bool false, .string (⟨#[]⟩ : ByteArray), .string (⟨#[]⟩ : ByteArray), .int .i64 0, .int .i64 0, .int .i64 0]) ?_ 0 _ rfl; (with_reducible repeat (first | refine blk_drewN ?_ _ | refine blk_drew ?_ | refine blk_alloc ?_ _)); exact BK293.out) : P := h
theorem z14_2 {P : Prop} (h : P := by (with_reducible repeat (first | apply Kd.R_alloc | apply Kd.R_drewN | apply Kd.R_drew)); exact Kd.R_mono (Kd.R_far (p := ⟨gb293, 5, none⟩) (Kd.R_far (p := ⟨gb293, 4, none⟩) (Kd.R_far (p := ⟨gb293, 3, none⟩) (Kd.R_far (p := ⟨gb293, 2, none⟩) (Kd.R_far (p := ⟨gb293, 1, none⟩) (Kd.R_far (p := ⟨gb293, 0, none⟩) (Kd.R_mono HO_9.out (fun k_ hk => (⟨hk, hk.2⟩ : _ ∧ k_ ≠ gb293))) (fun _ hk => by first | exact hk.2 | trivial) (.bool ((rd_T86 l0_2 x16_1).f0))) (fun _ hk => by first | exact hk.2 | trivial) (.string ((rd_T86 l0_2 x16_1).f1))) (fun _ hk => by first | exact hk.2 | trivial) (.string ((rd_T86 l0_2 x16_1).f2))) (fun _ hk => by first | exact hk.2 | trivial) (.int .i64 ((rd_T86 l0_2 x16_1).f3))) (fun _ hk => by first | exact hk.2 | trivial) (.int .i64 ((rd_T86 l0_2 x16_1).f4.f0))) (fun _ hk => by first | exact hk.2 | trivial) (.int .i64 ((rd_T86 l0_2 x16_1).f4.f1))) (fun _ hk => trivial)) : P := h
theorem z14_1 {P : Prop} (h : P := by repeat (first | (with_reducible first | exact HB.out | apply below_alloc | apply pw_below_drewN | apply below_drew1 | refine below_set ?_ GE288.out) | exact HB.out)) : P := h
theorem z14_0 {P : Prop} (h : P := by (with_reducible repeat (first | refine blk_drewN ?_ _ | refine blk_drew ?_ | refine blk_alloc ?_ _)); refine blk_far ?_ NB288_293.out _; (with_reducible repeat (first | refine blk_drewN ?_ _ | refine blk_drew ?_ | refine blk_alloc ?_ _)); refine blk_far ?_ NB288_293.out _; (with_reducible repeat (first | refine blk_drewN ?_ _ | refine blk_drew ?_ | refine blk_alloc ?_ _)); refine blk_far ?_ NB288_293.out _; (with_reducible repeat (first | refine blk_drewN ?_ _ | refine blk_drew ?_ | refine blk_alloc ?_ _)); refine blk_far ?_ NB288_293.out _; (with_reducible repeat (first | refine blk_drewN ?_ _ | refine blk_drew ?_ | refine blk_alloc ?_ _)); refine blk_far ?_ NB288_293.out _; (with_reducible repeat (first | refine blk_drewN ?_ _ | refine blk_drew ?_ | refine blk_alloc ?_ _)); refine blk_far ?_ NB288_293.out _; (with_reducible repeat (first | refine blk_drewN ?_ _ | refine blk_drew ?_ | refine blk_alloc ?_ _)); exact BK288.out) : P := h
def impl_LivesOf.l0 : Nat → Bool → ByteArray → ByteArray → List (S86) → List (S86) → Int → Int → Option ((List (S86)))
  | 0, _, _, _, _, _, _, _ => none
  | k + 1, x1, x2, x3, x9, x14, x15, x16 => if x16 < x15 then (if 0 ≤ x16 then (if x16 < (x14.length : Int) then (if (((rd_T86 x14 x16).f0) == x1) = true then (if ((rd_T86 x14 x16).f1).toList = x2.toList then (if ((rd_T86 x14 x16).f2).toList = x3.toList then (if x9.length < 2199023255552 then (impl_LivesOf.l0 k x1 x2 x3 (x9 ++ [(⟨(rd_T86 x14 x16).f0, (rd_T86 x14 x16).f1, (rd_T86 x14 x16).f2, (rd_T86 x14 x16).f3, (⟨(rd_T86 x14 x16).f4.f0, (rd_T86 x14 x16).f4.f1⟩ : S38)⟩ : S86)]) x14 x15 (wrap64 (x16 + 1))) else (none)) else (impl_LivesOf.l0 k x1 x2 x3 x9 x14 x15 (wrap64 (x16 + 1)))) else (impl_LivesOf.l0 k x1 x2 x3 x9 x14 x15 (wrap64 (x16 + 1)))) else (impl_LivesOf.l0 k x1 x2 x3 x9 x14 x15 (wrap64 (x16 + 1)))) else (none)) else (none)) else (some x9)
def impl_LivesOf.f (k : Nat) (l0_0 : List Int) (l0_1 : List (S84)) (l0_2 : List (S86)) (l0_3 : List (S73)) (a1 : Bool) (a2 : ByteArray) (a3 : ByteArray) : Option ((List (S86))) := impl_LivesOf.l0 k a1 a2 a3 (([] : List (S86))) l0_2 (l0_2.length : Int) 0
set_option maxHeartbeats 8000000 in
set_option maxRecDepth 100000 in
theorem impl_LivesOf.calls (k : Nat) (A0_0 : Option Addr) (c0_0 : Nat) (l0_0 : List Int) (A0_1 : Option Addr) (c0_1 : Nat) (l0_1 : List (S84)) (A0_2 : Option Addr) (c0_2 : Nat) (l0_2 : List (S86)) (A0_3 : Option Addr) (c0_3 : Nat) (l0_3 : List (S73)) (a1 : Bool) (a2 : ByteArray) (a3 : ByteArray) (r : List (S86)) (w : World) (hr0_0 : Kd.C (Kd.int .i64) w A0_0 l0_0.length l0_0) (hc0_0 : l0_0.length ≤ c0_0) (hr0_1 : Kd.C k84 w A0_1 l0_1.length l0_1) (hc0_1 : l0_1.length ≤ c0_1) (hr0_2 : Kd.C k86 w A0_2 l0_2.length l0_2) (hc0_2 : l0_2.length ≤ c0_2) (hr0_3 : Kd.C k73 w A0_3 l0_3.length l0_3) (hc0_3 : l0_3.length ≤ c0_3) (h : impl_LivesOf.f k l0_0 l0_1 l0_2 l0_3 a1 a2 a3 = some r) :
  Calls Try.prog 91 #[.agg #[.slice A0_0 l0_0.length c0_0, .slice A0_1 l0_1.length c0_1, .slice A0_2 l0_2.length c0_2, .slice A0_3 l0_3.length c0_3], .bool a1, .string a2, .string a3] w fun e w' => ∃ v0_ : Value, e = .returned (v0_) ∧ Kd.R k86 86 w' w.heap.size (fun _ => True) v0_ r ∧ Below w.heap.size w w' := by
 have hu36 := Try.underlying36
 have hu86 := Try.underlying86
 have HR0_0 := Aside0.mk hr0_0
 have HC0_0 := Aside0.mk hc0_0
 clear hr0_0 hc0_0
 have HR0_1 := Aside0.mk hr0_1
 have HC0_1 := Aside0.mk hc0_1
 clear hr0_1 hc0_1
 have HR0_2 := Aside0.mk hr0_2
 have HC0_2 := Aside0.mk hc0_2
 clear hr0_2 hc0_2
 have HR0_3 := Aside0.mk hr0_3
 have HC0_3 := Aside0.mk hc0_3
 clear hr0_3 hc0_3
 have HB := Aside0.mk (Below.refl w.heap.size w)
 have H : (impl_LivesOf.l0 k a1 a2 a3 (([] : List (S86))) l0_2 (l0_2.length : Int) 0) = some r := h
 clear h
 obtain ⟨y289, hy289⟩ : ∃ y_ : List (S86), y_ = (([] : List (S86))) := ⟨_, rfl⟩
 replace H : (impl_LivesOf.l0 k a1 a2 a3 y289 l0_2 (l0_2.length : Int) 0) = some r := by first | (rw [hy289]; with_reducible exact H) | (have H2_ := (Option.bind_some _ _).symm.trans H; rw [hy289]; with_reducible exact H2_) | (have H2_ := (Option.bind_some _ _).symm.trans H; with_reducible exact H2_) | with_reducible exact H | (rw [hy289]; exact H) | exact H
 have Ny289 := Aside0.mk hy289
 clear hy289
 have H' := Aside0.mk H
 clear H
 go_enter Try.func91, Try.ntmps91
 go_wp2_with (first | ((with_reducible refine gate_dst (N := 4) rfl ?_); refine box_event ?hg (N := 4) ?hd (cs := #[.slice A0_0 l0_0.length c0_0, .slice A0_1 l0_1.length c0_1, .slice A0_2 l0_2.length c0_2, .slice A0_3 l0_3.length c0_3]) (t := 36) ?hr ?_; (case hd => rfl); (case hg => rfl); (case hr => first | (go_simp; done) | (go_simp; rfl)); intro gb288 hg w5 hbox hb; have n0_ := Aside0.mk (below_step z14_9 hb); have n1_ := Aside0.mk (hbox); have n2_ := Aside0.mk ((by rw [hg]; exact (below_size z14_9) : w.heap.size ≤ gb288)); have n3_ := Aside0.mk ((by rw [hg]; exact (below_size z14_9) : w.heap.size ≤ gb288)); clear HB; have HB := n0_; have BK288 := n1_; have GW288 := n2_; have GE288 := n3_; clear n0_ n1_ n2_ n3_; clear hb hbox hg) | ((with_reducible refine gate_dst (N := 12) rfl ?_); refine Kd.R_lit k86 _ 86 ?hg (N := 12) ?hd (xs := ([] : List (S86))) (inner := []) (ok := fun _ => True) (okp := fun _ => True) ?hr ?hp (fun _ hk => hk) trivial (Below.refl _ _) (Nat.le_refl _) (by simp) ?_; (case hd => rfl); (case hg => rfl); (case hr => first | (go_simp; done) | (go_simp; rfl)); (case hp => exact (Reps.none _ _)); intro v290 w6 ho7 hb hg_ hnew_; clear hg_ hnew_; (first | rw [← Ny289.out] at ho7 | (simp only [Int.reduceToNat] at ho7; rw [← Ny289.out] at ho7)); have n0_ := Aside0.mk (Kd.R_lower ho7 (below_size z14_1)); have n1_ := Aside0.mk (blk_below (g := gb288) (o := .cells #[.slice A0_0 l0_0.length c0_0, .slice A0_1 l0_1.length c0_1, .slice A0_2 l0_2.length c0_2, .slice A0_3 l0_3.length c0_3] 36 (0, 0)) z14_4 hb); have n2_ := Aside0.mk (below_step z14_1 hb); clear BK288; clear HB; have HO291 := n0_; have BK288 := n1_; have HB := n2_; clear n0_ n1_ n2_; clear hb ho7; have hcz8_0 : w6.cell? ⟨gb288, 0, none⟩ = some (.slice A0_0 l0_0.length c0_0) := (blk_cell BK288.out 0).trans rfl; have hcz8_1 : w6.cell? ⟨gb288, 1, none⟩ = some (.slice A0_1 l0_1.length c0_1) := (blk_cell BK288.out 1).trans rfl; have hcz8_2 : w6.cell? ⟨gb288, 2, none⟩ = some (.slice A0_2 l0_2.length c0_2) := (blk_cell BK288.out 2).trans rfl; have hcz8_3 : w6.cell? ⟨gb288, 3, none⟩ = some (.slice A0_3 l0_3.length c0_3) := (blk_cell BK288.out 3).trans rfl; have hfz8_0 := blk_frozen BK288.out 0; have hfz8_1 := blk_frozen BK288.out 1; have hfz8_2 := blk_frozen BK288.out 2; have hfz8_3 := blk_frozen BK288.out 3))
 go_loopg [9, 16] k (fun kq v9 v16 w' => ∃ (x9_1 : List (S86)) (x16_1 : Int), v16 = .int .i64 x16_1 ∧ Aside0 (impl_LivesOf.l0 kq a1 a2 a3 x9_1 l0_2 (l0_2.length : Int) x16_1 = some r) ∧ Aside0 (kq ≤ k) ∧ Aside0 (Kd.R k86 86 w' w.heap.size (fun _ => True) v9 x9_1) ∧ Aside0 (w'.heap[gb288]? = some (.cells #[(.slice A0_0 l0_0.length c0_0), (.slice A0_1 l0_1.length c0_1), (.slice A0_2 l0_2.length c0_2), (.slice A0_3 l0_3.length c0_3)] 36 (0, 0))) ∧ Aside0 (Below w.heap.size w w'))
 case atStart => exact ⟨(y289), (0), z14_7, H', ⟨Nat.le_refl _⟩, ⟨by (with_reducible repeat (first | apply Kd.R_alloc | apply Kd.R_drewN | apply Kd.R_drew)); exact HO291.out⟩, ⟨z14_4⟩, ⟨z14_1⟩⟩
 case round =>
  clear H'
  try clear p2
  try clear hcz8_0
  try clear hcz8_1
  try clear hcz8_2
  try clear hcz8_3
  try clear hfz8_0
  try clear hfz8_1
  try clear hfz8_2
  try clear hfz8_3
  obtain ⟨x9_1, x16_1, rfl, HA, HK1, HO_9, BK288, HB⟩ := hrel
  cases gk with
  | zero => exact absurd HA.out (by simp [impl_LivesOf.l0])
  | succ k1 =>
   have H := HA.out
   clear HA
   simp only [impl_LivesOf.l0] at H
   by_cases c9 : x16_1 < (l0_2.length : Int)
   ·
    rw [if_pos c9] at H
    have c9b0 : decide (x16_1 < (l0_2.length : Int)) = true := decide_eq_true c9
    clear c9
    by_cases c10 : 0 ≤ x16_1
    ·
     rw [if_pos c10] at H
     have c10b0 : decide (0 ≤ x16_1) = true := decide_eq_true c10
     clear c10
     by_cases c11 : x16_1 < (l0_2.length : Int)
     ·
      rw [if_pos c11] at H
      have c11b0 : decide (x16_1 < (l0_2.length : Int)) = true := decide_eq_true c11
      clear c11
      by_cases c12 : (((rd_T86 l0_2 x16_1).f0) == a1) = true
      ·
       rw [if_pos c12] at H
       have c12b0 : (((rd_T86 l0_2 x16_1).f0) == a1) = true := c12
       (try (have c12b1 : decide (((rd_T86 l0_2 x16_1).f0) = a1) = true := by simpa using c12))
       (try (have c12b2 : (((rd_T86 l0_2 x16_1).f0) == a1) = true := by simpa using c12))
       clear c12
       by_cases c13 : ((rd_T86 l0_2 x16_1).f1).toList = a2.toList
       ·
        rw [if_pos c13] at H
        have c13b0 : (((rd_T86 l0_2 x16_1).f1).toList == a2.toList) = true := beq_iff_eq.mpr c13
        have c13b1 : (((rd_T86 l0_2 x16_1).f1).toList != a2.toList) = false := bne_eq_false_iff_eq.mpr c13
        clear c13
        by_cases c14 : ((rd_T86 l0_2 x16_1).f2).toList = a3.toList
        ·
         rw [if_pos c14] at H
         have c14b0 : (((rd_T86 l0_2 x16_1).f2).toList == a3.toList) = true := beq_iff_eq.mpr c14
         have c14b1 : (((rd_T86 l0_2 x16_1).f2).toList != a3.toList) = false := bne_eq_false_iff_eq.mpr c14
         clear c14
         by_cases c15 : x9_1.length < 2199023255552
         ·
          rw [if_pos c15] at H
          have LMc15 := Aside0.mk c15
          clear c15
          obtain ⟨y294, hy294⟩ : ∃ y_ : List (S86), y_ = (x9_1 ++ [(⟨(rd_T86 l0_2 x16_1).f0, (rd_T86 l0_2 x16_1).f1, (rd_T86 l0_2 x16_1).f2, (rd_T86 l0_2 x16_1).f3, (⟨(rd_T86 l0_2 x16_1).f4.f0, (rd_T86 l0_2 x16_1).f4.f1⟩ : S38)⟩ : S86)]) := ⟨_, rfl⟩
          replace H : (impl_LivesOf.l0 k1 a1 a2 a3 y294 l0_2 (l0_2.length : Int) (wrap64 (x16_1 + 1))) = some r := by first | (rw [hy294]; with_reducible exact H) | (have H2_ := (Option.bind_some _ _).symm.trans H; rw [hy294]; with_reducible exact H2_) | (have H2_ := (Option.bind_some _ _).symm.trans H; with_reducible exact H2_) | with_reducible exact H | (rw [hy294]; exact H) | exact H
          have Ny294 := Aside0.mk hy294
          clear hy294
          have H' := Aside0.mk H
          clear H
          have p292 : 0 ≤ (x16_1 : Int) := of_decide_eq_true z14_8
          have q292 : x16_1 < (l0_2.length : Int) := of_decide_eq_true z14_8
          obtain ⟨ad292, e292, hx292_0, hx292_1, hx292_2, hx292_3, hx292_4, hx292_5⟩ := at_T86 HR0_2.out x16_1 p292 q292
          cases e292
          replace hx292_0 := (HB.out.cell (World.block_lt_of_cell? w _ hx292_0)).trans hx292_0
          replace hx292_1 := (HB.out.cell (World.block_lt_of_cell? w _ hx292_1)).trans hx292_1
          replace hx292_2 := (HB.out.cell (World.block_lt_of_cell? w _ hx292_2)).trans hx292_2
          replace hx292_3 := (HB.out.cell (World.block_lt_of_cell? w _ hx292_3)).trans hx292_3
          replace hx292_4 := (HB.out.cell (World.block_lt_of_cell? w _ hx292_4)).trans hx292_4
          replace hx292_5 := (HB.out.cell (World.block_lt_of_cell? w _ hx292_5)).trans hx292_5
          replace p292 := eq_true p292
          replace q292 := eq_true q292
          go_wp2_with (first | ((with_reducible refine gate_dst (N := 11) rfl ?_); refine box_event ?hg (N := 11) ?hd (cs := #[.bool false, .string (⟨#[]⟩ : ByteArray), .string (⟨#[]⟩ : ByteArray), .int .i64 0, .int .i64 0, .int .i64 0]) (t := 86) ?hr ?_; (case hd => rfl); (case hg => rfl); (case hr => first | (go_simp; done) | (go_simp; rfl)); intro gb293 hg w16 hbox hb; have n0_ := Aside0.mk (Kd.R_below (Kd.R_elderB z14_6 gb293 (Nat.le_of_eq hg.symm)) hb); have n1_ := Aside0.mk (blk_below (g := gb288) (o := .cells #[.slice A0_0 l0_0.length c0_0, .slice A0_1 l0_1.length c0_1, .slice (some ad292) l0_2.length c0_2, .slice A0_3 l0_3.length c0_3] 36 (0, 0)) z14_4 hb); have n2_ := Aside0.mk (below_step z14_1 hb); have n3_ := Aside0.mk (hbox); have n4_ := Aside0.mk ((by rw [hg]; exact (below_size z14_1) : w.heap.size ≤ gb293)); have n5_ := Aside0.mk ((by rw [hg]; exact (below_size z14_1) : w.heap.size ≤ gb293)); have n6_ := Aside0.mk ((by rw [hg]; exact Nat.ne_of_lt (blk_lt (g := gb288) (o := .cells #[.slice A0_0 l0_0.length c0_0, .slice A0_1 l0_1.length c0_1, .slice (some ad292) l0_2.length c0_2, .slice A0_3 l0_3.length c0_3] 36 (0, 0)) z14_4) : gb288 ≠ gb293)); have n7_ := Aside0.mk ((by rw [hg]; exact Nat.ne_of_gt (blk_lt (g := gb288) (o := .cells #[.slice A0_0 l0_0.length c0_0, .slice A0_1 l0_1.length c0_1, .slice (some ad292) l0_2.length c0_2, .slice A0_3 l0_3.length c0_3] 36 (0, 0)) z14_4) : gb293 ≠ gb288)); clear HO_9; clear BK288; clear HB; have HO_9 := n0_; have BK288 := n1_; have HB := n2_; have BK293 := n3_; have GW293 := n4_; have GE293 := n5_; have NB288_293 := n6_; have NB293_288 := n7_; clear n0_ n1_ n2_ n3_ n4_ n5_ n6_ n7_; clear hb hbox hg; have hnb17 := NB293_288.out; have hnc17 := NB288_293.out; have hcz18_0 : w16.cell? ⟨gb293, 0, none⟩ = some (.bool false) := (blk_cell BK293.out 0).trans rfl; have hcz18_1 : w16.cell? ⟨gb293, 1, none⟩ = some (.string (⟨#[]⟩ : ByteArray)) := (blk_cell BK293.out 1).trans rfl; have hcz18_2 : w16.cell? ⟨gb293, 2, none⟩ = some (.string (⟨#[]⟩ : ByteArray)) := (blk_cell BK293.out 2).trans rfl; have hcz18_3 : w16.cell? ⟨gb293, 3, none⟩ = some (.int .i64 0) := (blk_cell BK293.out 3).trans rfl; have hcz18_4 : w16.cell? ⟨gb293, 4, none⟩ = some (.int .i64 0) := (blk_cell BK293.out 4).trans rfl; have hcz18_5 : w16.cell? ⟨gb293, 5, none⟩ = some (.int .i64 0) := (blk_cell BK293.out 5).trans rfl; have hfz18_0 := blk_frozen BK293.out 0; have hfz18_1 := blk_frozen BK293.out 1; have hfz18_2 := blk_frozen BK293.out 2; have hfz18_3 := blk_frozen BK293.out 3; have hfz18_4 := blk_frozen BK293.out 4; have hfz18_5 := blk_frozen BK293.out 5) | ((with_reducible refine gate_builtin (b := .append) (xs := #[.tmp 36, .tmp 38]) rfl ?_); at_builtin; refine Kd.R_append k86 (w0 := w) w.heap.size rfl (.tmp 36) (.tmp 38) 33 86 (.agg #[(.bool false), (.string ⟨#[]⟩), (.string ⟨#[]⟩), (.int .i64 0), (.int .i64 0), (.int .i64 0)]) 64 rfl Try.underlying33 info86 rfl (by decide) (by omega) u9 x9_1 (⟨(rd_T86 l0_2 x16_1).f0, (rd_T86 l0_2 x16_1).f1, (rd_T86 l0_2 x16_1).f2, (rd_T86 l0_2 x16_1).f3, (⟨(rd_T86 l0_2 x16_1).f4.f0, (rd_T86 l0_2 x16_1).f4.f1⟩ : S38)⟩ : S86) [.bool ((rd_T86 l0_2 x16_1).f0), .string ((rd_T86 l0_2 x16_1).f1), .string ((rd_T86 l0_2 x16_1).f2), .int .i64 ((rd_T86 l0_2 x16_1).f3), .int .i64 ((rd_T86 l0_2 x16_1).f4.f0), .int .i64 ((rd_T86 l0_2 x16_1).f4.f1)] (fun k_ => k_ ≠ gb293) (fun _ => False) rfl (by first | (go_simp; done) | (go_simp; rfl)) ?aP (fun _ hk => hk.elim) ?aF ?aO ?aB ?aS ?aL ?_; (case aP => exact k86_mkM _ _ _ (⟨(rd_T86 l0_2 x16_1).f0, (rd_T86 l0_2 x16_1).f1, (rd_T86 l0_2 x16_1).f2, (rd_T86 l0_2 x16_1).f3, (⟨(rd_T86 l0_2 x16_1).f4.f0, (rd_T86 l0_2 x16_1).f4.f1⟩ : S38)⟩ : S86)); (case aB => exact z14_5); (case aF => exact (fun k_ hk => Kd.freshB (g := gb293) (o := .cells #[.bool ((rd_T86 l0_2 x16_1).f0), .string ((rd_T86 l0_2 x16_1).f1), .string ((rd_T86 l0_2 x16_1).f2), .int .i64 ((rd_T86 l0_2 x16_1).f3), .int .i64 ((rd_T86 l0_2 x16_1).f4.f0), .int .i64 ((rd_T86 l0_2 x16_1).f4.f1)] 86 (0, 0)) z14_3 k_ hk)); (case aO => exact (by (with_reducible repeat (first | apply Kd.R_alloc | apply Kd.R_drewN | apply Kd.R_drew)); exact Kd.R_mono (Kd.R_far (p := ⟨gb293, 5, none⟩) (Kd.R_far (p := ⟨gb293, 4, none⟩) (Kd.R_far (p := ⟨gb293, 3, none⟩) (Kd.R_far (p := ⟨gb293, 2, none⟩) (Kd.R_far (p := ⟨gb293, 1, none⟩) (Kd.R_far (p := ⟨gb293, 0, none⟩) (Kd.R_mono HO_9.out (fun k_ hk => (⟨hk, hk.2⟩ : _ ∧ k_ ≠ gb293))) (fun _ hk => by first | exact hk.2 | trivial) (.bool ((rd_T86 l0_2 x16_1).f0))) (fun _ hk => by first | exact hk.2 | trivial) (.string ((rd_T86 l0_2 x16_1).f1))) (fun _ hk => by first | exact hk.2 | trivial) (.string ((rd_T86 l0_2 x16_1).f2))) (fun _ hk => by first | exact hk.2 | trivial) (.int .i64 ((rd_T86 l0_2 x16_1).f3))) (fun _ hk => by first | exact hk.2 | trivial) (.int .i64 ((rd_T86 l0_2 x16_1).f4.f0))) (fun _ hk => by first | exact hk.2 | trivial) (.int .i64 ((rd_T86 l0_2 x16_1).f4.f1))) (fun _ hk => hk.1.2))); (case aS => exact (below_size z14_5)); (case aL => have := LMc15.out; omega); intro v295 w19 ho hb hg hat; rw [← Ny294.out] at ho; have n0_ := Aside0.mk (blk_grown (g := gb288) (o := .cells #[.slice A0_0 l0_0.length c0_0, .slice A0_1 l0_1.length c0_1, .slice (some ad292) l0_2.length c0_2, .slice A0_3 l0_3.length c0_3] 36 (0, 0)) z14_0 hg (Kd.R_ne HO_9.out BK288.out (by decide))); have n1_ := Aside0.mk (blk_grown (g := gb293) (o := .cells #[.bool ((rd_T86 l0_2 x16_1).f0), .string ((rd_T86 l0_2 x16_1).f1), .string ((rd_T86 l0_2 x16_1).f2), .int .i64 ((rd_T86 l0_2 x16_1).f3), .int .i64 ((rd_T86 l0_2 x16_1).f4.f0), .int .i64 ((rd_T86 l0_2 x16_1).f4.f1)] 86 (0, 0)) z14_3 hg (Kd.R_away HO_9.out (fun _ hk => by first | exact hk.2 | trivial))); have n2_ := Aside0.mk (hb); have n3_ := Aside0.mk (ho); clear BK288; clear BK293; clear HB; clear HO_9; have BK288 := n0_; have BK293 := n1_; have HB := n2_; have HO296 := n3_; clear n0_ n1_ n2_ n3_; clear ho hb hg hat))
          go_roundg k1
          case measure => have := HK1.out; omega
          case rel => exact ⟨(y294), (wrap64 (x16_1 + 1)), z14_7, H', ⟨by have := HK1.out; omega⟩, ⟨by (with_reducible repeat (first | apply Kd.R_alloc | apply Kd.R_drewN | apply Kd.R_drew)); exact Kd.R_mono HO296.out (fun _ hk => trivial)⟩, ⟨z14_4⟩, ⟨z14_5⟩⟩
         ·
          rw [if_neg c15] at H
          exact absurd H (by simp)
        ·
         rw [if_neg c14] at H
         have c14b0 : (((rd_T86 l0_2 x16_1).f2).toList == a3.toList) = false := beq_eq_false_iff_ne.mpr c14
         have c14b1 : (((rd_T86 l0_2 x16_1).f2).toList != a3.toList) = true := bne_iff_ne.mpr c14
         have H' := Aside0.mk H
         clear H
         have p292 : 0 ≤ (x16_1 : Int) := of_decide_eq_true z14_8
         have q292 : x16_1 < (l0_2.length : Int) := of_decide_eq_true z14_8
         obtain ⟨ad292, e292, hx292_0, hx292_1, hx292_2, hx292_3, hx292_4, hx292_5⟩ := at_T86 HR0_2.out x16_1 p292 q292
         cases e292
         replace hx292_0 := (HB.out.cell (World.block_lt_of_cell? w _ hx292_0)).trans hx292_0
         replace hx292_1 := (HB.out.cell (World.block_lt_of_cell? w _ hx292_1)).trans hx292_1
         replace hx292_2 := (HB.out.cell (World.block_lt_of_cell? w _ hx292_2)).trans hx292_2
         replace hx292_3 := (HB.out.cell (World.block_lt_of_cell? w _ hx292_3)).trans hx292_3
         replace hx292_4 := (HB.out.cell (World.block_lt_of_cell? w _ hx292_4)).trans hx292_4
         replace hx292_5 := (HB.out.cell (World.block_lt_of_cell? w _ hx292_5)).trans hx292_5
         replace p292 := eq_true p292
         replace q292 := eq_true q292
         go_wp2_with (first | ((with_reducible refine gate_dst (N := 11) rfl ?_); refine box_event ?hg (N := 11) ?hd (cs := #[.bool false, .string (⟨#[]⟩ : ByteArray), .string (⟨#[]⟩ : ByteArray), .int .i64 0, .int .i64 0, .int .i64 0]) (t := 86) ?hr ?_; (case hd => rfl); (case hg => rfl); (case hr => first | (go_simp; done) | (go_simp; rfl)); intro gb293 hg w20 hbox hb; have n0_ := Aside0.mk (Kd.R_below (Kd.R_elderB z14_6 gb293 (Nat.le_of_eq hg.symm)) hb); have n1_ := Aside0.mk (blk_below (g := gb288) (o := .cells #[.slice A0_0 l0_0.length c0_0, .slice A0_1 l0_1.length c0_1, .slice (some ad292) l0_2.length c0_2, .slice A0_3 l0_3.length c0_3] 36 (0, 0)) z14_4 hb); have n2_ := Aside0.mk (below_step z14_1 hb); have n3_ := Aside0.mk (hbox); have n4_ := Aside0.mk ((by rw [hg]; exact (below_size z14_1) : w.heap.size ≤ gb293)); have n5_ := Aside0.mk ((by rw [hg]; exact (below_size z14_1) : w.heap.size ≤ gb293)); have n6_ := Aside0.mk ((by rw [hg]; exact Nat.ne_of_lt (blk_lt (g := gb288) (o := .cells #[.slice A0_0 l0_0.length c0_0, .slice A0_1 l0_1.length c0_1, .slice (some ad292) l0_2.length c0_2, .slice A0_3 l0_3.length c0_3] 36 (0, 0)) z14_4) : gb288 ≠ gb293)); have n7_ := Aside0.mk ((by rw [hg]; exact Nat.ne_of_gt (blk_lt (g := gb288) (o := .cells #[.slice A0_0 l0_0.length c0_0, .slice A0_1 l0_1.length c0_1, .slice (some ad292) l0_2.length c0_2, .slice A0_3 l0_3.length c0_3] 36 (0, 0)) z14_4) : gb293 ≠ gb288)); clear HO_9; clear BK288; clear HB; have HO_9 := n0_; have BK288 := n1_; have HB := n2_; have BK293 := n3_; have GW293 := n4_; have GE293 := n5_; have NB288_293 := n6_; have NB293_288 := n7_; clear n0_ n1_ n2_ n3_ n4_ n5_ n6_ n7_; clear hb hbox hg; have hnb21 := NB293_288.out; have hnc21 := NB288_293.out; have hcz22_0 : w20.cell? ⟨gb293, 0, none⟩ = some (.bool false) := (blk_cell BK293.out 0).trans rfl; have hcz22_1 : w20.cell? ⟨gb293, 1, none⟩ = some (.string (⟨#[]⟩ : ByteArray)) := (blk_cell BK293.out 1).trans rfl; have hcz22_2 : w20.cell? ⟨gb293, 2, none⟩ = some (.string (⟨#[]⟩ : ByteArray)) := (blk_cell BK293.out 2).trans rfl; have hcz22_3 : w20.cell? ⟨gb293, 3, none⟩ = some (.int .i64 0) := (blk_cell BK293.out 3).trans rfl; have hcz22_4 : w20.cell? ⟨gb293, 4, none⟩ = some (.int .i64 0) := (blk_cell BK293.out 4).trans rfl; have hcz22_5 : w20.cell? ⟨gb293, 5, none⟩ = some (.int .i64 0) := (blk_cell BK293.out 5).trans rfl; have hfz22_0 := blk_frozen BK293.out 0; have hfz22_1 := blk_frozen BK293.out 1; have hfz22_2 := blk_frozen BK293.out 2; have hfz22_3 := blk_frozen BK293.out 3; have hfz22_4 := blk_frozen BK293.out 4; have hfz22_5 := blk_frozen BK293.out 5))
         go_roundg k1
         case measure => have := HK1.out; omega
         case rel => exact ⟨(x9_1), (wrap64 (x16_1 + 1)), z14_7, H', ⟨by have := HK1.out; omega⟩, ⟨z14_2⟩, ⟨z14_0⟩, ⟨z14_5⟩⟩
       ·
        rw [if_neg c13] at H
        have c13b0 : (((rd_T86 l0_2 x16_1).f1).toList == a2.toList) = false := beq_eq_false_iff_ne.mpr c13
        have c13b1 : (((rd_T86 l0_2 x16_1).f1).toList != a2.toList) = true := bne_iff_ne.mpr c13
        have H' := Aside0.mk H
        clear H
        have p292 : 0 ≤ (x16_1 : Int) := of_decide_eq_true z14_8
        have q292 : x16_1 < (l0_2.length : Int) := of_decide_eq_true z14_8
        obtain ⟨ad292, e292, hx292_0, hx292_1, hx292_2, hx292_3, hx292_4, hx292_5⟩ := at_T86 HR0_2.out x16_1 p292 q292
        cases e292
        replace hx292_0 := (HB.out.cell (World.block_lt_of_cell? w _ hx292_0)).trans hx292_0
        replace hx292_1 := (HB.out.cell (World.block_lt_of_cell? w _ hx292_1)).trans hx292_1
        replace hx292_2 := (HB.out.cell (World.block_lt_of_cell? w _ hx292_2)).trans hx292_2
        replace hx292_3 := (HB.out.cell (World.block_lt_of_cell? w _ hx292_3)).trans hx292_3
        replace hx292_4 := (HB.out.cell (World.block_lt_of_cell? w _ hx292_4)).trans hx292_4
        replace hx292_5 := (HB.out.cell (World.block_lt_of_cell? w _ hx292_5)).trans hx292_5
        replace p292 := eq_true p292
        replace q292 := eq_true q292
        go_wp2_with (first | ((with_reducible refine gate_dst (N := 11) rfl ?_); refine box_event ?hg (N := 11) ?hd (cs := #[.bool false, .string (⟨#[]⟩ : ByteArray), .string (⟨#[]⟩ : ByteArray), .int .i64 0, .int .i64 0, .int .i64 0]) (t := 86) ?hr ?_; (case hd => rfl); (case hg => rfl); (case hr => first | (go_simp; done) | (go_simp; rfl)); intro gb293 hg w23 hbox hb; have n0_ := Aside0.mk (Kd.R_below (Kd.R_elderB z14_6 gb293 (Nat.le_of_eq hg.symm)) hb); have n1_ := Aside0.mk (blk_below (g := gb288) (o := .cells #[.slice A0_0 l0_0.length c0_0, .slice A0_1 l0_1.length c0_1, .slice (some ad292) l0_2.length c0_2, .slice A0_3 l0_3.length c0_3] 36 (0, 0)) z14_4 hb); have n2_ := Aside0.mk (below_step z14_1 hb); have n3_ := Aside0.mk (hbox); have n4_ := Aside0.mk ((by rw [hg]; exact (below_size z14_1) : w.heap.size ≤ gb293)); have n5_ := Aside0.mk ((by rw [hg]; exact (below_size z14_1) : w.heap.size ≤ gb293)); have n6_ := Aside0.mk ((by rw [hg]; exact Nat.ne_of_lt (blk_lt (g := gb288) (o := .cells #[.slice A0_0 l0_0.length c0_0, .slice A0_1 l0_1.length c0_1, .slice (some ad292) l0_2.length c0_2, .slice A0_3 l0_3.length c0_3] 36 (0, 0)) z14_4) : gb288 ≠ gb293)); have n7_ := Aside0.mk ((by rw [hg]; exact Nat.ne_of_gt (blk_lt (g := gb288) (o := .cells #[.slice A0_0 l0_0.length c0_0, .slice A0_1 l0_1.length c0_1, .slice (some ad292) l0_2.length c0_2, .slice A0_3 l0_3.length c0_3] 36 (0, 0)) z14_4) : gb293 ≠ gb288)); clear HO_9; clear BK288; clear HB; have HO_9 := n0_; have BK288 := n1_; have HB := n2_; have BK293 := n3_; have GW293 := n4_; have GE293 := n5_; have NB288_293 := n6_; have NB293_288 := n7_; clear n0_ n1_ n2_ n3_ n4_ n5_ n6_ n7_; clear hb hbox hg; have hnb24 := NB293_288.out; have hnc24 := NB288_293.out; have hcz25_0 : w23.cell? ⟨gb293, 0, none⟩ = some (.bool false) := (blk_cell BK293.out 0).trans rfl; have hcz25_1 : w23.cell? ⟨gb293, 1, none⟩ = some (.string (⟨#[]⟩ : ByteArray)) := (blk_cell BK293.out 1).trans rfl; have hcz25_2 : w23.cell? ⟨gb293, 2, none⟩ = some (.string (⟨#[]⟩ : ByteArray)) := (blk_cell BK293.out 2).trans rfl; have hcz25_3 : w23.cell? ⟨gb293, 3, none⟩ = some (.int .i64 0) := (blk_cell BK293.out 3).trans rfl; have hcz25_4 : w23.cell? ⟨gb293, 4, none⟩ = some (.int .i64 0) := (blk_cell BK293.out 4).trans rfl; have hcz25_5 : w23.cell? ⟨gb293, 5, none⟩ = some (.int .i64 0) := (blk_cell BK293.out 5).trans rfl; have hfz25_0 := blk_frozen BK293.out 0; have hfz25_1 := blk_frozen BK293.out 1; have hfz25_2 := blk_frozen BK293.out 2; have hfz25_3 := blk_frozen BK293.out 3; have hfz25_4 := blk_frozen BK293.out 4; have hfz25_5 := blk_frozen BK293.out 5))
        go_roundg k1
        case measure => have := HK1.out; omega
        case rel => exact ⟨(x9_1), (wrap64 (x16_1 + 1)), z14_7, H', ⟨by have := HK1.out; omega⟩, ⟨z14_2⟩, ⟨z14_0⟩, ⟨z14_5⟩⟩
      ·
       rw [if_neg c12] at H
       have c12b0 : (((rd_T86 l0_2 x16_1).f0) == a1) = false := by simpa using c12
       (try (have c12b1 : decide (((rd_T86 l0_2 x16_1).f0) = a1) = false := by simpa using c12))
       (try (have c12b2 : (((rd_T86 l0_2 x16_1).f0) == a1) = false := by simpa using c12))
       (try (have c12b3 : ¬ (((rd_T86 l0_2 x16_1).f0) = a1) := by simpa using c12))
       clear c12
       have H' := Aside0.mk H
       clear H
       have p292 : 0 ≤ (x16_1 : Int) := of_decide_eq_true z14_8
       have q292 : x16_1 < (l0_2.length : Int) := of_decide_eq_true z14_8
       obtain ⟨ad292, e292, hx292_0, hx292_1, hx292_2, hx292_3, hx292_4, hx292_5⟩ := at_T86 HR0_2.out x16_1 p292 q292
       cases e292
       replace hx292_0 := (HB.out.cell (World.block_lt_of_cell? w _ hx292_0)).trans hx292_0
       replace hx292_1 := (HB.out.cell (World.block_lt_of_cell? w _ hx292_1)).trans hx292_1
       replace hx292_2 := (HB.out.cell (World.block_lt_of_cell? w _ hx292_2)).trans hx292_2
       replace hx292_3 := (HB.out.cell (World.block_lt_of_cell? w _ hx292_3)).trans hx292_3
       replace hx292_4 := (HB.out.cell (World.block_lt_of_cell? w _ hx292_4)).trans hx292_4
       replace hx292_5 := (HB.out.cell (World.block_lt_of_cell? w _ hx292_5)).trans hx292_5
       replace p292 := eq_true p292
       replace q292 := eq_true q292
       go_wp2_with (first | ((with_reducible refine gate_dst (N := 11) rfl ?_); refine box_event ?hg (N := 11) ?hd (cs := #[.bool false, .string (⟨#[]⟩ : ByteArray), .string (⟨#[]⟩ : ByteArray), .int .i64 0, .int .i64 0, .int .i64 0]) (t := 86) ?hr ?_; (case hd => rfl); (case hg => rfl); (case hr => first | (go_simp; done) | (go_simp; rfl)); intro gb293 hg w26 hbox hb; have n0_ := Aside0.mk (Kd.R_below (Kd.R_elderB z14_6 gb293 (Nat.le_of_eq hg.symm)) hb); have n1_ := Aside0.mk (blk_below (g := gb288) (o := .cells #[.slice A0_0 l0_0.length c0_0, .slice A0_1 l0_1.length c0_1, .slice (some ad292) l0_2.length c0_2, .slice A0_3 l0_3.length c0_3] 36 (0, 0)) z14_4 hb); have n2_ := Aside0.mk (below_step z14_1 hb); have n3_ := Aside0.mk (hbox); have n4_ := Aside0.mk ((by rw [hg]; exact (below_size z14_1) : w.heap.size ≤ gb293)); have n5_ := Aside0.mk ((by rw [hg]; exact (below_size z14_1) : w.heap.size ≤ gb293)); have n6_ := Aside0.mk ((by rw [hg]; exact Nat.ne_of_lt (blk_lt (g := gb288) (o := .cells #[.slice A0_0 l0_0.length c0_0, .slice A0_1 l0_1.length c0_1, .slice (some ad292) l0_2.length c0_2, .slice A0_3 l0_3.length c0_3] 36 (0, 0)) z14_4) : gb288 ≠ gb293)); have n7_ := Aside0.mk ((by rw [hg]; exact Nat.ne_of_gt (blk_lt (g := gb288) (o := .cells #[.slice A0_0 l0_0.length c0_0, .slice A0_1 l0_1.length c0_1, .slice (some ad292) l0_2.length c0_2, .slice A0_3 l0_3.length c0_3] 36 (0, 0)) z14_4) : gb293 ≠ gb288)); clear HO_9; clear BK288; clear HB; have HO_9 := n0_; have BK288 := n1_; have HB := n2_; have BK293 := n3_; have GW293 := n4_; have GE293 := n5_; have NB288_293 := n6_; have NB293_288 := n7_; clear n0_ n1_ n2_ n3_ n4_ n5_ n6_ n7_; clear hb hbox hg; have hnb27 := NB293_288.out; have hnc27 := NB288_293.out; have hcz28_0 : w26.cell? ⟨gb293, 0, none⟩ = some (.bool false) := (blk_cell BK293.out 0).trans rfl; have hcz28_1 : w26.cell? ⟨gb293, 1, none⟩ = some (.string (⟨#[]⟩ : ByteArray)) := (blk_cell BK293.out 1).trans rfl; have hcz28_2 : w26.cell? ⟨gb293, 2, none⟩ = some (.string (⟨#[]⟩ : ByteArray)) := (blk_cell BK293.out 2).trans rfl; have hcz28_3 : w26.cell? ⟨gb293, 3, none⟩ = some (.int .i64 0) := (blk_cell BK293.out 3).trans rfl; have hcz28_4 : w26.cell? ⟨gb293, 4, none⟩ = some (.int .i64 0) := (blk_cell BK293.out 4).trans rfl; have hcz28_5 : w26.cell? ⟨gb293, 5, none⟩ = some (.int .i64 0) := (blk_cell BK293.out 5).trans rfl; have hfz28_0 := blk_frozen BK293.out 0; have hfz28_1 := blk_frozen BK293.out 1; have hfz28_2 := blk_frozen BK293.out 2; have hfz28_3 := blk_frozen BK293.out 3; have hfz28_4 := blk_frozen BK293.out 4; have hfz28_5 := blk_frozen BK293.out 5))
       go_roundg k1
       case measure => have := HK1.out; omega
       case rel => exact ⟨(x9_1), (wrap64 (x16_1 + 1)), z14_7, H', ⟨by have := HK1.out; omega⟩, ⟨z14_2⟩, ⟨z14_0⟩, ⟨z14_5⟩⟩
     ·
      rw [if_neg c11] at H
      exact absurd H (by simp)
    ·
     rw [if_neg c10] at H
     exact absurd H (by simp)
   ·
    rw [if_neg c9] at H
    have c9b0 : decide (x16_1 < (l0_2.length : Int)) = false := decide_eq_false c9
    clear c9
    obtain rfl := Option.some.inj H
    go_wp2
    go_ret
    exact ⟨_, by first | rfl | (simp [errW_none, errW_some] <;> rfl) | (simp [*, errW_none, errW_some] <;> rfl), z14_6, z14_1⟩
end Go.Proofs.Ytbanogkoaplcdaa.QFnExactMapOf
