/- What the functions behind Act compute, and that the program's calls come to just that. Written by a program of this session on the base of the kit's print. No condition. -/
import Derived.Test.YtmohbiagcbfkpaaVFnExactLivesOfQActx0
namespace Go.Proofs.Ytmohbiagcbfkpaa.QAct
open Go.RowKit Go.Proofs.YtmohbiagcbfkpaaW.PrintWords Go.Proofs.YtmohbiagcbfkpaaW.PrintLast Go.Proofs.YtmohbiagcbfkpaaW.PrintMore
attribute [local go_sem] max2_int min2_int max_two min_two max_three min_three max_four min_four   -- for this text's walks alone
set_option linter.unusedVariables false
set_option linter.unusedSimpArgs false
theorem z22_20 {P : Prop} (h : P := by first | rfl | (simp only [List.map_toArray, List.map_cons, List.map_nil]; first | done | rfl)) : P := h
theorem z22_19 {P : Prop} (h : P := by have := HK1.out; omega) : P := h
theorem z22_18 {P : Prop} (h : P := by first | rfl | (simp [errW_none, errW_some] <;> rfl) | (simp [*, errW_none, errW_some] <;> rfl)) : P := h
theorem z22_17 {P : Prop} (h : P := by (with_reducible repeat (first | apply Kd.R_alloc | apply Kd.R_drewN | apply Kd.R_drew)); exact HO_9.out) : P := h
theorem z22_16 {P : Prop} (h : P := by first | rfl | (simp; done) | (simp [*]; done)) : P := h
theorem z22_15 {P : Prop} (h : P := by repeat (first | (with_reducible first | exact HB.out | apply below_alloc | apply pw_below_drewN | apply below_drew1 | refine below_set ?_ GE628.out | refine below_set ?_ GE633.out) | exact HB.out)) : P := h
theorem z22_14 {P : Prop} (h : P := by repeat (first | (with_reducible first | exact HB.out | apply below_alloc | apply pw_below_drewN | apply below_drew1 | refine below_set ?_ GE637.out | refine below_set ?_ GE642.out) | exact HB.out)) : P := h
theorem z22_13 {P : Prop} (h : P := by (with_reducible repeat (first | apply Kd.R_alloc | apply Kd.R_drewN | apply Kd.R_drew)); exact HO_0.out) : P := h
theorem z22_12 {P : Prop} (h : P := by (with_reducible repeat (first | apply Kd.R_alloc | apply Kd.R_drewN | apply Kd.R_drew)); exact Kd.R_mono (Kd.R_far (p := ⟨gb633, 5, none⟩) (Kd.R_far (p := ⟨gb633, 4, none⟩) (Kd.R_far (p := ⟨gb633, 3, none⟩) (Kd.R_far (p := ⟨gb633, 2, none⟩) (Kd.R_far (p := ⟨gb633, 1, none⟩) (Kd.R_far (p := ⟨gb633, 0, none⟩) (Kd.R_mono HO_9.out (fun k_ hk => (⟨hk, hk.2⟩ : _ ∧ k_ ≠ gb633))) (fun _ hk => hk.2) (.bool ((rd_T134 l0_2 x10_1).f0))) (fun _ hk => hk.2) (.string ((rd_T134 l0_2 x10_1).f1))) (fun _ hk => hk.2) (.string ((rd_T134 l0_2 x10_1).f2))) (fun _ hk => hk.2) (.int .i64 ((rd_T134 l0_2 x10_1).f3))) (fun _ hk => hk.2) (.int .i64 ((rd_T134 l0_2 x10_1).f4.f0))) (fun _ hk => hk.2) (.int .i64 ((rd_T134 l0_2 x10_1).f4.f1))) (fun _ hk => trivial)) : P := h
theorem z22_11 {P : Prop} (h : P := by (with_reducible repeat (first | apply Kd.R_alloc | apply Kd.R_drewN | apply Kd.R_drew)); exact Kd.R_mono (Kd.R_far (p := ⟨gb642, 5, none⟩) (Kd.R_far (p := ⟨gb642, 4, none⟩) (Kd.R_far (p := ⟨gb642, 3, none⟩) (Kd.R_far (p := ⟨gb642, 2, none⟩) (Kd.R_far (p := ⟨gb642, 1, none⟩) (Kd.R_far (p := ⟨gb642, 0, none⟩) (Kd.R_mono HO_9.out (fun k_ hk => (⟨hk, hk.2⟩ : _ ∧ k_ ≠ gb642))) (fun _ hk => hk.2) (.bool ((rd_T134 l0_2 x16_1).f0))) (fun _ hk => hk.2) (.string ((rd_T134 l0_2 x16_1).f1))) (fun _ hk => hk.2) (.string ((rd_T134 l0_2 x16_1).f2))) (fun _ hk => hk.2) (.int .i64 ((rd_T134 l0_2 x16_1).f3))) (fun _ hk => hk.2) (.int .i64 ((rd_T134 l0_2 x16_1).f4.f0))) (fun _ hk => hk.2) (.int .i64 ((rd_T134 l0_2 x16_1).f4.f1))) (fun _ hk => trivial)) : P := h
theorem z22_10 {P : Prop} (h : P := by (with_reducible repeat (first | refine blk_drewN ?_ _ | refine blk_drew ?_ | refine blk_alloc ?_ _)); exact BK628.out) : P := h
theorem z22_9 {P : Prop} (h : P := by (with_reducible repeat (first | refine blk_drewN ?_ _ | refine blk_drew ?_ | refine blk_alloc ?_ _)); exact BK637.out) : P := h
theorem z22_8 {P : Prop} (h : P := by (with_reducible repeat (first | refine blk_drewN ?_ _ | refine blk_drew ?_ | refine blk_alloc ?_ _)); refine blk_put (cs := #[.bool ((rd_T134 l0_2 x10_1).f0), .string ((rd_T134 l0_2 x10_1).f1), .string ((rd_T134 l0_2 x10_1).f2), .int .i64 ((rd_T134 l0_2 x10_1).f3), .int .i64 ((rd_T134 l0_2 x10_1).f4.f0), .int .i64 0]) ?_ 5 _ rfl; (with_reducible repeat (first | refine blk_drewN ?_ _ | refine blk_drew ?_ | refine blk_alloc ?_ _)); refine blk_put (cs := #[.bool ((rd_T134 l0_2 x10_1).f0), .string ((rd_T134 l0_2 x10_1).f1), .string ((rd_T134 l0_2 x10_1).f2), .int .i64 ((rd_T134 l0_2 x10_1).f3), .int .i64 0, .int .i64 0]) ?_ 4 _ rfl; (with_reducible repeat (first | refine blk_drewN ?_ _ | refine blk_drew ?_ | refine blk_alloc ?_ _)); refine blk_put (cs := #[.bool ((rd_T134 l0_2 x10_1).f0), .string ((rd_T134 l0_2 x10_1).f1), .string ((rd_T134 l0_2 x10_1).f2), .int .i64 0, .int .i64 0, .int .i64 0]) ?_ 3 _ rfl; (with_reducible repeat (first | refine blk_drewN ?_ _ | refine blk_drew ?_ | refine blk_alloc ?_ _)); refine blk_put (cs := #[.bool ((rd_T134 l0_2 x10_1).f0), .string ((rd_T134 l0_2 x10_1).f1), .string (⟨#[]⟩ : ByteArray), .int .i64 0, .int .i64 0, .int .i64 0]) ?_ 2 _ rfl; (with_reducible repeat (first | refine blk_drewN ?_ _ | refine blk_drew ?_ | refine blk_alloc ?_ _)); refine blk_put (cs := #[.bool ((rd_T134 l0_2 x10_1).f0), .string (⟨#[]⟩ : ByteArray), .string (⟨#[]⟩ : ByteArray), .int .i64 0, .int .i64 0, .int .i64 0]) ?_ 1 _ rfl; (with_reducible repeat (first | refine blk_drewN ?_ _ | refine blk_drew ?_ | refine blk_alloc ?_ _)); refine blk_put (cs := #[.bool false, .string (⟨#[]⟩ : ByteArray), .string (⟨#[]⟩ : ByteArray), .int .i64 0, .int .i64 0, .int .i64 0]) ?_ 0 _ rfl; (with_reducible repeat (first | refine blk_drewN ?_ _ | refine blk_drew ?_ | refine blk_alloc ?_ _)); exact BK633.out) : P := h
theorem z22_7 {P : Prop} (h : P := by (with_reducible repeat (first | refine blk_drewN ?_ _ | refine blk_drew ?_ | refine blk_alloc ?_ _)); refine blk_put (cs := #[.bool ((rd_T134 l0_2 x16_1).f0), .string ((rd_T134 l0_2 x16_1).f1), .string ((rd_T134 l0_2 x16_1).f2), .int .i64 ((rd_T134 l0_2 x16_1).f3), .int .i64 ((rd_T134 l0_2 x16_1).f4.f0), .int .i64 0]) ?_ 5 _ rfl; (with_reducible repeat (first | refine blk_drewN ?_ _ | refine blk_drew ?_ | refine blk_alloc ?_ _)); refine blk_put (cs := #[.bool ((rd_T134 l0_2 x16_1).f0), .string ((rd_T134 l0_2 x16_1).f1), .string ((rd_T134 l0_2 x16_1).f2), .int .i64 ((rd_T134 l0_2 x16_1).f3), .int .i64 0, .int .i64 0]) ?_ 4 _ rfl; (with_reducible repeat (first | refine blk_drewN ?_ _ | refine blk_drew ?_ | refine blk_alloc ?_ _)); refine blk_put (cs := #[.bool ((rd_T134 l0_2 x16_1).f0), .string ((rd_T134 l0_2 x16_1).f1), .string ((rd_T134 l0_2 x16_1).f2), .int .i64 0, .int .i64 0, .int .i64 0]) ?_ 3 _ rfl; (with_reducible repeat (first | refine blk_drewN ?_ _ | refine blk_drew ?_ | refine blk_alloc ?_ _)); refine blk_put (cs := #[.bool ((rd_T134 l0_2 x16_1).f0), .string ((rd_T134 l0_2 x16_1).f1), .string (⟨#[]⟩ : ByteArray), .int .i64 0, .int .i64 0, .int .i64 0]) ?_ 2 _ rfl; (with_reducible repeat (first | refine blk_drewN ?_ _ | refine blk_drew ?_ | refine blk_alloc ?_ _)); refine blk_put (cs := #[.bool ((rd_T134 l0_2 x16_1).f0), .string (⟨#[]⟩ : ByteArray), .string (⟨#[]⟩ : ByteArray), .int .i64 0, .int .i64 0, .int .i64 0]) ?_ 1 _ rfl; (with_reducible repeat (first | refine blk_drewN ?_ _ | refine blk_drew ?_ | refine blk_alloc ?_ _)); refine blk_put (cs := #[.bool false, .string (⟨#[]⟩ : ByteArray), .string (⟨#[]⟩ : ByteArray), .int .i64 0, .int .i64 0, .int .i64 0]) ?_ 0 _ rfl; (with_reducible repeat (first | refine blk_drewN ?_ _ | refine blk_drew ?_ | refine blk_alloc ?_ _)); exact BK642.out) : P := h
theorem z22_6 {P : Prop} (h : P := by repeat (first | (with_reducible first | exact HK.out | apply Kept.alloc | apply Kept.drewN | apply Kept.drew) | exact HK.out)) : P := h
theorem z22_5 {P : Prop} (h : P := by repeat (first | (with_reducible first | exact HB.out | apply below_alloc | apply pw_below_drewN | apply below_drew1 | refine below_set ?_ GE628.out) | exact HB.out)) : P := h
theorem z22_4 {P : Prop} (h : P := by repeat (first | (with_reducible first | exact HB.out | apply below_alloc | apply pw_below_drewN | apply below_drew1 | refine below_set ?_ GE637.out) | exact HB.out)) : P := h
theorem z22_3 {P : Prop} (h : P := by repeat (first | (with_reducible first | exact HB.out | apply below_alloc | apply pw_below_drewN | apply below_drew1) | exact HB.out)) : P := h
theorem z22_2 {P : Prop} (h : P := by (with_reducible repeat (first | refine blk_drewN ?_ _ | refine blk_drew ?_ | refine blk_alloc ?_ _)); refine blk_far ?_ NB628_633.out _; (with_reducible repeat (first | refine blk_drewN ?_ _ | refine blk_drew ?_ | refine blk_alloc ?_ _)); refine blk_far ?_ NB628_633.out _; (with_reducible repeat (first | refine blk_drewN ?_ _ | refine blk_drew ?_ | refine blk_alloc ?_ _)); refine blk_far ?_ NB628_633.out _; (with_reducible repeat (first | refine blk_drewN ?_ _ | refine blk_drew ?_ | refine blk_alloc ?_ _)); refine blk_far ?_ NB628_633.out _; (with_reducible repeat (first | refine blk_drewN ?_ _ | refine blk_drew ?_ | refine blk_alloc ?_ _)); refine blk_far ?_ NB628_633.out _; (with_reducible repeat (first | refine blk_drewN ?_ _ | refine blk_drew ?_ | refine blk_alloc ?_ _)); refine blk_far ?_ NB628_633.out _; (with_reducible repeat (first | refine blk_drewN ?_ _ | refine blk_drew ?_ | refine blk_alloc ?_ _)); exact BK628.out) : P := h
theorem z22_1 {P : Prop} (h : P := by (with_reducible repeat (first | refine blk_drewN ?_ _ | refine blk_drew ?_ | refine blk_alloc ?_ _)); refine blk_far ?_ NB637_642.out _; (with_reducible repeat (first | refine blk_drewN ?_ _ | refine blk_drew ?_ | refine blk_alloc ?_ _)); refine blk_far ?_ NB637_642.out _; (with_reducible repeat (first | refine blk_drewN ?_ _ | refine blk_drew ?_ | refine blk_alloc ?_ _)); refine blk_far ?_ NB637_642.out _; (with_reducible repeat (first | refine blk_drewN ?_ _ | refine blk_drew ?_ | refine blk_alloc ?_ _)); refine blk_far ?_ NB637_642.out _; (with_reducible repeat (first | refine blk_drewN ?_ _ | refine blk_drew ?_ | refine blk_alloc ?_ _)); refine blk_far ?_ NB637_642.out _; (with_reducible repeat (first | refine blk_drewN ?_ _ | refine blk_drew ?_ | refine blk_alloc ?_ _)); refine blk_far ?_ NB637_642.out _; (with_reducible repeat (first | refine blk_drewN ?_ _ | refine blk_drew ?_ | refine blk_alloc ?_ _)); exact BK637.out) : P := h
theorem z22_0 {P : Prop} (h : P := by first | (with_reducible assumption) | assumption) : P := h
def spec_LivesOf.l0 : Nat → Bool → ByteArray → ByteArray → List (S134) → Int → List Int → List (S127) → List (S134) → List (S167) → Option ((List (S134)))
  | 0, _, _, _, _, _, _, _, _, _ => none
  | k + 1, x1, x2, x3, x9, x10, x629000, x629001, x629002, x629003 => if x10 < (x629002.length : Int) then (if 0 ≤ x10 then (if (((rd_T134 x629002 x10).f0) == x1) = true then (if ((rd_T134 x629002 x10).f1).toList = x2.toList then (if ((rd_T134 x629002 x10).f2).toList = x3.toList then (if x9.length < 2199023255552 then (spec_LivesOf.l0 k x1 x2 x3 (x9 ++ [(⟨(rd_T134 x629002 x10).f0, (rd_T134 x629002 x10).f1, (rd_T134 x629002 x10).f2, (rd_T134 x629002 x10).f3, (⟨(rd_T134 x629002 x10).f4.f0, (rd_T134 x629002 x10).f4.f1⟩ : S29)⟩ : S134)]) (wrap64 (x10 + 1)) x629000 x629001 x629002 x629003) else (none)) else (spec_LivesOf.l0 k x1 x2 x3 x9 (wrap64 (x10 + 1)) x629000 x629001 x629002 x629003)) else (spec_LivesOf.l0 k x1 x2 x3 x9 (wrap64 (x10 + 1)) x629000 x629001 x629002 x629003)) else (spec_LivesOf.l0 k x1 x2 x3 x9 (wrap64 (x10 + 1)) x629000 x629001 x629002 x629003)) else (none)) else (some x9)
def spec_LivesOf.f (k : Nat) (l0_0 : List Int) (l0_1 : List (S127)) (l0_2 : List (S134)) (l0_3 : List (S167)) (a1 : Bool) (a2 : ByteArray) (a3 : ByteArray) : Option ((List (S134))) := spec_LivesOf.l0 k a1 a2 a3 (([] : List (S134))) 0 l0_0 l0_1 l0_2 l0_3
set_option maxHeartbeats 8000000 in
set_option maxRecDepth 100000 in
theorem spec_LivesOf.calls (k : Nat) (A0_0 : Option Addr) (c0_0 : Nat) (l0_0 : List Int) (A0_1 : Option Addr) (c0_1 : Nat) (l0_1 : List (S127)) (A0_2 : Option Addr) (c0_2 : Nat) (l0_2 : List (S134)) (A0_3 : Option Addr) (c0_3 : Nat) (l0_3 : List (S167)) (a1 : Bool) (a2 : ByteArray) (a3 : ByteArray) (r : List (S134)) (w : World) (hr0_0 : Kd.C (Kd.int .i64) w A0_0 l0_0.length l0_0) (hc0_0 : l0_0.length ≤ c0_0) (hr0_1 : Kd.C k127 w A0_1 l0_1.length l0_1) (hc0_1 : l0_1.length ≤ c0_1) (hr0_2 : Kd.C k134 w A0_2 l0_2.length l0_2) (hc0_2 : l0_2.length ≤ c0_2) (hr0_3 : Kd.C k167 w A0_3 l0_3.length l0_3) (hc0_3 : l0_3.length ≤ c0_3) (h : spec_LivesOf.f k l0_0 l0_1 l0_2 l0_3 a1 a2 a3 = some r) :
  Calls Try.prog 34 #[.agg #[.slice A0_0 l0_0.length c0_0, .slice A0_1 l0_1.length c0_1, .slice A0_2 l0_2.length c0_2, .slice A0_3 l0_3.length c0_3], .bool a1, .string a2, .string a3] w fun e w' => ∃ v0_ : Value, e = .returned (v0_) ∧ Kd.R k134 134 w' w.heap.size (fun _ => True) v0_ r ∧ Below w.heap.size w w' := by
 have hu53 := Try.underlying53
 have hu134 := Try.underlying134
 have HR0_0 := Aside0.mk hr0_0
 have HC0_0 := Aside0.mk hc0_0
 clear hr0_0 hc0_0
 have HR0_1 := Aside0.mk hr0_1
 have HC0_1 := Aside0.mk hc0_1
 clear hr0_1 hc0_1
 have HR0_2 := Aside0.mk hr0_2
 have HC0_2 := Aside0.mk hc0_2
 clear hr0_2 hc0_2
 have HR0_3 := Aside0.mk hr0_3
 have HC0_3 := Aside0.mk hc0_3
 clear hr0_3 hc0_3
 have HB := Aside0.mk (Below.refl w.heap.size w)
 have H : (spec_LivesOf.l0 k a1 a2 a3 (([] : List (S134))) 0 l0_0 l0_1 l0_2 l0_3) = some r := h
 clear h
 obtain ⟨y629, hy629⟩ : ∃ y_ : List (S134), y_ = (([] : List (S134))) := ⟨_, rfl⟩
 replace H : (spec_LivesOf.l0 k a1 a2 a3 y629 0 l0_0 l0_1 l0_2 l0_3) = some r := by first | (rw [hy629]; with_reducible exact H) | (have H2_ := (Option.bind_some _ _).symm.trans H; rw [hy629]; with_reducible exact H2_) | (have H2_ := (Option.bind_some _ _).symm.trans H; with_reducible exact H2_) | with_reducible exact H | (rw [hy629]; exact H) | exact H
 have Ny629 := Aside0.mk hy629
 clear hy629
 have H' := Aside0.mk H
 clear H
 go_enter Try.func34, Try.ntmps34
 go_wp2_with (first | ((with_reducible refine gate_dst (N := 4) rfl ?_); refine box_event ?hg (N := 4) ?hd (cs := #[.slice A0_0 l0_0.length c0_0, .slice A0_1 l0_1.length c0_1, .slice A0_2 l0_2.length c0_2, .slice A0_3 l0_3.length c0_3]) (t := 53) ?hr ?_; (case hd => rfl); (case hg => rfl); (case hr => first | (go_simp; done) | (go_simp; rfl)); intro gb628 hg w5 hbox hb; have n0_ := Aside0.mk (below_step z22_3 hb); have n1_ := Aside0.mk (hbox); have n2_ := Aside0.mk ((by rw [hg]; exact (below_size z22_3) : w.heap.size ≤ gb628)); have n3_ := Aside0.mk ((by rw [hg]; exact (below_size z22_3) : w.heap.size ≤ gb628)); clear HB; have HB := n0_; have BK628 := n1_; have GW628 := n2_; have GE628 := n3_; clear n0_ n1_ n2_ n3_; clear hb hbox hg) | ((with_reducible refine gate_dst (N := 12) rfl ?_); refine Kd.R_lit k134 _ 134 ?hg (N := 12) ?hd (xs := ([] : List (S134))) (inner := []) (ok := fun _ => True) (okp := fun _ => True) ?hr ?hp (fun _ hk => hk) trivial (Below.refl _ _) (Nat.le_refl _) (by simp) ?_; (case hd => rfl); (case hg => rfl); (case hr => first | (go_simp; done) | (go_simp; rfl)); (case hp => exact (Reps.none _ _)); intro v630 w6 ho7 hb hg_ hnew_; clear hg_ hnew_; (first | rw [← Ny629.out] at ho7 | (simp only [Int.reduceToNat] at ho7; rw [← Ny629.out] at ho7)); have n0_ := Aside0.mk (Kd.R_lower ho7 (below_size z22_5)); have n1_ := Aside0.mk (blk_below (g := gb628) (o := .cells #[.slice A0_0 l0_0.length c0_0, .slice A0_1 l0_1.length c0_1, .slice A0_2 l0_2.length c0_2, .slice A0_3 l0_3.length c0_3] 53 (0, 0)) z22_10 hb); have n2_ := Aside0.mk (below_step z22_5 hb); clear BK628; clear HB; have HO631 := n0_; have BK628 := n1_; have HB := n2_; clear n0_ n1_ n2_; clear hb ho7))
 go_loopg [9, 10] k (fun kq v9 v10 w' => ∃ (x9_1 : List (S134)) (x10_1 : Int), v10 = .int .i64 x10_1 ∧ Aside0 (spec_LivesOf.l0 kq a1 a2 a3 x9_1 x10_1 l0_0 l0_1 l0_2 l0_3 = some r) ∧ Aside0 (kq ≤ k) ∧ Aside0 (Kd.R k134 134 w' w.heap.size (fun _ => True) v9 x9_1) ∧ Aside0 (w'.heap[gb628]? = some (.cells #[(.slice A0_0 l0_0.length c0_0), (.slice A0_1 l0_1.length c0_1), (.slice A0_2 l0_2.length c0_2), (.slice A0_3 l0_3.length c0_3)] 53 (0, 0))) ∧ Aside0 (Below w.heap.size w w'))
 case atStart => exact ⟨(y629), (0), z22_16, H', ⟨Nat.le_refl _⟩, ⟨by (with_reducible repeat (first | apply Kd.R_alloc | apply Kd.R_drewN | apply Kd.R_drew)); exact HO631.out⟩, ⟨z22_10⟩, ⟨z22_5⟩⟩
 case round =>
  clear H'
  try clear p2
  try clear c3
  obtain ⟨x9_1, x10_1, rfl, HA, HK1, HO_9, BK628, HB⟩ := hrel
  cases gk with
  | zero => exact absurd HA.out (by simp [spec_LivesOf.l0])
  | succ k1 =>
   have H := HA.out
   clear HA
   simp only [spec_LivesOf.l0] at H
   by_cases c8 : x10_1 < (l0_2.length : Int)
   ·
    rw [if_pos c8] at H
    have c8b0 : decide (x10_1 < (l0_2.length : Int)) = true := decide_eq_true c8
    clear c8
    by_cases c9 : 0 ≤ x10_1
    ·
     rw [if_pos c9] at H
     have c9b0 : decide (0 ≤ x10_1) = true := decide_eq_true c9
     clear c9
     by_cases c10 : (((rd_T134 l0_2 x10_1).f0) == a1) = true
     ·
      rw [if_pos c10] at H
      have c10b0 : (((rd_T134 l0_2 x10_1).f0) == a1) = true := c10
      (try (have c10b1 : decide (((rd_T134 l0_2 x10_1).f0) = a1) = true := by simpa using c10))
      (try (have c10b2 : (((rd_T134 l0_2 x10_1).f0) == a1) = true := by simpa using c10))
      clear c10
      by_cases c11 : ((rd_T134 l0_2 x10_1).f1).toList = a2.toList
      ·
       rw [if_pos c11] at H
       have c11b0 : (((rd_T134 l0_2 x10_1).f1).toList == a2.toList) = true := beq_iff_eq.mpr c11
       have c11b1 : (((rd_T134 l0_2 x10_1).f1).toList != a2.toList) = false := bne_eq_false_iff_eq.mpr c11
       clear c11
       by_cases c12 : ((rd_T134 l0_2 x10_1).f2).toList = a3.toList
       ·
        rw [if_pos c12] at H
        have c12b0 : (((rd_T134 l0_2 x10_1).f2).toList == a3.toList) = true := beq_iff_eq.mpr c12
        have c12b1 : (((rd_T134 l0_2 x10_1).f2).toList != a3.toList) = false := bne_eq_false_iff_eq.mpr c12
        clear c12
        by_cases c13 : x9_1.length < 2199023255552
        ·
         rw [if_pos c13] at H
         have LMc13 := Aside0.mk c13
         clear c13
         obtain ⟨y634, hy634⟩ : ∃ y_ : List (S134), y_ = (x9_1 ++ [(⟨(rd_T134 l0_2 x10_1).f0, (rd_T134 l0_2 x10_1).f1, (rd_T134 l0_2 x10_1).f2, (rd_T134 l0_2 x10_1).f3, (⟨(rd_T134 l0_2 x10_1).f4.f0, (rd_T134 l0_2 x10_1).f4.f1⟩ : S29)⟩ : S134)]) := ⟨_, rfl⟩
         replace H : (spec_LivesOf.l0 k1 a1 a2 a3 y634 (wrap64 (x10_1 + 1)) l0_0 l0_1 l0_2 l0_3) = some r := by first | (rw [hy634]; with_reducible exact H) | (have H2_ := (Option.bind_some _ _).symm.trans H; rw [hy634]; with_reducible exact H2_) | (have H2_ := (Option.bind_some _ _).symm.trans H; with_reducible exact H2_) | with_reducible exact H | (rw [hy634]; exact H) | exact H
         have Ny634 := Aside0.mk hy634
         clear hy634
         have H' := Aside0.mk H
         clear H
         have hcz14_0 : wr.cell? ⟨gb628, 0, none⟩ = some (.slice A0_0 l0_0.length c0_0) := (blk_cell BK628.out 0).trans rfl
         have hcz14_1 : wr.cell? ⟨gb628, 1, none⟩ = some (.slice A0_1 l0_1.length c0_1) := (blk_cell BK628.out 1).trans rfl
         have hcz14_2 : wr.cell? ⟨gb628, 2, none⟩ = some (.slice A0_2 l0_2.length c0_2) := (blk_cell BK628.out 2).trans rfl
         have hcz14_3 : wr.cell? ⟨gb628, 3, none⟩ = some (.slice A0_3 l0_3.length c0_3) := (blk_cell BK628.out 3).trans rfl
         have hfz14_0 := blk_frozen BK628.out 0
         have hfz14_1 := blk_frozen BK628.out 1
         have hfz14_2 := blk_frozen BK628.out 2
         have hfz14_3 := blk_frozen BK628.out 3
         have p632 : 0 ≤ (x10_1 : Int) := of_decide_eq_true z22_0
         have q632 : x10_1 < (l0_2.length : Int) := of_decide_eq_true z22_0
         obtain ⟨ad632, e632, hx632_0, hx632_1, hx632_2, hx632_3, hx632_4, hx632_5⟩ := at_T134 HR0_2.out x10_1 p632 q632
         cases e632
         replace hx632_0 := (HB.out.cell (World.block_lt_of_cell? w _ hx632_0)).trans hx632_0
         replace hx632_1 := (HB.out.cell (World.block_lt_of_cell? w _ hx632_1)).trans hx632_1
         replace hx632_2 := (HB.out.cell (World.block_lt_of_cell? w _ hx632_2)).trans hx632_2
         replace hx632_3 := (HB.out.cell (World.block_lt_of_cell? w _ hx632_3)).trans hx632_3
         replace hx632_4 := (HB.out.cell (World.block_lt_of_cell? w _ hx632_4)).trans hx632_4
         replace hx632_5 := (HB.out.cell (World.block_lt_of_cell? w _ hx632_5)).trans hx632_5
         replace p632 := eq_true p632
         replace q632 := eq_true q632
         go_wp2_with (first | ((with_reducible refine gate_dst (N := 11) rfl ?_); refine box_event ?hg (N := 11) ?hd (cs := #[.bool false, .string (⟨#[]⟩ : ByteArray), .string (⟨#[]⟩ : ByteArray), .int .i64 0, .int .i64 0, .int .i64 0]) (t := 134) ?hr ?_; (case hd => rfl); (case hg => rfl); (case hr => first | (go_simp; done) | (go_simp; rfl)); intro gb633 hg w15 hbox hb; have n0_ := Aside0.mk (Kd.R_below (Kd.R_elderB z22_17 gb633 (Nat.le_of_eq hg.symm)) hb); have n1_ := Aside0.mk (blk_below (g := gb628) (o := .cells #[.slice A0_0 l0_0.length c0_0, .slice A0_1 l0_1.length c0_1, .slice (some ad632) l0_2.length c0_2, .slice A0_3 l0_3.length c0_3] 53 (0, 0)) z22_10 hb); have n2_ := Aside0.mk (below_step z22_5 hb); have n3_ := Aside0.mk (hbox); have n4_ := Aside0.mk ((by rw [hg]; exact (below_size z22_5) : w.heap.size ≤ gb633)); have n5_ := Aside0.mk ((by rw [hg]; exact (below_size z22_5) : w.heap.size ≤ gb633)); have n6_ := Aside0.mk ((by rw [hg]; exact Nat.ne_of_lt (blk_lt (g := gb628) (o := .cells #[.slice A0_0 l0_0.length c0_0, .slice A0_1 l0_1.length c0_1, .slice (some ad632) l0_2.length c0_2, .slice A0_3 l0_3.length c0_3] 53 (0, 0)) z22_10) : gb628 ≠ gb633)); have n7_ := Aside0.mk ((by rw [hg]; exact Nat.ne_of_gt (blk_lt (g := gb628) (o := .cells #[.slice A0_0 l0_0.length c0_0, .slice A0_1 l0_1.length c0_1, .slice (some ad632) l0_2.length c0_2, .slice A0_3 l0_3.length c0_3] 53 (0, 0)) z22_10) : gb633 ≠ gb628)); clear HO_9; clear BK628; clear HB; have HO_9 := n0_; have BK628 := n1_; have HB := n2_; have BK633 := n3_; have GW633 := n4_; have GE633 := n5_; have NB628_633 := n6_; have NB633_628 := n7_; clear n0_ n1_ n2_ n3_ n4_ n5_ n6_ n7_; clear hb hbox hg; have hnb16 := NB633_628.out; have hnc16 := NB628_633.out; have hcz17_0 : w15.cell? ⟨gb633, 0, none⟩ = some (.bool false) := (blk_cell BK633.out 0).trans rfl; have hcz17_1 : w15.cell? ⟨gb633, 1, none⟩ = some (.string (⟨#[]⟩ : ByteArray)) := (blk_cell BK633.out 1).trans rfl; have hcz17_2 : w15.cell? ⟨gb633, 2, none⟩ = some (.string (⟨#[]⟩ : ByteArray)) := (blk_cell BK633.out 2).trans rfl; have hcz17_3 : w15.cell? ⟨gb633, 3, none⟩ = some (.int .i64 0) := (blk_cell BK633.out 3).trans rfl; have hcz17_4 : w15.cell? ⟨gb633, 4, none⟩ = some (.int .i64 0) := (blk_cell BK633.out 4).trans rfl; have hcz17_5 : w15.cell? ⟨gb633, 5, none⟩ = some (.int .i64 0) := (blk_cell BK633.out 5).trans rfl; have hfz17_0 := blk_frozen BK633.out 0; have hfz17_1 := blk_frozen BK633.out 1; have hfz17_2 := blk_frozen BK633.out 2; have hfz17_3 := blk_frozen BK633.out 3; have hfz17_4 := blk_frozen BK633.out 4; have hfz17_5 := blk_frozen BK633.out 5) | ((with_reducible refine gate_builtin (b := .append) (xs := #[.tmp 41, .tmp 43]) rfl ?_); at_builtin; refine Kd.R_append k134 (w0 := w) w.heap.size rfl (.tmp 41) (.tmp 43) 50 134 (.agg #[(.bool false), (.string ⟨#[]⟩), (.string ⟨#[]⟩), (.int .i64 0), (.int .i64 0), (.int .i64 0)]) 64 rfl Try.underlying50 info134 rfl (by decide) (by omega) u9 x9_1 (⟨(rd_T134 l0_2 x10_1).f0, (rd_T134 l0_2 x10_1).f1, (rd_T134 l0_2 x10_1).f2, (rd_T134 l0_2 x10_1).f3, (⟨(rd_T134 l0_2 x10_1).f4.f0, (rd_T134 l0_2 x10_1).f4.f1⟩ : S29)⟩ : S134) [.bool ((rd_T134 l0_2 x10_1).f0), .string ((rd_T134 l0_2 x10_1).f1), .string ((rd_T134 l0_2 x10_1).f2), .int .i64 ((rd_T134 l0_2 x10_1).f3), .int .i64 ((rd_T134 l0_2 x10_1).f4.f0), .int .i64 ((rd_T134 l0_2 x10_1).f4.f1)] (fun k_ => k_ ≠ gb633) (fun _ => False) rfl (by first | (go_simp; done) | (go_simp; rfl)) ?aP (fun _ hk => hk.elim) ?aF ?aO ?aB ?aS ?aL ?_; (case aP => exact k134_mkM _ _ _ (⟨(rd_T134 l0_2 x10_1).f0, (rd_T134 l0_2 x10_1).f1, (rd_T134 l0_2 x10_1).f2, (rd_T134 l0_2 x10_1).f3, (⟨(rd_T134 l0_2 x10_1).f4.f0, (rd_T134 l0_2 x10_1).f4.f1⟩ : S29)⟩ : S134)); (case aB => exact z22_15); (case aF => exact (fun k_ hk => Kd.freshB (g := gb633) (o := .cells #[.bool ((rd_T134 l0_2 x10_1).f0), .string ((rd_T134 l0_2 x10_1).f1), .string ((rd_T134 l0_2 x10_1).f2), .int .i64 ((rd_T134 l0_2 x10_1).f3), .int .i64 ((rd_T134 l0_2 x10_1).f4.f0), .int .i64 ((rd_T134 l0_2 x10_1).f4.f1)] 134 (0, 0)) z22_8 k_ hk)); (case aO => exact (by (with_reducible repeat (first | apply Kd.R_alloc | apply Kd.R_drewN | apply Kd.R_drew)); exact Kd.R_mono (Kd.R_far (p := ⟨gb633, 5, none⟩) (Kd.R_far (p := ⟨gb633, 4, none⟩) (Kd.R_far (p := ⟨gb633, 3, none⟩) (Kd.R_far (p := ⟨gb633, 2, none⟩) (Kd.R_far (p := ⟨gb633, 1, none⟩) (Kd.R_far (p := ⟨gb633, 0, none⟩) (Kd.R_mono HO_9.out (fun k_ hk => (⟨hk, hk.2⟩ : _ ∧ k_ ≠ gb633))) (fun _ hk => hk.2) (.bool ((rd_T134 l0_2 x10_1).f0))) (fun _ hk => hk.2) (.string ((rd_T134 l0_2 x10_1).f1))) (fun _ hk => hk.2) (.string ((rd_T134 l0_2 x10_1).f2))) (fun _ hk => hk.2) (.int .i64 ((rd_T134 l0_2 x10_1).f3))) (fun _ hk => hk.2) (.int .i64 ((rd_T134 l0_2 x10_1).f4.f0))) (fun _ hk => hk.2) (.int .i64 ((rd_T134 l0_2 x10_1).f4.f1))) (fun _ hk => hk.1.2))); (case aS => exact (below_size z22_15)); (case aL => have := LMc13.out; omega); intro v635 w18 ho hb hg hat; rw [← Ny634.out] at ho; have n0_ := Aside0.mk (blk_grown (g := gb628) (o := .cells #[.slice A0_0 l0_0.length c0_0, .slice A0_1 l0_1.length c0_1, .slice (some ad632) l0_2.length c0_2, .slice A0_3 l0_3.length c0_3] 53 (0, 0)) z22_2 hg (Kd.R_ne HO_9.out BK628.out (by decide))); have n1_ := Aside0.mk (blk_grown (g := gb633) (o := .cells #[.bool ((rd_T134 l0_2 x10_1).f0), .string ((rd_T134 l0_2 x10_1).f1), .string ((rd_T134 l0_2 x10_1).f2), .int .i64 ((rd_T134 l0_2 x10_1).f3), .int .i64 ((rd_T134 l0_2 x10_1).f4.f0), .int .i64 ((rd_T134 l0_2 x10_1).f4.f1)] 134 (0, 0)) z22_8 hg (Kd.R_away HO_9.out (fun _ hk => hk.2))); have n2_ := Aside0.mk (hb); have n3_ := Aside0.mk (ho); clear BK628; clear BK633; clear HB; clear HO_9; have BK628 := n0_; have BK633 := n1_; have HB := n2_; have HO636 := n3_; clear n0_ n1_ n2_ n3_; clear ho hb hg hat))
         go_roundg k1
         case measure => have := HK1.out; omega
         case rel => exact ⟨(y634), (wrap64 (x10_1 + 1)), z22_16, H', ⟨z22_19⟩, ⟨by (with_reducible repeat (first | apply Kd.R_alloc | apply Kd.R_drewN | apply Kd.R_drew)); exact Kd.R_mono HO636.out (fun _ hk => trivial)⟩, ⟨z22_10⟩, ⟨z22_15⟩⟩
        ·
         rw [if_neg c13] at H
         exact absurd H (by simp)
       ·
        rw [if_neg c12] at H
        have c12b0 : (((rd_T134 l0_2 x10_1).f2).toList == a3.toList) = false := beq_eq_false_iff_ne.mpr c12
        have c12b1 : (((rd_T134 l0_2 x10_1).f2).toList != a3.toList) = true := bne_iff_ne.mpr c12
        have H' := Aside0.mk H
        clear H
        have hcz19_0 : wr.cell? ⟨gb628, 0, none⟩ = some (.slice A0_0 l0_0.length c0_0) := (blk_cell BK628.out 0).trans rfl
        have hcz19_1 : wr.cell? ⟨gb628, 1, none⟩ = some (.slice A0_1 l0_1.length c0_1) := (blk_cell BK628.out 1).trans rfl
        have hcz19_2 : wr.cell? ⟨gb628, 2, none⟩ = some (.slice A0_2 l0_2.length c0_2) := (blk_cell BK628.out 2).trans rfl
        have hcz19_3 : wr.cell? ⟨gb628, 3, none⟩ = some (.slice A0_3 l0_3.length c0_3) := (blk_cell BK628.out 3).trans rfl
        have hfz19_0 := blk_frozen BK628.out 0
        have hfz19_1 := blk_frozen BK628.out 1
        have hfz19_2 := blk_frozen BK628.out 2
        have hfz19_3 := blk_frozen BK628.out 3
        have p632 : 0 ≤ (x10_1 : Int) := of_decide_eq_true z22_0
        have q632 : x10_1 < (l0_2.length : Int) := of_decide_eq_true z22_0
        obtain ⟨ad632, e632, hx632_0, hx632_1, hx632_2, hx632_3, hx632_4, hx632_5⟩ := at_T134 HR0_2.out x10_1 p632 q632
        cases e632
        replace hx632_0 := (HB.out.cell (World.block_lt_of_cell? w _ hx632_0)).trans hx632_0
        replace hx632_1 := (HB.out.cell (World.block_lt_of_cell? w _ hx632_1)).trans hx632_1
        replace hx632_2 := (HB.out.cell (World.block_lt_of_cell? w _ hx632_2)).trans hx632_2
        replace hx632_3 := (HB.out.cell (World.block_lt_of_cell? w _ hx632_3)).trans hx632_3
        replace hx632_4 := (HB.out.cell (World.block_lt_of_cell? w _ hx632_4)).trans hx632_4
        replace hx632_5 := (HB.out.cell (World.block_lt_of_cell? w _ hx632_5)).trans hx632_5
        replace p632 := eq_true p632
        replace q632 := eq_true q632
        go_wp2_with (first | ((with_reducible refine gate_dst (N := 11) rfl ?_); refine box_event ?hg (N := 11) ?hd (cs := #[.bool false, .string (⟨#[]⟩ : ByteArray), .string (⟨#[]⟩ : ByteArray), .int .i64 0, .int .i64 0, .int .i64 0]) (t := 134) ?hr ?_; (case hd => rfl); (case hg => rfl); (case hr => first | (go_simp; done) | (go_simp; rfl)); intro gb633 hg w20 hbox hb; have n0_ := Aside0.mk (Kd.R_below (Kd.R_elderB z22_17 gb633 (Nat.le_of_eq hg.symm)) hb); have n1_ := Aside0.mk (blk_below (g := gb628) (o := .cells #[.slice A0_0 l0_0.length c0_0, .slice A0_1 l0_1.length c0_1, .slice (some ad632) l0_2.length c0_2, .slice A0_3 l0_3.length c0_3] 53 (0, 0)) z22_10 hb); have n2_ := Aside0.mk (below_step z22_5 hb); have n3_ := Aside0.mk (hbox); have n4_ := Aside0.mk ((by rw [hg]; exact (below_size z22_5) : w.heap.size ≤ gb633)); have n5_ := Aside0.mk ((by rw [hg]; exact (below_size z22_5) : w.heap.size ≤ gb633)); have n6_ := Aside0.mk ((by rw [hg]; exact Nat.ne_of_lt (blk_lt (g := gb628) (o := .cells #[.slice A0_0 l0_0.length c0_0, .slice A0_1 l0_1.length c0_1, .slice (some ad632) l0_2.length c0_2, .slice A0_3 l0_3.length c0_3] 53 (0, 0)) z22_10) : gb628 ≠ gb633)); have n7_ := Aside0.mk ((by rw [hg]; exact Nat.ne_of_gt (blk_lt (g := gb628) (o := .cells #[.slice A0_0 l0_0.length c0_0, .slice A0_1 l0_1.length c0_1, .slice (some ad632) l0_2.length c0_2, .slice A0_3 l0_3.length c0_3] 53 (0, 0)) z22_10) : gb633 ≠ gb628)); clear HO_9; clear BK628; clear HB; have HO_9 := n0_; have BK628 := n1_; have HB := n2_; have BK633 := n3_; have GW633 := n4_; have GE633 := n5_; have NB628_633 := n6_; have NB633_628 := n7_; clear n0_ n1_ n2_ n3_ n4_ n5_ n6_ n7_; clear hb hbox hg; have hnb21 := NB633_628.out; have hnc21 := NB628_633.out; have hcz22_0 : w20.cell? ⟨gb633, 0, none⟩ = some (.bool false) := (blk_cell BK633.out 0).trans rfl; have hcz22_1 : w20.cell? ⟨gb633, 1, none⟩ = some (.string (⟨#[]⟩ : ByteArray)) := (blk_cell BK633.out 1).trans rfl; have hcz22_2 : w20.cell? ⟨gb633, 2, none⟩ = some (.string (⟨#[]⟩ : ByteArray)) := (blk_cell BK633.out 2).trans rfl; have hcz22_3 : w20.cell? ⟨gb633, 3, none⟩ = some (.int .i64 0) := (blk_cell BK633.out 3).trans rfl; have hcz22_4 : w20.cell? ⟨gb633, 4, none⟩ = some (.int .i64 0) := (blk_cell BK633.out 4).trans rfl; have hcz22_5 : w20.cell? ⟨gb633, 5, none⟩ = some (.int .i64 0) := (blk_cell BK633.out 5).trans rfl; have hfz22_0 := blk_frozen BK633.out 0; have hfz22_1 := blk_frozen BK633.out 1; have hfz22_2 := blk_frozen BK633.out 2; have hfz22_3 := blk_frozen BK633.out 3; have hfz22_4 := blk_frozen BK633.out 4; have hfz22_5 := blk_frozen BK633.out 5))
        go_roundg k1
        case measure => have := HK1.out; omega
        case rel => exact ⟨(x9_1), (wrap64 (x10_1 + 1)), z22_16, H', ⟨z22_19⟩, ⟨z22_12⟩, ⟨z22_2⟩, ⟨z22_15⟩⟩
      ·
       rw [if_neg c11] at H
       have c11b0 : (((rd_T134 l0_2 x10_1).f1).toList == a2.toList) = false := beq_eq_false_iff_ne.mpr c11
       have c11b1 : (((rd_T134 l0_2 x10_1).f1).toList != a2.toList) = true := bne_iff_ne.mpr c11
       have H' := Aside0.mk H
       clear H
       have hcz23_0 : wr.cell? ⟨gb628, 0, none⟩ = some (.slice A0_0 l0_0.length c0_0) := (blk_cell BK628.out 0).trans rfl
       have hcz23_1 : wr.cell? ⟨gb628, 1, none⟩ = some (.slice A0_1 l0_1.length c0_1) := (blk_cell BK628.out 1).trans rfl
       have hcz23_2 : wr.cell? ⟨gb628, 2, none⟩ = some (.slice A0_2 l0_2.length c0_2) := (blk_cell BK628.out 2).trans rfl
       have hcz23_3 : wr.cell? ⟨gb628, 3, none⟩ = some (.slice A0_3 l0_3.length c0_3) := (blk_cell BK628.out 3).trans rfl
       have hfz23_0 := blk_frozen BK628.out 0
       have hfz23_1 := blk_frozen BK628.out 1
       have hfz23_2 := blk_frozen BK628.out 2
       have hfz23_3 := blk_frozen BK628.out 3
       have p632 : 0 ≤ (x10_1 : Int) := of_decide_eq_true z22_0
       have q632 : x10_1 < (l0_2.length : Int) := of_decide_eq_true z22_0
       obtain ⟨ad632, e632, hx632_0, hx632_1, hx632_2, hx632_3, hx632_4, hx632_5⟩ := at_T134 HR0_2.out x10_1 p632 q632
       cases e632
       replace hx632_0 := (HB.out.cell (World.block_lt_of_cell? w _ hx632_0)).trans hx632_0
       replace hx632_1 := (HB.out.cell (World.block_lt_of_cell? w _ hx632_1)).trans hx632_1
       replace hx632_2 := (HB.out.cell (World.block_lt_of_cell? w _ hx632_2)).trans hx632_2
       replace hx632_3 := (HB.out.cell (World.block_lt_of_cell? w _ hx632_3)).trans hx632_3
       replace hx632_4 := (HB.out.cell (World.block_lt_of_cell? w _ hx632_4)).trans hx632_4
       replace hx632_5 := (HB.out.cell (World.block_lt_of_cell? w _ hx632_5)).trans hx632_5
       replace p632 := eq_true p632
       replace q632 := eq_true q632
       go_wp2_with (first | ((with_reducible refine gate_dst (N := 11) rfl ?_); refine box_event ?hg (N := 11) ?hd (cs := #[.bool false, .string (⟨#[]⟩ : ByteArray), .string (⟨#[]⟩ : ByteArray), .int .i64 0, .int .i64 0, .int .i64 0]) (t := 134) ?hr ?_; (case hd => rfl); (case hg => rfl); (case hr => first | (go_simp; done) | (go_simp; rfl)); intro gb633 hg w24 hbox hb; have n0_ := Aside0.mk (Kd.R_below (Kd.R_elderB z22_17 gb633 (Nat.le_of_eq hg.symm)) hb); have n1_ := Aside0.mk (blk_below (g := gb628) (o := .cells #[.slice A0_0 l0_0.length c0_0, .slice A0_1 l0_1.length c0_1, .slice (some ad632) l0_2.length c0_2, .slice A0_3 l0_3.length c0_3] 53 (0, 0)) z22_10 hb); have n2_ := Aside0.mk (below_step z22_5 hb); have n3_ := Aside0.mk (hbox); have n4_ := Aside0.mk ((by rw [hg]; exact (below_size z22_5) : w.heap.size ≤ gb633)); have n5_ := Aside0.mk ((by rw [hg]; exact (below_size z22_5) : w.heap.size ≤ gb633)); have n6_ := Aside0.mk ((by rw [hg]; exact Nat.ne_of_lt (blk_lt (g := gb628) (o := .cells #[.slice A0_0 l0_0.length c0_0, .slice A0_1 l0_1.length c0_1, .slice (some ad632) l0_2.length c0_2, .slice A0_3 l0_3.length c0_3] 53 (0, 0)) z22_10) : gb628 ≠ gb633)); have n7_ := Aside0.mk ((by rw [hg]; exact Nat.ne_of_gt (blk_lt (g := gb628) (o := .cells #[.slice A0_0 l0_0.length c0_0, .slice A0_1 l0_1.length c0_1, .slice (some ad632) l0_2.length c0_2, .slice A0_3 l0_3.length c0_3] 53 (0, 0)) z22_10) : gb633 ≠ gb628)); clear HO_9; clear BK628; clear HB; have HO_9 := n0_; have BK628 := n1_; have HB := n2_; have BK633 := n3_; have GW633 := n4_; have GE633 := n5_; have NB628_633 := n6_; have NB633_628 := n7_; clear n0_ n1_ n2_ n3_ n4_ n5_ n6_ n7_; clear hb hbox hg; have hnb25 := NB633_628.out; have hnc25 := NB628_633.out; have hcz26_0 : w24.cell? ⟨gb633, 0, none⟩ = some (.bool false) := (blk_cell BK633.out 0).trans rfl; have hcz26_1 : w24.cell? ⟨gb633, 1, none⟩ = some (.string (⟨#[]⟩ : ByteArray)) := (blk_cell BK633.out 1).trans rfl; have hcz26_2 : w24.cell? ⟨gb633, 2, none⟩ = some (.string (⟨#[]⟩ : ByteArray)) := (blk_cell BK633.out 2).trans rfl; have hcz26_3 : w24.cell? ⟨gb633, 3, none⟩ = some (.int .i64 0) := (blk_cell BK633.out 3).trans rfl; have hcz26_4 : w24.cell? ⟨gb633, 4, none⟩ = some (.int .i64 0) := (blk_cell BK633.out 4).trans rfl; have hcz26_5 : w24.cell? ⟨gb633, 5, none⟩ = some (.int .i64 0) := (blk_cell BK633.out 5).trans rfl; have hfz26_0 := blk_frozen BK633.out 0; have hfz26_1 := blk_frozen BK633.out 1; have hfz26_2 := blk_frozen BK633.out 2; have hfz26_3 := blk_frozen BK633.out 3; have hfz26_4 := blk_frozen BK633.out 4; have hfz26_5 := blk_frozen BK633.out 5))
       go_roundg k1
       case measure => have := HK1.out; omega
       case rel => exact ⟨(x9_1), (wrap64 (x10_1 + 1)), z22_16, H', ⟨z22_19⟩, ⟨z22_12⟩, ⟨z22_2⟩, ⟨z22_15⟩⟩
     ·
      rw [if_neg c10] at H
      have c10b0 : (((rd_T134 l0_2 x10_1).f0) == a1) = false := by simpa using c10
      (try (have c10b1 : decide (((rd_T134 l0_2 x10_1).f0) = a1) = false := by simpa using c10))
      (try (have c10b2 : (((rd_T134 l0_2 x10_1).f0) == a1) = false := by simpa using c10))
      (try (have c10b3 : ¬ (((rd_T134 l0_2 x10_1).f0) = a1) := by simpa using c10))
      clear c10
      have H' := Aside0.mk H
      clear H
      have hcz27_0 : wr.cell? ⟨gb628, 0, none⟩ = some (.slice A0_0 l0_0.length c0_0) := (blk_cell BK628.out 0).trans rfl
      have hcz27_1 : wr.cell? ⟨gb628, 1, none⟩ = some (.slice A0_1 l0_1.length c0_1) := (blk_cell BK628.out 1).trans rfl
      have hcz27_2 : wr.cell? ⟨gb628, 2, none⟩ = some (.slice A0_2 l0_2.length c0_2) := (blk_cell BK628.out 2).trans rfl
      have hcz27_3 : wr.cell? ⟨gb628, 3, none⟩ = some (.slice A0_3 l0_3.length c0_3) := (blk_cell BK628.out 3).trans rfl
      have hfz27_0 := blk_frozen BK628.out 0
      have hfz27_1 := blk_frozen BK628.out 1
      have hfz27_2 := blk_frozen BK628.out 2
      have hfz27_3 := blk_frozen BK628.out 3
      have p632 : 0 ≤ (x10_1 : Int) := of_decide_eq_true z22_0
      have q632 : x10_1 < (l0_2.length : Int) := of_decide_eq_true z22_0
      obtain ⟨ad632, e632, hx632_0, hx632_1, hx632_2, hx632_3, hx632_4, hx632_5⟩ := at_T134 HR0_2.out x10_1 p632 q632
      cases e632
      replace hx632_0 := (HB.out.cell (World.block_lt_of_cell? w _ hx632_0)).trans hx632_0
      replace hx632_1 := (HB.out.cell (World.block_lt_of_cell? w _ hx632_1)).trans hx632_1
      replace hx632_2 := (HB.out.cell (World.block_lt_of_cell? w _ hx632_2)).trans hx632_2
      replace hx632_3 := (HB.out.cell (World.block_lt_of_cell? w _ hx632_3)).trans hx632_3
      replace hx632_4 := (HB.out.cell (World.block_lt_of_cell? w _ hx632_4)).trans hx632_4
      replace hx632_5 := (HB.out.cell (World.block_lt_of_cell? w _ hx632_5)).trans hx632_5
      replace p632 := eq_true p632
      replace q632 := eq_true q632
      go_wp2_with (first | ((with_reducible refine gate_dst (N := 11) rfl ?_); refine box_event ?hg (N := 11) ?hd (cs := #[.bool false, .string (⟨#[]⟩ : ByteArray), .string (⟨#[]⟩ : ByteArray), .int .i64 0, .int .i64 0, .int .i64 0]) (t := 134) ?hr ?_; (case hd => rfl); (case hg => rfl); (case hr => first | (go_simp; done) | (go_simp; rfl)); intro gb633 hg w28 hbox hb; have n0_ := Aside0.mk (Kd.R_below (Kd.R_elderB z22_17 gb633 (Nat.le_of_eq hg.symm)) hb); have n1_ := Aside0.mk (blk_below (g := gb628) (o := .cells #[.slice A0_0 l0_0.length c0_0, .slice A0_1 l0_1.length c0_1, .slice (some ad632) l0_2.length c0_2, .slice A0_3 l0_3.length c0_3] 53 (0, 0)) z22_10 hb); have n2_ := Aside0.mk (below_step z22_5 hb); have n3_ := Aside0.mk (hbox); have n4_ := Aside0.mk ((by rw [hg]; exact (below_size z22_5) : w.heap.size ≤ gb633)); have n5_ := Aside0.mk ((by rw [hg]; exact (below_size z22_5) : w.heap.size ≤ gb633)); have n6_ := Aside0.mk ((by rw [hg]; exact Nat.ne_of_lt (blk_lt (g := gb628) (o := .cells #[.slice A0_0 l0_0.length c0_0, .slice A0_1 l0_1.length c0_1, .slice (some ad632) l0_2.length c0_2, .slice A0_3 l0_3.length c0_3] 53 (0, 0)) z22_10) : gb628 ≠ gb633)); have n7_ := Aside0.mk ((by rw [hg]; exact Nat.ne_of_gt (blk_lt (g := gb628) (o := .cells #[.slice A0_0 l0_0.length c0_0, .slice A0_1 l0_1.length c0_1, .slice (some ad632) l0_2.length c0_2, .slice A0_3 l0_3.length c0_3] 53 (0, 0)) z22_10) : gb633 ≠ gb628)); clear HO_9; clear BK628; clear HB; have HO_9 := n0_; have BK628 := n1_; have HB := n2_; have BK633 := n3_; have GW633 := n4_; have GE633 := n5_; have NB628_633 := n6_; have NB633_628 := n7_; clear n0_ n1_ n2_ n3_ n4_ n5_ n6_ n7_; clear hb hbox hg; have hnb29 := NB633_628.out; have hnc29 := NB628_633.out; have hcz30_0 : w28.cell? ⟨gb633, 0, none⟩ = some (.bool false) := (blk_cell BK633.out 0).trans rfl; have hcz30_1 : w28.cell? ⟨gb633, 1, none⟩ = some (.string (⟨#[]⟩ : ByteArray)) := (blk_cell BK633.out 1).trans rfl; have hcz30_2 : w28.cell? ⟨gb633, 2, none⟩ = some (.string (⟨#[]⟩ : ByteArray)) := (blk_cell BK633.out 2).trans rfl; have hcz30_3 : w28.cell? ⟨gb633, 3, none⟩ = some (.int .i64 0) := (blk_cell BK633.out 3).trans rfl; have hcz30_4 : w28.cell? ⟨gb633, 4, none⟩ = some (.int .i64 0) := (blk_cell BK633.out 4).trans rfl; have hcz30_5 : w28.cell? ⟨gb633, 5, none⟩ = some (.int .i64 0) := (blk_cell BK633.out 5).trans rfl; have hfz30_0 := blk_frozen BK633.out 0; have hfz30_1 := blk_frozen BK633.out 1; have hfz30_2 := blk_frozen BK633.out 2; have hfz30_3 := blk_frozen BK633.out 3; have hfz30_4 := blk_frozen BK633.out 4; have hfz30_5 := blk_frozen BK633.out 5))
      go_roundg k1
      case measure => have := HK1.out; omega
      case rel => exact ⟨(x9_1), (wrap64 (x10_1 + 1)), z22_16, H', ⟨z22_19⟩, ⟨z22_12⟩, ⟨z22_2⟩, ⟨z22_15⟩⟩
    ·
     rw [if_neg c9] at H
     exact absurd H (by simp)
   ·
    rw [if_neg c8] at H
    have c8b0 : decide (x10_1 < (l0_2.length : Int)) = false := decide_eq_false c8
    clear c8
    obtain rfl := Option.some.inj H
    have hcz31_0 : wr.cell? ⟨gb628, 0, none⟩ = some (.slice A0_0 l0_0.length c0_0) := (blk_cell BK628.out 0).trans rfl
    have hcz31_1 : wr.cell? ⟨gb628, 1, none⟩ = some (.slice A0_1 l0_1.length c0_1) := (blk_cell BK628.out 1).trans rfl
    have hcz31_2 : wr.cell? ⟨gb628, 2, none⟩ = some (.slice A0_2 l0_2.length c0_2) := (blk_cell BK628.out 2).trans rfl
    have hcz31_3 : wr.cell? ⟨gb628, 3, none⟩ = some (.slice A0_3 l0_3.length c0_3) := (blk_cell BK628.out 3).trans rfl
    have hfz31_0 := blk_frozen BK628.out 0
    have hfz31_1 := blk_frozen BK628.out 1
    have hfz31_2 := blk_frozen BK628.out 2
    have hfz31_3 := blk_frozen BK628.out 3
    go_wp2
    go_ret
    exact ⟨_, z22_18, z22_17, z22_5⟩
def impl_LivesOf.l0 : Nat → Bool → ByteArray → ByteArray → List (S134) → List (S134) → Int → Int → Option ((List (S134)))
  | 0, _, _, _, _, _, _, _ => none
  | k + 1, x1, x2, x3, x9, x14, x15, x16 => if x16 < x15 then (if 0 ≤ x16 then (if x16 < (x14.length : Int) then (if (((rd_T134 x14 x16).f0) == x1) = true then (if ((rd_T134 x14 x16).f1).toList = x2.toList then (if ((rd_T134 x14 x16).f2).toList = x3.toList then (if x9.length < 2199023255552 then (impl_LivesOf.l0 k x1 x2 x3 (x9 ++ [(⟨(rd_T134 x14 x16).f0, (rd_T134 x14 x16).f1, (rd_T134 x14 x16).f2, (rd_T134 x14 x16).f3, (⟨(rd_T134 x14 x16).f4.f0, (rd_T134 x14 x16).f4.f1⟩ : S29)⟩ : S134)]) x14 x15 (wrap64 (x16 + 1))) else (none)) else (impl_LivesOf.l0 k x1 x2 x3 x9 x14 x15 (wrap64 (x16 + 1)))) else (impl_LivesOf.l0 k x1 x2 x3 x9 x14 x15 (wrap64 (x16 + 1)))) else (impl_LivesOf.l0 k x1 x2 x3 x9 x14 x15 (wrap64 (x16 + 1)))) else (none)) else (none)) else (some x9)
def impl_LivesOf.f (k : Nat) (l0_0 : List Int) (l0_1 : List (S127)) (l0_2 : List (S134)) (l0_3 : List (S167)) (a1 : Bool) (a2 : ByteArray) (a3 : ByteArray) : Option ((List (S134))) := impl_LivesOf.l0 k a1 a2 a3 (([] : List (S134))) l0_2 (l0_2.length : Int) 0
set_option maxHeartbeats 8000000 in
set_option maxRecDepth 100000 in
theorem impl_LivesOf.calls (k : Nat) (A0_0 : Option Addr) (c0_0 : Nat) (l0_0 : List Int) (A0_1 : Option Addr) (c0_1 : Nat) (l0_1 : List (S127)) (A0_2 : Option Addr) (c0_2 : Nat) (l0_2 : List (S134)) (A0_3 : Option Addr) (c0_3 : Nat) (l0_3 : List (S167)) (a1 : Bool) (a2 : ByteArray) (a3 : ByteArray) (r : List (S134)) (w : World) (hr0_0 : Kd.C (Kd.int .i64) w A0_0 l0_0.length l0_0) (hc0_0 : l0_0.length ≤ c0_0) (hr0_1 : Kd.C k127 w A0_1 l0_1.length l0_1) (hc0_1 : l0_1.length ≤ c0_1) (hr0_2 : Kd.C k134 w A0_2 l0_2.length l0_2) (hc0_2 : l0_2.length ≤ c0_2) (hr0_3 : Kd.C k167 w A0_3 l0_3.length l0_3) (hc0_3 : l0_3.length ≤ c0_3) (h : impl_LivesOf.f k l0_0 l0_1 l0_2 l0_3 a1 a2 a3 = some r) :
  Calls Try.prog 35 #[.agg #[.slice A0_0 l0_0.length c0_0, .slice A0_1 l0_1.length c0_1, .slice A0_2 l0_2.length c0_2, .slice A0_3 l0_3.length c0_3], .bool a1, .string a2, .string a3] w fun e w' => ∃ v0_ : Value, e = .returned (v0_) ∧ Kd.R k134 134 w' w.heap.size (fun _ => True) v0_ r ∧ Below w.heap.size w w' := by
 have hu53 := Try.underlying53
 have hu134 := Try.underlying134
 have HR0_0 := Aside0.mk hr0_0
 have HC0_0 := Aside0.mk hc0_0
 clear hr0_0 hc0_0
 have HR0_1 := Aside0.mk hr0_1
 have HC0_1 := Aside0.mk hc0_1
 clear hr0_1 hc0_1
 have HR0_2 := Aside0.mk hr0_2
 have HC0_2 := Aside0.mk hc0_2
 clear hr0_2 hc0_2
 have HR0_3 := Aside0.mk hr0_3
 have HC0_3 := Aside0.mk hc0_3
 clear hr0_3 hc0_3
 have HB := Aside0.mk (Below.refl w.heap.size w)
 have H : (impl_LivesOf.l0 k a1 a2 a3 (([] : List (S134))) l0_2 (l0_2.length : Int) 0) = some r := h
 clear h
 obtain ⟨y638, hy638⟩ : ∃ y_ : List (S134), y_ = (([] : List (S134))) := ⟨_, rfl⟩
 replace H : (impl_LivesOf.l0 k a1 a2 a3 y638 l0_2 (l0_2.length : Int) 0) = some r := by first | (rw [hy638]; with_reducible exact H) | (have H2_ := (Option.bind_some _ _).symm.trans H; rw [hy638]; with_reducible exact H2_) | (have H2_ := (Option.bind_some _ _).symm.trans H; with_reducible exact H2_) | with_reducible exact H | (rw [hy638]; exact H) | exact H
 have Ny638 := Aside0.mk hy638
 clear hy638
 have H' := Aside0.mk H
 clear H
 go_enter Try.func35, Try.ntmps35
 go_wp2_with (first | ((with_reducible refine gate_dst (N := 4) rfl ?_); refine box_event ?hg (N := 4) ?hd (cs := #[.slice A0_0 l0_0.length c0_0, .slice A0_1 l0_1.length c0_1, .slice A0_2 l0_2.length c0_2, .slice A0_3 l0_3.length c0_3]) (t := 53) ?hr ?_; (case hd => rfl); (case hg => rfl); (case hr => first | (go_simp; done) | (go_simp; rfl)); intro gb637 hg w5 hbox hb; have n0_ := Aside0.mk (below_step z22_3 hb); have n1_ := Aside0.mk (hbox); have n2_ := Aside0.mk ((by rw [hg]; exact (below_size z22_3) : w.heap.size ≤ gb637)); have n3_ := Aside0.mk ((by rw [hg]; exact (below_size z22_3) : w.heap.size ≤ gb637)); clear HB; have HB := n0_; have BK637 := n1_; have GW637 := n2_; have GE637 := n3_; clear n0_ n1_ n2_ n3_; clear hb hbox hg) | ((with_reducible refine gate_dst (N := 12) rfl ?_); refine Kd.R_lit k134 _ 134 ?hg (N := 12) ?hd (xs := ([] : List (S134))) (inner := []) (ok := fun _ => True) (okp := fun _ => True) ?hr ?hp (fun _ hk => hk) trivial (Below.refl _ _) (Nat.le_refl _) (by simp) ?_; (case hd => rfl); (case hg => rfl); (case hr => first | (go_simp; done) | (go_simp; rfl)); (case hp => exact (Reps.none _ _)); intro v639 w6 ho7 hb hg_ hnew_; clear hg_ hnew_; (first | rw [← Ny638.out] at ho7 | (simp only [Int.reduceToNat] at ho7; rw [← Ny638.out] at ho7)); have n0_ := Aside0.mk (Kd.R_lower ho7 (below_size z22_4)); have n1_ := Aside0.mk (blk_below (g := gb637) (o := .cells #[.slice A0_0 l0_0.length c0_0, .slice A0_1 l0_1.length c0_1, .slice A0_2 l0_2.length c0_2, .slice A0_3 l0_3.length c0_3] 53 (0, 0)) z22_9 hb); have n2_ := Aside0.mk (below_step z22_4 hb); clear BK637; clear HB; have HO640 := n0_; have BK637 := n1_; have HB := n2_; clear n0_ n1_ n2_; clear hb ho7; have hcz8_0 : w6.cell? ⟨gb637, 0, none⟩ = some (.slice A0_0 l0_0.length c0_0) := (blk_cell BK637.out 0).trans rfl; have hcz8_1 : w6.cell? ⟨gb637, 1, none⟩ = some (.slice A0_1 l0_1.length c0_1) := (blk_cell BK637.out 1).trans rfl; have hcz8_2 : w6.cell? ⟨gb637, 2, none⟩ = some (.slice A0_2 l0_2.length c0_2) := (blk_cell BK637.out 2).trans rfl; have hcz8_3 : w6.cell? ⟨gb637, 3, none⟩ = some (.slice A0_3 l0_3.length c0_3) := (blk_cell BK637.out 3).trans rfl; have hfz8_0 := blk_frozen BK637.out 0; have hfz8_1 := blk_frozen BK637.out 1; have hfz8_2 := blk_frozen BK637.out 2; have hfz8_3 := blk_frozen BK637.out 3))
 go_loopg [9, 16] k (fun kq v9 v16 w' => ∃ (x9_1 : List (S134)) (x16_1 : Int), v16 = .int .i64 x16_1 ∧ Aside0 (impl_LivesOf.l0 kq a1 a2 a3 x9_1 l0_2 (l0_2.length : Int) x16_1 = some r) ∧ Aside0 (kq ≤ k) ∧ Aside0 (Kd.R k134 134 w' w.heap.size (fun _ => True) v9 x9_1) ∧ Aside0 (w'.heap[gb637]? = some (.cells #[(.slice A0_0 l0_0.length c0_0), (.slice A0_1 l0_1.length c0_1), (.slice A0_2 l0_2.length c0_2), (.slice A0_3 l0_3.length c0_3)] 53 (0, 0))) ∧ Aside0 (Below w.heap.size w w'))
 case atStart => exact ⟨(y638), (0), z22_16, H', ⟨Nat.le_refl _⟩, ⟨by (with_reducible repeat (first | apply Kd.R_alloc | apply Kd.R_drewN | apply Kd.R_drew)); exact HO640.out⟩, ⟨z22_9⟩, ⟨z22_4⟩⟩
 case round =>
  clear H'
  try clear p2
  try clear c3
  try clear hcz8_0
  try clear hcz8_1
  try clear hcz8_2
  try clear hcz8_3
  try clear hfz8_0
  try clear hfz8_1
  try clear hfz8_2
  try clear hfz8_3
  obtain ⟨x9_1, x16_1, rfl, HA, HK1, HO_9, BK637, HB⟩ := hrel
  cases gk with
  | zero => exact absurd HA.out (by simp [impl_LivesOf.l0])
  | succ k1 =>
   have H := HA.out
   clear HA
   simp only [impl_LivesOf.l0] at H
   by_cases c9 : x16_1 < (l0_2.length : Int)
   ·
    rw [if_pos c9] at H
    have c9b0 : decide (x16_1 < (l0_2.length : Int)) = true := decide_eq_true c9
    clear c9
    by_cases c10 : 0 ≤ x16_1
    ·
     rw [if_pos c10] at H
     have c10b0 : decide (0 ≤ x16_1) = true := decide_eq_true c10
     clear c10
     by_cases c11 : x16_1 < (l0_2.length : Int)
     ·
      rw [if_pos c11] at H
      have c11b0 : decide (x16_1 < (l0_2.length : Int)) = true := decide_eq_true c11
      clear c11
      by_cases c12 : (((rd_T134 l0_2 x16_1).f0) == a1) = true
      ·
       rw [if_pos c12] at H
       have c12b0 : (((rd_T134 l0_2 x16_1).f0) == a1) = true := c12
       (try (have c12b1 : decide (((rd_T134 l0_2 x16_1).f0) = a1) = true := by simpa using c12))
       (try (have c12b2 : (((rd_T134 l0_2 x16_1).f0) == a1) = true := by simpa using c12))
       clear c12
       by_cases c13 : ((rd_T134 l0_2 x16_1).f1).toList = a2.toList
       ·
        rw [if_pos c13] at H
        have c13b0 : (((rd_T134 l0_2 x16_1).f1).toList == a2.toList) = true := beq_iff_eq.mpr c13
        have c13b1 : (((rd_T134 l0_2 x16_1).f1).toList != a2.toList) = false := bne_eq_false_iff_eq.mpr c13
        clear c13
        by_cases c14 : ((rd_T134 l0_2 x16_1).f2).toList = a3.toList
        ·
         rw [if_pos c14] at H
         have c14b0 : (((rd_T134 l0_2 x16_1).f2).toList == a3.toList) = true := beq_iff_eq.mpr c14
         have c14b1 : (((rd_T134 l0_2 x16_1).f2).toList != a3.toList) = false := bne_eq_false_iff_eq.mpr c14
         clear c14
         by_cases c15 : x9_1.length < 2199023255552
         ·
          rw [if_pos c15] at H
          have LMc15 := Aside0.mk c15
          clear c15
          obtain ⟨y643, hy643⟩ : ∃ y_ : List (S134), y_ = (x9_1 ++ [(⟨(rd_T134 l0_2 x16_1).f0, (rd_T134 l0_2 x16_1).f1, (rd_T134 l0_2 x16_1).f2, (rd_T134 l0_2 x16_1).f3, (⟨(rd_T134 l0_2 x16_1).f4.f0, (rd_T134 l0_2 x16_1).f4.f1⟩ : S29)⟩ : S134)]) := ⟨_, rfl⟩
          replace H : (impl_LivesOf.l0 k1 a1 a2 a3 y643 l0_2 (l0_2.length : Int) (wrap64 (x16_1 + 1))) = some r := by first | (rw [hy643]; with_reducible exact H) | (have H2_ := (Option.bind_some _ _).symm.trans H; rw [hy643]; with_reducible exact H2_) | (have H2_ := (Option.bind_some _ _).symm.trans H; with_reducible exact H2_) | with_reducible exact H | (rw [hy643]; exact H) | exact H
          have Ny643 := Aside0.mk hy643
          clear hy643
          have H' := Aside0.mk H
          clear H
          have p641 : 0 ≤ (x16_1 : Int) := of_decide_eq_true z22_0
          have q641 : x16_1 < (l0_2.length : Int) := of_decide_eq_true z22_0
          obtain ⟨ad641, e641, hx641_0, hx641_1, hx641_2, hx641_3, hx641_4, hx641_5⟩ := at_T134 HR0_2.out x16_1 p641 q641
          cases e641
          replace hx641_0 := (HB.out.cell (World.block_lt_of_cell? w _ hx641_0)).trans hx641_0
          replace hx641_1 := (HB.out.cell (World.block_lt_of_cell? w _ hx641_1)).trans hx641_1
          replace hx641_2 := (HB.out.cell (World.block_lt_of_cell? w _ hx641_2)).trans hx641_2
          replace hx641_3 := (HB.out.cell (World.block_lt_of_cell? w _ hx641_3)).trans hx641_3
          replace hx641_4 := (HB.out.cell (World.block_lt_of_cell? w _ hx641_4)).trans hx641_4
          replace hx641_5 := (HB.out.cell (World.block_lt_of_cell? w _ hx641_5)).trans hx641_5
          replace p641 := eq_true p641
          replace q641 := eq_true q641
          go_wp2_with (first | ((with_reducible refine gate_dst (N := 11) rfl ?_); refine box_event ?hg (N := 11) ?hd (cs := #[.bool false, .string (⟨#[]⟩ : ByteArray), .string (⟨#[]⟩ : ByteArray), .int .i64 0, .int .i64 0, .int .i64 0]) (t := 134) ?hr ?_; (case hd => rfl); (case hg => rfl); (case hr => first | (go_simp; done) | (go_simp; rfl)); intro gb642 hg w16 hbox hb; have n0_ := Aside0.mk (Kd.R_below (Kd.R_elderB z22_17 gb642 (Nat.le_of_eq hg.symm)) hb); have n1_ := Aside0.mk (blk_below (g := gb637) (o := .cells #[.slice A0_0 l0_0.length c0_0, .slice A0_1 l0_1.length c0_1, .slice (some ad641) l0_2.length c0_2, .slice A0_3 l0_3.length c0_3] 53 (0, 0)) z22_9 hb); have n2_ := Aside0.mk (below_step z22_4 hb); have n3_ := Aside0.mk (hbox); have n4_ := Aside0.mk ((by rw [hg]; exact (below_size z22_4) : w.heap.size ≤ gb642)); have n5_ := Aside0.mk ((by rw [hg]; exact (below_size z22_4) : w.heap.size ≤ gb642)); have n6_ := Aside0.mk ((by rw [hg]; exact Nat.ne_of_lt (blk_lt (g := gb637) (o := .cells #[.slice A0_0 l0_0.length c0_0, .slice A0_1 l0_1.length c0_1, .slice (some ad641) l0_2.length c0_2, .slice A0_3 l0_3.length c0_3] 53 (0, 0)) z22_9) : gb637 ≠ gb642)); have n7_ := Aside0.mk ((by rw [hg]; exact Nat.ne_of_gt (blk_lt (g := gb637) (o := .cells #[.slice A0_0 l0_0.length c0_0, .slice A0_1 l0_1.length c0_1, .slice (some ad641) l0_2.length c0_2, .slice A0_3 l0_3.length c0_3] 53 (0, 0)) z22_9) : gb642 ≠ gb637)); clear HO_9; clear BK637; clear HB; have HO_9 := n0_; have BK637 := n1_; have HB := n2_; have BK642 := n3_; have GW642 := n4_; have GE642 := n5_; have NB637_642 := n6_; have NB642_637 := n7_; clear n0_ n1_ n2_ n3_ n4_ n5_ n6_ n7_; clear hb hbox hg; have hnb17 := NB642_637.out; have hnc17 := NB637_642.out; have hcz18_0 : w16.cell? ⟨gb642, 0, none⟩ = some (.bool false) := (blk_cell BK642.out 0).trans rfl; have hcz18_1 : w16.cell? ⟨gb642, 1, none⟩ = some (.string (⟨#[]⟩ : ByteArray)) := (blk_cell BK642.out 1).trans rfl; have hcz18_2 : w16.cell? ⟨gb642, 2, none⟩ = some (.string (⟨#[]⟩ : ByteArray)) := (blk_cell BK642.out 2).trans rfl; have hcz18_3 : w16.cell? ⟨gb642, 3, none⟩ = some (.int .i64 0) := (blk_cell BK642.out 3).trans rfl; have hcz18_4 : w16.cell? ⟨gb642, 4, none⟩ = some (.int .i64 0) := (blk_cell BK642.out 4).trans rfl; have hcz18_5 : w16.cell? ⟨gb642, 5, none⟩ = some (.int .i64 0) := (blk_cell BK642.out 5).trans rfl; have hfz18_0 := blk_frozen BK642.out 0; have hfz18_1 := blk_frozen BK642.out 1; have hfz18_2 := blk_frozen BK642.out 2; have hfz18_3 := blk_frozen BK642.out 3; have hfz18_4 := blk_frozen BK642.out 4; have hfz18_5 := blk_frozen BK642.out 5) | ((with_reducible refine gate_builtin (b := .append) (xs := #[.tmp 36, .tmp 38]) rfl ?_); at_builtin; refine Kd.R_append k134 (w0 := w) w.heap.size rfl (.tmp 36) (.tmp 38) 50 134 (.agg #[(.bool false), (.string ⟨#[]⟩), (.string ⟨#[]⟩), (.int .i64 0), (.int .i64 0), (.int .i64 0)]) 64 rfl Try.underlying50 info134 rfl (by decide) (by omega) u9 x9_1 (⟨(rd_T134 l0_2 x16_1).f0, (rd_T134 l0_2 x16_1).f1, (rd_T134 l0_2 x16_1).f2, (rd_T134 l0_2 x16_1).f3, (⟨(rd_T134 l0_2 x16_1).f4.f0, (rd_T134 l0_2 x16_1).f4.f1⟩ : S29)⟩ : S134) [.bool ((rd_T134 l0_2 x16_1).f0), .string ((rd_T134 l0_2 x16_1).f1), .string ((rd_T134 l0_2 x16_1).f2), .int .i64 ((rd_T134 l0_2 x16_1).f3), .int .i64 ((rd_T134 l0_2 x16_1).f4.f0), .int .i64 ((rd_T134 l0_2 x16_1).f4.f1)] (fun k_ => k_ ≠ gb642) (fun _ => False) rfl (by first | (go_simp; done) | (go_simp; rfl)) ?aP (fun _ hk => hk.elim) ?aF ?aO ?aB ?aS ?aL ?_; (case aP => exact k134_mkM _ _ _ (⟨(rd_T134 l0_2 x16_1).f0, (rd_T134 l0_2 x16_1).f1, (rd_T134 l0_2 x16_1).f2, (rd_T134 l0_2 x16_1).f3, (⟨(rd_T134 l0_2 x16_1).f4.f0, (rd_T134 l0_2 x16_1).f4.f1⟩ : S29)⟩ : S134)); (case aB => exact z22_14); (case aF => exact (fun k_ hk => Kd.freshB (g := gb642) (o := .cells #[.bool ((rd_T134 l0_2 x16_1).f0), .string ((rd_T134 l0_2 x16_1).f1), .string ((rd_T134 l0_2 x16_1).f2), .int .i64 ((rd_T134 l0_2 x16_1).f3), .int .i64 ((rd_T134 l0_2 x16_1).f4.f0), .int .i64 ((rd_T134 l0_2 x16_1).f4.f1)] 134 (0, 0)) z22_7 k_ hk)); (case aO => exact (by (with_reducible repeat (first | apply Kd.R_alloc | apply Kd.R_drewN | apply Kd.R_drew)); exact Kd.R_mono (Kd.R_far (p := ⟨gb642, 5, none⟩) (Kd.R_far (p := ⟨gb642, 4, none⟩) (Kd.R_far (p := ⟨gb642, 3, none⟩) (Kd.R_far (p := ⟨gb642, 2, none⟩) (Kd.R_far (p := ⟨gb642, 1, none⟩) (Kd.R_far (p := ⟨gb642, 0, none⟩) (Kd.R_mono HO_9.out (fun k_ hk => (⟨hk, hk.2⟩ : _ ∧ k_ ≠ gb642))) (fun _ hk => hk.2) (.bool ((rd_T134 l0_2 x16_1).f0))) (fun _ hk => hk.2) (.string ((rd_T134 l0_2 x16_1).f1))) (fun _ hk => hk.2) (.string ((rd_T134 l0_2 x16_1).f2))) (fun _ hk => hk.2) (.int .i64 ((rd_T134 l0_2 x16_1).f3))) (fun _ hk => hk.2) (.int .i64 ((rd_T134 l0_2 x16_1).f4.f0))) (fun _ hk => hk.2) (.int .i64 ((rd_T134 l0_2 x16_1).f4.f1))) (fun _ hk => hk.1.2))); (case aS => exact (below_size z22_14)); (case aL => have := LMc15.out; omega); intro v644 w19 ho hb hg hat; rw [← Ny643.out] at ho; have n0_ := Aside0.mk (blk_grown (g := gb637) (o := .cells #[.slice A0_0 l0_0.length c0_0, .slice A0_1 l0_1.length c0_1, .slice (some ad641) l0_2.length c0_2, .slice A0_3 l0_3.length c0_3] 53 (0, 0)) z22_1 hg (Kd.R_ne HO_9.out BK637.out (by decide))); have n1_ := Aside0.mk (blk_grown (g := gb642) (o := .cells #[.bool ((rd_T134 l0_2 x16_1).f0), .string ((rd_T134 l0_2 x16_1).f1), .string ((rd_T134 l0_2 x16_1).f2), .int .i64 ((rd_T134 l0_2 x16_1).f3), .int .i64 ((rd_T134 l0_2 x16_1).f4.f0), .int .i64 ((rd_T134 l0_2 x16_1).f4.f1)] 134 (0, 0)) z22_7 hg (Kd.R_away HO_9.out (fun _ hk => hk.2))); have n2_ := Aside0.mk (hb); have n3_ := Aside0.mk (ho); clear BK637; clear BK642; clear HB; clear HO_9; have BK637 := n0_; have BK642 := n1_; have HB := n2_; have HO645 := n3_; clear n0_ n1_ n2_ n3_; clear ho hb hg hat))
          go_roundg k1
          case measure => have := HK1.out; omega
          case rel => exact ⟨(y643), (wrap64 (x16_1 + 1)), z22_16, H', ⟨z22_19⟩, ⟨by (with_reducible repeat (first | apply Kd.R_alloc | apply Kd.R_drewN | apply Kd.R_drew)); exact Kd.R_mono HO645.out (fun _ hk => trivial)⟩, ⟨z22_9⟩, ⟨z22_14⟩⟩
         ·
          rw [if_neg c15] at H
          exact absurd H (by simp)
        ·
         rw [if_neg c14] at H
         have c14b0 : (((rd_T134 l0_2 x16_1).f2).toList == a3.toList) = false := beq_eq_false_iff_ne.mpr c14
         have c14b1 : (((rd_T134 l0_2 x16_1).f2).toList != a3.toList) = true := bne_iff_ne.mpr c14
         have H' := Aside0.mk H
         clear H
         have p641 : 0 ≤ (x16_1 : Int) := of_decide_eq_true z22_0
         have q641 : x16_1 < (l0_2.length : Int) := of_decide_eq_true z22_0
         obtain ⟨ad641, e641, hx641_0, hx641_1, hx641_2, hx641_3, hx641_4, hx641_5⟩ := at_T134 HR0_2.out x16_1 p641 q641
         cases e641
         replace hx641_0 := (HB.out.cell (World.block_lt_of_cell? w _ hx641_0)).trans hx641_0
         replace hx641_1 := (HB.out.cell (World.block_lt_of_cell? w _ hx641_1)).trans hx641_1
         replace hx641_2 := (HB.out.cell (World.block_lt_of_cell? w _ hx641_2)).trans hx641_2
         replace hx641_3 := (HB.out.cell (World.block_lt_of_cell? w _ hx641_3)).trans hx641_3
         replace hx641_4 := (HB.out.cell (World.block_lt_of_cell? w _ hx641_4)).trans hx641_4
         replace hx641_5 := (HB.out.cell (World.block_lt_of_cell? w _ hx641_5)).trans hx641_5
         replace p641 := eq_true p641
         replace q641 := eq_true q641
         go_wp2_with (first | ((with_reducible refine gate_dst (N := 11) rfl ?_); refine box_event ?hg (N := 11) ?hd (cs := #[.bool false, .string (⟨#[]⟩ : ByteArray), .string (⟨#[]⟩ : ByteArray), .int .i64 0, .int .i64 0, .int .i64 0]) (t := 134) ?hr ?_; (case hd => rfl); (case hg => rfl); (case hr => first | (go_simp; done) | (go_simp; rfl)); intro gb642 hg w20 hbox hb; have n0_ := Aside0.mk (Kd.R_below (Kd.R_elderB z22_17 gb642 (Nat.le_of_eq hg.symm)) hb); have n1_ := Aside0.mk (blk_below (g := gb637) (o := .cells #[.slice A0_0 l0_0.length c0_0, .slice A0_1 l0_1.length c0_1, .slice (some ad641) l0_2.length c0_2, .slice A0_3 l0_3.length c0_3] 53 (0, 0)) z22_9 hb); have n2_ := Aside0.mk (below_step z22_4 hb); have n3_ := Aside0.mk (hbox); have n4_ := Aside0.mk ((by rw [hg]; exact (below_size z22_4) : w.heap.size ≤ gb642)); have n5_ := Aside0.mk ((by rw [hg]; exact (below_size z22_4) : w.heap.size ≤ gb642)); have n6_ := Aside0.mk ((by rw [hg]; exact Nat.ne_of_lt (blk_lt (g := gb637) (o := .cells #[.slice A0_0 l0_0.length c0_0, .slice A0_1 l0_1.length c0_1, .slice (some ad641) l0_2.length c0_2, .slice A0_3 l0_3.length c0_3] 53 (0, 0)) z22_9) : gb637 ≠ gb642)); have n7_ := Aside0.mk ((by rw [hg]; exact Nat.ne_of_gt (blk_lt (g := gb637) (o := .cells #[.slice A0_0 l0_0.length c0_0, .slice A0_1 l0_1.length c0_1, .slice (some ad641) l0_2.length c0_2, .slice A0_3 l0_3.length c0_3] 53 (0, 0)) z22_9) : gb642 ≠ gb637)); clear HO_9; clear BK637; clear HB; have HO_9 := n0_; have BK637 := n1_; have HB := n2_; have BK642 := n3_; have GW642 := n4_; have GE642 := n5_; have NB637_642 := n6_; have NB642_637 := n7_; clear n0_ n1_ n2_ n3_ n4_ n5_ n6_ n7_; clear hb hbox hg; have hnb21 := NB642_637.out; have hnc21 := NB637_642.out; have hcz22_0 : w20.cell? ⟨gb642, 0, none⟩ = some (.bool false) := (blk_cell BK642.out 0).trans rfl; have hcz22_1 : w20.cell? ⟨gb642, 1, none⟩ = some (.string (⟨#[]⟩ : ByteArray)) := (blk_cell BK642.out 1).trans rfl; have hcz22_2 : w20.cell? ⟨gb642, 2, none⟩ = some (.string (⟨#[]⟩ : ByteArray)) := (blk_cell BK642.out 2).trans rfl; have hcz22_3 : w20.cell? ⟨gb642, 3, none⟩ = some (.int .i64 0) := (blk_cell BK642.out 3).trans rfl; have hcz22_4 : w20.cell? ⟨gb642, 4, none⟩ = some (.int .i64 0) := (blk_cell BK642.out 4).trans rfl; have hcz22_5 : w20.cell? ⟨gb642, 5, none⟩ = some (.int .i64 0) := (blk_cell BK642.out 5).trans rfl; have hfz22_0 := blk_frozen BK642.out 0; have hfz22_1 := blk_frozen BK642.out 1; have hfz22_2 := blk_frozen BK642.out 2; have hfz22_3 := blk_frozen BK642.out 3; have hfz22_4 := blk_frozen BK642.out 4; have hfz22_5 := blk_frozen BK642.out 5))
         go_roundg k1
         case measure => have := HK1.out; omega
         case rel => exact ⟨(x9_1), (wrap64 (x16_1 + 1)), z22_16, H', ⟨z22_19⟩, ⟨z22_11⟩, ⟨z22_1⟩, ⟨z22_14⟩⟩
       ·
        rw [if_neg c13] at H
        have c13b0 : (((rd_T134 l0_2 x16_1).f1).toList == a2.toList) = false := beq_eq_false_iff_ne.mpr c13
        have c13b1 : (((rd_T134 l0_2 x16_1).f1).toList != a2.toList) = true := bne_iff_ne.mpr c13
        have H' := Aside0.mk H
        clear H
        have p641 : 0 ≤ (x16_1 : Int) := of_decide_eq_true z22_0
        have q641 : x16_1 < (l0_2.length : Int) := of_decide_eq_true z22_0
        obtain ⟨ad641, e641, hx641_0, hx641_1, hx641_2, hx641_3, hx641_4, hx641_5⟩ := at_T134 HR0_2.out x16_1 p641 q641
        cases e641
        replace hx641_0 := (HB.out.cell (World.block_lt_of_cell? w _ hx641_0)).trans hx641_0
        replace hx641_1 := (HB.out.cell (World.block_lt_of_cell? w _ hx641_1)).trans hx641_1
        replace hx641_2 := (HB.out.cell (World.block_lt_of_cell? w _ hx641_2)).trans hx641_2
        replace hx641_3 := (HB.out.cell (World.block_lt_of_cell? w _ hx641_3)).trans hx641_3
        replace hx641_4 := (HB.out.cell (World.block_lt_of_cell? w _ hx641_4)).trans hx641_4
        replace hx641_5 := (HB.out.cell (World.block_lt_of_cell? w _ hx641_5)).trans hx641_5
        replace p641 := eq_true p641
        replace q641 := eq_true q641
        go_wp2_with (first | ((with_reducible refine gate_dst (N := 11) rfl ?_); refine box_event ?hg (N := 11) ?hd (cs := #[.bool false, .string (⟨#[]⟩ : ByteArray), .string (⟨#[]⟩ : ByteArray), .int .i64 0, .int .i64 0, .int .i64 0]) (t := 134) ?hr ?_; (case hd => rfl); (case hg => rfl); (case hr => first | (go_simp; done) | (go_simp; rfl)); intro gb642 hg w23 hbox hb; have n0_ := Aside0.mk (Kd.R_below (Kd.R_elderB z22_17 gb642 (Nat.le_of_eq hg.symm)) hb); have n1_ := Aside0.mk (blk_below (g := gb637) (o := .cells #[.slice A0_0 l0_0.length c0_0, .slice A0_1 l0_1.length c0_1, .slice (some ad641) l0_2.length c0_2, .slice A0_3 l0_3.length c0_3] 53 (0, 0)) z22_9 hb); have n2_ := Aside0.mk (below_step z22_4 hb); have n3_ := Aside0.mk (hbox); have n4_ := Aside0.mk ((by rw [hg]; exact (below_size z22_4) : w.heap.size ≤ gb642)); have n5_ := Aside0.mk ((by rw [hg]; exact (below_size z22_4) : w.heap.size ≤ gb642)); have n6_ := Aside0.mk ((by rw [hg]; exact Nat.ne_of_lt (blk_lt (g := gb637) (o := .cells #[.slice A0_0 l0_0.length c0_0, .slice A0_1 l0_1.length c0_1, .slice (some ad641) l0_2.length c0_2, .slice A0_3 l0_3.length c0_3] 53 (0, 0)) z22_9) : gb637 ≠ gb642)); have n7_ := Aside0.mk ((by rw [hg]; exact Nat.ne_of_gt (blk_lt (g := gb637) (o := .cells #[.slice A0_0 l0_0.length c0_0, .slice A0_1 l0_1.length c0_1, .slice (some ad641) l0_2.length c0_2, .slice A0_3 l0_3.length c0_3] 53 (0, 0)) z22_9) : gb642 ≠ gb637)); clear HO_9; clear BK637; clear HB; have HO_9 := n0_; have BK637 := n1_; have HB := n2_; have BK642 := n3_; have GW642 := n4_; have GE642 := n5_; have NB637_642 := n6_; have NB642_637 := n7_; clear n0_ n1_ n2_ n3_ n4_ n5_ n6_ n7_; clear hb hbox hg; have hnb24 := NB642_637.out; have hnc24 := NB637_642.out; have hcz25_0 : w23.cell? ⟨gb642, 0, none⟩ = some (.bool false) := (blk_cell BK642.out 0).trans rfl; have hcz25_1 : w23.cell? ⟨gb642, 1, none⟩ = some (.string (⟨#[]⟩ : ByteArray)) := (blk_cell BK642.out 1).trans rfl; have hcz25_2 : w23.cell? ⟨gb642, 2, none⟩ = some (.string (⟨#[]⟩ : ByteArray)) := (blk_cell BK642.out 2).trans rfl; have hcz25_3 : w23.cell? ⟨gb642, 3, none⟩ = some (.int .i64 0) := (blk_cell BK642.out 3).trans rfl; have hcz25_4 : w23.cell? ⟨gb642, 4, none⟩ = some (.int .i64 0) := (blk_cell BK642.out 4).trans rfl; have hcz25_5 : w23.cell? ⟨gb642, 5, none⟩ = some (.int .i64 0) := (blk_cell BK642.out 5).trans rfl; have hfz25_0 := blk_frozen BK642.out 0; have hfz25_1 := blk_frozen BK642.out 1; have hfz25_2 := blk_frozen BK642.out 2; have hfz25_3 := blk_frozen BK642.out 3; have hfz25_4 := blk_frozen BK642.out 4; have hfz25_5 := blk_frozen BK642.out 5))
        go_roundg k1
        case measure => have := HK1.out; omega
        case rel => exact ⟨(x9_1), (wrap64 (x16_1 + 1)), z22_16, H', ⟨z22_19⟩, ⟨z22_11⟩, ⟨z22_1⟩, ⟨z22_14⟩⟩
      ·
       rw [if_neg c12] at H
       have c12b0 : (((rd_T134 l0_2 x16_1).f0) == a1) = false := by simpa using c12
       (try (have c12b1 : decide (((rd_T134 l0_2 x16_1).f0) = a1) = false := by simpa using c12))
       (try (have c12b2 : (((rd_T134 l0_2 x16_1).f0) == a1) = false := by simpa using c12))
       (try (have c12b3 : ¬ (((rd_T134 l0_2 x16_1).f0) = a1) := by simpa using c12))
       clear c12
       have H' := Aside0.mk H
       clear H
       have p641 : 0 ≤ (x16_1 : Int) := of_decide_eq_true z22_0
       have q641 : x16_1 < (l0_2.length : Int) := of_decide_eq_true z22_0
       obtain ⟨ad641, e641, hx641_0, hx641_1, hx641_2, hx641_3, hx641_4, hx641_5⟩ := at_T134 HR0_2.out x16_1 p641 q641
       cases e641
       replace hx641_0 := (HB.out.cell (World.block_lt_of_cell? w _ hx641_0)).trans hx641_0
       replace hx641_1 := (HB.out.cell (World.block_lt_of_cell? w _ hx641_1)).trans hx641_1
       replace hx641_2 := (HB.out.cell (World.block_lt_of_cell? w _ hx641_2)).trans hx641_2
       replace hx641_3 := (HB.out.cell (World.block_lt_of_cell? w _ hx641_3)).trans hx641_3
       replace hx641_4 := (HB.out.cell (World.block_lt_of_cell? w _ hx641_4)).trans hx641_4
       replace hx641_5 := (HB.out.cell (World.block_lt_of_cell? w _ hx641_5)).trans hx641_5
       replace p641 := eq_true p641
       replace q641 := eq_true q641
       go_wp2_with (first | ((with_reducible refine gate_dst (N := 11) rfl ?_); refine box_event ?hg (N := 11) ?hd (cs := #[.bool false, .string (⟨#[]⟩ : ByteArray), .string (⟨#[]⟩ : ByteArray), .int .i64 0, .int .i64 0, .int .i64 0]) (t := 134) ?hr ?_; (case hd => rfl); (case hg => rfl); (case hr => first | (go_simp; done) | (go_simp; rfl)); intro gb642 hg w26 hbox hb; have n0_ := Aside0.mk (Kd.R_below (Kd.R_elderB z22_17 gb642 (Nat.le_of_eq hg.symm)) hb); have n1_ := Aside0.mk (blk_below (g := gb637) (o := .cells #[.slice A0_0 l0_0.length c0_0, .slice A0_1 l0_1.length c0_1, .slice (some ad641) l0_2.length c0_2, .slice A0_3 l0_3.length c0_3] 53 (0, 0)) z22_9 hb); have n2_ := Aside0.mk (below_step z22_4 hb); have n3_ := Aside0.mk (hbox); have n4_ := Aside0.mk ((by rw [hg]; exact (below_size z22_4) : w.heap.size ≤ gb642)); have n5_ := Aside0.mk ((by rw [hg]; exact (below_size z22_4) : w.heap.size ≤ gb642)); have n6_ := Aside0.mk ((by rw [hg]; exact Nat.ne_of_lt (blk_lt (g := gb637) (o := .cells #[.slice A0_0 l0_0.length c0_0, .slice A0_1 l0_1.length c0_1, .slice (some ad641) l0_2.length c0_2, .slice A0_3 l0_3.length c0_3] 53 (0, 0)) z22_9) : gb637 ≠ gb642)); have n7_ := Aside0.mk ((by rw [hg]; exact Nat.ne_of_gt (blk_lt (g := gb637) (o := .cells #[.slice A0_0 l0_0.length c0_0, .slice A0_1 l0_1.length c0_1, .slice (some ad641) l0_2.length c0_2, .slice A0_3 l0_3.length c0_3] 53 (0, 0)) z22_9) : gb642 ≠ gb637)); clear HO_9; clear BK637; clear HB; have HO_9 := n0_; have BK637 := n1_; have HB := n2_; have BK642 := n3_; have GW642 := n4_; have GE642 := n5_; have NB637_642 := n6_; have NB642_637 := n7_; clear n0_ n1_ n2_ n3_ n4_ n5_ n6_ n7_; clear hb hbox hg; have hnb27 := NB642_637.out; have hnc27 := NB637_642.out; have hcz28_0 : w26.cell? ⟨gb642, 0, none⟩ = some (.bool false) := (blk_cell BK642.out 0).trans rfl; have hcz28_1 : w26.cell? ⟨gb642, 1, none⟩ = some (.string (⟨#[]⟩ : ByteArray)) := (blk_cell BK642.out 1).trans rfl; have hcz28_2 : w26.cell? ⟨gb642, 2, none⟩ = some (.string (⟨#[]⟩ : ByteArray)) := (blk_cell BK642.out 2).trans rfl; have hcz28_3 : w26.cell? ⟨gb642, 3, none⟩ = some (.int .i64 0) := (blk_cell BK642.out 3).trans rfl; have hcz28_4 : w26.cell? ⟨gb642, 4, none⟩ = some (.int .i64 0) := (blk_cell BK642.out 4).trans rfl; have hcz28_5 : w26.cell? ⟨gb642, 5, none⟩ = some (.int .i64 0) := (blk_cell BK642.out 5).trans rfl; have hfz28_0 := blk_frozen BK642.out 0; have hfz28_1 := blk_frozen BK642.out 1; have hfz28_2 := blk_frozen BK642.out 2; have hfz28_3 := blk_frozen BK642.out 3; have hfz28_4 := blk_frozen BK642.out 4; have hfz28_5 := blk_frozen BK642.out 5))
       go_roundg k1
       case measure => have := HK1.out; omega
       case rel => exact ⟨(x9_1), (wrap64 (x16_1 + 1)), z22_16, H', ⟨z22_19⟩, ⟨z22_11⟩, ⟨z22_1⟩, ⟨z22_14⟩⟩
     ·
      rw [if_neg c11] at H
      exact absurd H (by simp)
    ·
     rw [if_neg c10] at H
     exact absurd H (by simp)
   ·
    rw [if_neg c9] at H
    have c9b0 : decide (x16_1 < (l0_2.length : Int)) = false := decide_eq_false c9
    clear c9
    obtain rfl := Option.some.inj H
    go_wp2
    go_ret
    exact ⟨_, z22_18, z22_17, z22_4⟩
def laws_markText.l0 : Nat → Int → ByteArray → Option (ByteArray)
  | 0, _, _ => none
  | k + 1, x0, x3 => if x0 > 0 then ((some (([(wrap64 (48 + (Int.tmod x0 10))) % 256] : List Int) : List Int)).bind fun y646 => (if (strOfNums y646).size + x3.size ≤ 9223372036854775807 then (laws_markText.l0 k (wrap64 (Int.tdiv x0 10)) ((strOfNums y646) ++ x3)) else (none))) else (if 1 + x3.size ≤ 9223372036854775807 then (some ((⟨#[109]⟩ : ByteArray) ++ x3)) else (none))
def laws_markText.f (k : Nat) (a0 : Int) : Option (ByteArray) := if a0 ≤ 0 then (some (⟨#[109, 48]⟩ : ByteArray)) else (laws_markText.l0 k a0 (⟨#[]⟩ : ByteArray))
set_option maxHeartbeats 8000000 in
set_option maxRecDepth 100000 in
theorem laws_markText.calls (k : Nat) (a0 : Int) (r : ByteArray) (w : World) (h : laws_markText.f k a0 = some r) :
  Calls Try.prog 119 #[.int .i64 a0] w fun e w' => e = .returned (.string r) ∧ Below w.heap.size w w' := by
 have HB := Aside0.mk (Below.refl w.heap.size w)
 have H : (if a0 ≤ 0 then (some (⟨#[109, 48]⟩ : ByteArray)) else (laws_markText.l0 k a0 (⟨#[]⟩ : ByteArray))) = some r := h
 clear h
 by_cases c2 : a0 ≤ 0
 ·
  rw [if_pos c2] at H
  have c2b0 : decide (a0 ≤ 0) = true := decide_eq_true c2
  clear c2
  obtain rfl := Option.some.inj H
  go_enter Try.func119, Try.ntmps119
  go_wp2
  go_ret
  exact ⟨z22_18, z22_3⟩
 ·
  rw [if_neg c2] at H
  have c2b0 : decide (a0 ≤ 0) = false := decide_eq_false c2
  clear c2
  have H' := Aside0.mk H
  clear H
  go_enter Try.func119, Try.ntmps119
  go_wp2
  go_loopg [0, 3] k (fun kq v0 v3 w' => ∃ (x0_1 : Int) (x3_1 : ByteArray), v0 = .int .i64 x0_1 ∧ v3 = .string x3_1 ∧ Aside0 (laws_markText.l0 kq x0_1 x3_1 = some r) ∧ Aside0 (kq ≤ k) ∧ Aside0 (Below w.heap.size w w'))
  case atStart => exact ⟨(a0), ((⟨#[]⟩ : ByteArray)), z22_16, z22_16, H', ⟨Nat.le_refl _⟩, ⟨z22_3⟩⟩
  case round =>
   clear H'
   try clear c1
   try clear c2
   try clear c2b0
   try clear p2
   obtain ⟨x0_1, x3_1, rfl, rfl, HA, HK1, HB⟩ := hrel
   cases gk with
   | zero => exact absurd HA.out (by simp [laws_markText.l0])
   | succ k1 =>
    have H := HA.out
    clear HA
    simp only [laws_markText.l0] at H
    by_cases c3 : x0_1 > 0
    ·
     rw [if_pos c3] at H
     have c3b0 : decide (0 < x0_1) = true := decide_eq_true c3
     clear c3
     obtain ⟨y646, hy646⟩ : ∃ y_ : List Int, y_ = (([(wrap64 (48 + (Int.tmod x0_1 10))) % 256] : List Int)) := ⟨_, rfl⟩
     replace H : (if (strOfNums y646).size + x3_1.size ≤ 9223372036854775807 then (laws_markText.l0 k1 (wrap64 (Int.tdiv x0_1 10)) ((strOfNums y646) ++ x3_1)) else (none)) = some r := by first | (rw [hy646]; with_reducible exact H) | (have H2_ := (Option.bind_some _ _).symm.trans H; rw [hy646]; with_reducible exact H2_) | (have H2_ := (Option.bind_some _ _).symm.trans H; with_reducible exact H2_) | with_reducible exact H | (rw [hy646]; exact H) | exact H
     have Ny646 := Aside0.mk hy646
     clear hy646
     by_cases c4 : (strOfNums y646).size + x3_1.size ≤ 9223372036854775807
     ·
      rw [if_pos c4] at H
      have c4b0 := eq_true c4
      have c4b1 : decide ((strOfNums y646).size + x3_1.size ≤ 9223372036854775807) = true := decide_eq_true c4
      try have c4b2 : (9223372036854775807 < (strOfNums y646).size + x3_1.size) = False := eq_false (Nat.not_lt.2 c4)
      have H' := Aside0.mk H
      clear H
      go_wp2_with (first | ((with_reducible refine gate_dst (N := 12) rfl ?_); refine Kd.R_lit (Kd.int .u8) _ 5 ?hg (N := 12) ?hd (xs := ([(wrap64 (48 + (Int.tmod x0_1 10))) % 256] : List Int)) (inner := [.int .u8 ((wrap64 (48 + (Int.tmod x0_1 10))) % 256)]) (ok := fun _ => True) (okp := fun _ => True) ?hr ?hp (fun _ hk => hk) trivial (Below.refl _ _) (Nat.le_refl _) (by simp) ?_; (case hd => rfl); (case hg => rfl); (case hr => first | (go_simp; done) | (go_simp; rfl)); (case hp => exact (Reps.one (show Kd.M (Kd.int .u8) _ _ _ ((wrap64 (48 + (Int.tmod x0_1 10))) % 256) [.int .u8 ((wrap64 (48 + (Int.tmod x0_1 10))) % 256)] from rfl) (Reps.none _ _))); intro v647 w5 ho6 hb hg_ hnew_; clear hg_ hnew_; (first | rw [← Ny646.out] at ho6 | (simp only [Int.reduceToNat] at ho6; rw [← Ny646.out] at ho6)); have n0_ := Aside0.mk (Kd.R_lower ho6 (below_size z22_3)); have n1_ := Aside0.mk (below_step z22_3 hb); clear HB; have HO648 := n0_; have HB := n1_; clear n0_ n1_; clear hb ho6; have hcv7 := own_string (P := Try.prog) Try.underlying66 Try.underlying5 Try.underlying9 (Kd.own_of_R HO648.out)))
      go_roundg k1
      case measure => have := HK1.out; omega
      case rel => exact ⟨(wrap64 (Int.tdiv x0_1 10)), ((strOfNums y646) ++ x3_1), z22_16, z22_16, H', ⟨z22_19⟩, ⟨z22_3⟩⟩
     ·
      rw [if_neg c4] at H
      exact absurd H (by simp)
    ·
     rw [if_neg c3] at H
     have c3b0 : decide (0 < x0_1) = false := decide_eq_false c3
     clear c3
     by_cases c8 : 1 + x3_1.size ≤ 9223372036854775807
     ·
      rw [if_pos c8] at H
      have c8b0 := eq_true c8
      have c8b1 : decide (1 + x3_1.size ≤ 9223372036854775807) = true := decide_eq_true c8
      try have c8b2 : (9223372036854775807 < 1 + x3_1.size) = False := eq_false (Nat.not_lt.2 c8)
      obtain rfl := Option.some.inj H
      go_wp2
      go_ret
      exact ⟨z22_18, z22_3⟩
     ·
      rw [if_neg c8] at H
      exact absurd H (by simp)
def laws_markLiveS.l0 : Nat → List (S134) → Int → Int → Option (Int × (List (S134)))
  | 0, _, _, _ => none
  | k + 1, x0, x1, x5 => if x5 < (x0.length : Int) then (if 0 ≤ x5 then ((some (x0.set (x5 : Int).toNat (⟨((Int.tmod x1 3) == 0), (rd_T134 x0 x5).f1, (rd_T134 x0 x5).f2, (rd_T134 x0 x5).f3, (⟨(rd_T134 x0 x5).f4.f0, (rd_T134 x0 x5).f4.f1⟩ : S29)⟩ : S134) : List (S134))).bind fun y649 => ((laws_markText.f k (wrap64 (x1 + 1))).bind fun t650 => ((some (y649.set (x5 : Int).toNat (⟨(rd_T134 y649 x5).f0, t650, (rd_T134 y649 x5).f2, (rd_T134 y649 x5).f3, (⟨(rd_T134 y649 x5).f4.f0, (rd_T134 y649 x5).f4.f1⟩ : S29)⟩ : S134) : List (S134))).bind fun y651 => ((laws_markText.f k (wrap64 ((wrap64 (x1 + 1)) + 1))).bind fun t652 => ((some (y651.set (x5 : Int).toNat (⟨(rd_T134 y651 x5).f0, (rd_T134 y651 x5).f1, t652, (rd_T134 y651 x5).f3, (⟨(rd_T134 y651 x5).f4.f0, (rd_T134 y651 x5).f4.f1⟩ : S29)⟩ : S134) : List (S134))).bind fun y653 => ((some (y653.set (x5 : Int).toNat (⟨(rd_T134 y653 x5).f0, (rd_T134 y653 x5).f1, (rd_T134 y653 x5).f2, wrap64 ((wrap64 ((wrap64 (x1 + 1)) + 1)) + 1), (⟨(rd_T134 y653 x5).f4.f0, (rd_T134 y653 x5).f4.f1⟩ : S29)⟩ : S134) : List (S134))).bind fun y654 => ((some (y654.set (x5 : Int).toNat (⟨(rd_T134 y654 x5).f0, (rd_T134 y654 x5).f1, (rd_T134 y654 x5).f2, (rd_T134 y654 x5).f3, (⟨wrap64 ((wrap64 ((wrap64 ((wrap64 (x1 + 1)) + 1)) + 1)) + 1), (rd_T134 y654 x5).f4.f1⟩ : S29)⟩ : S134) : List (S134))).bind fun y655 => (laws_markLiveS.l0 k (y655.set (x5 : Int).toNat (⟨(rd_T134 y655 x5).f0, (rd_T134 y655 x5).f1, (rd_T134 y655 x5).f2, (rd_T134 y655 x5).f3, (⟨(rd_T134 y655 x5).f4.f0, wrap64 ((wrap64 ((wrap64 ((wrap64 ((wrap64 (x1 + 1)) + 1)) + 1)) + 1)) + 1)⟩ : S29)⟩ : S134)) (wrap64 ((wrap64 ((wrap64 ((wrap64 ((wrap64 ((wrap64 (x1 + 1)) + 1)) + 1)) + 1)) + 1)) + 1)) (wrap64 (x5 + 1)))))))))) else (none)) else (some (x1, x0))
def laws_markLiveS.f (k : Nat) (l0 : List (S134)) (a1 : Int) : Option (Int × (List (S134))) := laws_markLiveS.l0 k l0 a1 0
set_option maxHeartbeats 8000000 in
set_option maxRecDepth 100000 in
theorem laws_markLiveS.calls (k : Nat) (P0_ : Nat → Prop) (u9000_ : Value) (l0 : List (S134)) (a1 : Int) (r1 : Int) (r2 : List (S134)) (w0 w : World) (hB : Below w0.heap.size w0 w) (ho0 : Kd.R k134 134 w w0.heap.size P0_ u9000_ l0) (h : laws_markLiveS.f k l0 a1 = some (r1, r2)) :
  Calls Try.prog 38 #[u9000_, .int .i64 a1] w fun e w' => e = .returned (.int .i64 r1) ∧ Kd.R k134 134 w' w0.heap.size (fun k_ => (P0_ k_ ∨ w.heap.size ≤ k_)) u9000_ r2 ∧ Below w0.heap.size w0 w' ∧ Kept w w' (fun k_ => P0_ k_) := by
 have HO0 := Aside0.mk (show Kd.R k134 134 w w0.heap.size (fun k_ => (P0_ k_ ∨ w.heap.size ≤ k_)) u9000_ l0 from Kd.R_mono ho0 (fun k_ hk => (.inl hk)))
 have HK := Aside0.mk (Kept.refl w (fun k_ => P0_ k_))
 have HW0 := Aside0.mk hB.size
 have HB := Aside0.mk hB
 clear hB
 have H : (laws_markLiveS.l0 k l0 a1 0) = some (r1, r2) := h
 clear h
 have H' := Aside0.mk H
 clear H
 go_enter Try.func38, Try.ntmps38
 go_wp2
 go_loopg [1, 5] k (fun kq v1 v5 w' => ∃ (x0_1 : List (S134)) (x1_1 : Int) (x5_1 : Int), v1 = .int .i64 x1_1 ∧ v5 = .int .i64 x5_1 ∧ Aside0 (laws_markLiveS.l0 kq x0_1 x1_1 x5_1 = some (r1, r2)) ∧ Aside0 (kq ≤ k) ∧ Aside0 (Kd.R k134 134 w' w0.heap.size (fun k_ => (P0_ k_ ∨ w.heap.size ≤ k_)) u9000_ x0_1) ∧ Aside0 (Kept w w' (fun k_ => P0_ k_)) ∧ Aside0 (Below w0.heap.size w0 w'))
 case atStart => exact ⟨(l0), (a1), (0), z22_16, z22_16, H', ⟨Nat.le_refl _⟩, ⟨by (with_reducible repeat (first | apply Kd.R_alloc | apply Kd.R_drewN | apply Kd.R_drew)); exact HO0.out⟩, ⟨z22_6⟩, ⟨z22_3⟩⟩
 case round =>
  clear H'
  try clear p2
  obtain ⟨x0_1, x1_1, x5_1, rfl, rfl, HA, HK1, HO_0, HK, HB⟩ := hrel
  cases gk with
  | zero => exact absurd HA.out (by simp [laws_markLiveS.l0])
  | succ k1 =>
   have H := HA.out
   clear HA
   simp only [laws_markLiveS.l0] at H
   by_cases c3 : x5_1 < (x0_1.length : Int)
   ·
    rw [if_pos c3] at H
    have c3b0 : decide (x5_1 < (x0_1.length : Int)) = true := decide_eq_true c3
    clear c3
    by_cases c4 : 0 ≤ x5_1
    ·
     rw [if_pos c4] at H
     have c4b0 : decide (0 ≤ x5_1) = true := decide_eq_true c4
     clear c4
     obtain ⟨y649, hy649⟩ : ∃ y_ : List (S134), y_ = (x0_1.set (x5_1 : Int).toNat (⟨((Int.tmod x1_1 3) == 0), (rd_T134 x0_1 x5_1).f1, (rd_T134 x0_1 x5_1).f2, (rd_T134 x0_1 x5_1).f3, (⟨(rd_T134 x0_1 x5_1).f4.f0, (rd_T134 x0_1 x5_1).f4.f1⟩ : S29)⟩ : S134)) := ⟨_, rfl⟩
     replace H : ((laws_markText.f k1 (wrap64 (x1_1 + 1))).bind fun t650 => ((some (y649.set (x5_1 : Int).toNat (⟨(rd_T134 y649 x5_1).f0, t650, (rd_T134 y649 x5_1).f2, (rd_T134 y649 x5_1).f3, (⟨(rd_T134 y649 x5_1).f4.f0, (rd_T134 y649 x5_1).f4.f1⟩ : S29)⟩ : S134) : List (S134))).bind fun y651 => ((laws_markText.f k1 (wrap64 ((wrap64 (x1_1 + 1)) + 1))).bind fun t652 => ((some (y651.set (x5_1 : Int).toNat (⟨(rd_T134 y651 x5_1).f0, (rd_T134 y651 x5_1).f1, t652, (rd_T134 y651 x5_1).f3, (⟨(rd_T134 y651 x5_1).f4.f0, (rd_T134 y651 x5_1).f4.f1⟩ : S29)⟩ : S134) : List (S134))).bind fun y653 => ((some (y653.set (x5_1 : Int).toNat (⟨(rd_T134 y653 x5_1).f0, (rd_T134 y653 x5_1).f1, (rd_T134 y653 x5_1).f2, wrap64 ((wrap64 ((wrap64 (x1_1 + 1)) + 1)) + 1), (⟨(rd_T134 y653 x5_1).f4.f0, (rd_T134 y653 x5_1).f4.f1⟩ : S29)⟩ : S134) : List (S134))).bind fun y654 => ((some (y654.set (x5_1 : Int).toNat (⟨(rd_T134 y654 x5_1).f0, (rd_T134 y654 x5_1).f1, (rd_T134 y654 x5_1).f2, (rd_T134 y654 x5_1).f3, (⟨wrap64 ((wrap64 ((wrap64 ((wrap64 (x1_1 + 1)) + 1)) + 1)) + 1), (rd_T134 y654 x5_1).f4.f1⟩ : S29)⟩ : S134) : List (S134))).bind fun y655 => (laws_markLiveS.l0 k1 (y655.set (x5_1 : Int).toNat (⟨(rd_T134 y655 x5_1).f0, (rd_T134 y655 x5_1).f1, (rd_T134 y655 x5_1).f2, (rd_T134 y655 x5_1).f3, (⟨(rd_T134 y655 x5_1).f4.f0, wrap64 ((wrap64 ((wrap64 ((wrap64 ((wrap64 (x1_1 + 1)) + 1)) + 1)) + 1)) + 1)⟩ : S29)⟩ : S134)) (wrap64 ((wrap64 ((wrap64 ((wrap64 ((wrap64 ((wrap64 (x1_1 + 1)) + 1)) + 1)) + 1)) + 1)) + 1)) (wrap64 (x5_1 + 1))))))))) = some (r1, r2) := by first | (rw [hy649]; with_reducible exact H) | (have H2_ := (Option.bind_some _ _).symm.trans H; rw [hy649]; with_reducible exact H2_) | (have H2_ := (Option.bind_some _ _).symm.trans H; with_reducible exact H2_) | with_reducible exact H | (rw [hy649]; exact H) | exact H
     have Ny649 := Aside0.mk hy649
     clear hy649
     replace H := Option.bind_eq_some_iff.mp H
     obtain ⟨t650, A60, H⟩ := H
     (try dsimp only at H)
     have A6 := Aside0.mk A60
     clear A60
     obtain ⟨y651, hy651⟩ : ∃ y_ : List (S134), y_ = (y649.set (x5_1 : Int).toNat (⟨(rd_T134 y649 x5_1).f0, t650, (rd_T134 y649 x5_1).f2, (rd_T134 y649 x5_1).f3, (⟨(rd_T134 y649 x5_1).f4.f0, (rd_T134 y649 x5_1).f4.f1⟩ : S29)⟩ : S134)) := ⟨_, rfl⟩
     replace H : ((laws_markText.f k1 (wrap64 ((wrap64 (x1_1 + 1)) + 1))).bind fun t652 => ((some (y651.set (x5_1 : Int).toNat (⟨(rd_T134 y651 x5_1).f0, (rd_T134 y651 x5_1).f1, t652, (rd_T134 y651 x5_1).f3, (⟨(rd_T134 y651 x5_1).f4.f0, (rd_T134 y651 x5_1).f4.f1⟩ : S29)⟩ : S134) : List (S134))).bind fun y653 => ((some (y653.set (x5_1 : Int).toNat (⟨(rd_T134 y653 x5_1).f0, (rd_T134 y653 x5_1).f1, (rd_T134 y653 x5_1).f2, wrap64 ((wrap64 ((wrap64 (x1_1 + 1)) + 1)) + 1), (⟨(rd_T134 y653 x5_1).f4.f0, (rd_T134 y653 x5_1).f4.f1⟩ : S29)⟩ : S134) : List (S134))).bind fun y654 => ((some (y654.set (x5_1 : Int).toNat (⟨(rd_T134 y654 x5_1).f0, (rd_T134 y654 x5_1).f1, (rd_T134 y654 x5_1).f2, (rd_T134 y654 x5_1).f3, (⟨wrap64 ((wrap64 ((wrap64 ((wrap64 (x1_1 + 1)) + 1)) + 1)) + 1), (rd_T134 y654 x5_1).f4.f1⟩ : S29)⟩ : S134) : List (S134))).bind fun y655 => (laws_markLiveS.l0 k1 (y655.set (x5_1 : Int).toNat (⟨(rd_T134 y655 x5_1).f0, (rd_T134 y655 x5_1).f1, (rd_T134 y655 x5_1).f2, (rd_T134 y655 x5_1).f3, (⟨(rd_T134 y655 x5_1).f4.f0, wrap64 ((wrap64 ((wrap64 ((wrap64 ((wrap64 (x1_1 + 1)) + 1)) + 1)) + 1)) + 1)⟩ : S29)⟩ : S134)) (wrap64 ((wrap64 ((wrap64 ((wrap64 ((wrap64 ((wrap64 (x1_1 + 1)) + 1)) + 1)) + 1)) + 1)) + 1)) (wrap64 (x5_1 + 1))))))) = some (r1, r2) := by first | (rw [hy651]; with_reducible exact H) | (have H2_ := (Option.bind_some _ _).symm.trans H; rw [hy651]; with_reducible exact H2_) | (have H2_ := (Option.bind_some _ _).symm.trans H; with_reducible exact H2_) | with_reducible exact H | (rw [hy651]; exact H) | exact H
     have Ny651 := Aside0.mk hy651
     clear hy651
     replace H := Option.bind_eq_some_iff.mp H
     obtain ⟨t652, A80, H⟩ := H
     (try dsimp only at H)
     have A8 := Aside0.mk A80
     clear A80
     obtain ⟨y653, hy653⟩ : ∃ y_ : List (S134), y_ = (y651.set (x5_1 : Int).toNat (⟨(rd_T134 y651 x5_1).f0, (rd_T134 y651 x5_1).f1, t652, (rd_T134 y651 x5_1).f3, (⟨(rd_T134 y651 x5_1).f4.f0, (rd_T134 y651 x5_1).f4.f1⟩ : S29)⟩ : S134)) := ⟨_, rfl⟩
     replace H : ((some (y653.set (x5_1 : Int).toNat (⟨(rd_T134 y653 x5_1).f0, (rd_T134 y653 x5_1).f1, (rd_T134 y653 x5_1).f2, wrap64 ((wrap64 ((wrap64 (x1_1 + 1)) + 1)) + 1), (⟨(rd_T134 y653 x5_1).f4.f0, (rd_T134 y653 x5_1).f4.f1⟩ : S29)⟩ : S134) : List (S134))).bind fun y654 => ((some (y654.set (x5_1 : Int).toNat (⟨(rd_T134 y654 x5_1).f0, (rd_T134 y654 x5_1).f1, (rd_T134 y654 x5_1).f2, (rd_T134 y654 x5_1).f3, (⟨wrap64 ((wrap64 ((wrap64 ((wrap64 (x1_1 + 1)) + 1)) + 1)) + 1), (rd_T134 y654 x5_1).f4.f1⟩ : S29)⟩ : S134) : List (S134))).bind fun y655 => (laws_markLiveS.l0 k1 (y655.set (x5_1 : Int).toNat (⟨(rd_T134 y655 x5_1).f0, (rd_T134 y655 x5_1).f1, (rd_T134 y655 x5_1).f2, (rd_T134 y655 x5_1).f3, (⟨(rd_T134 y655 x5_1).f4.f0, wrap64 ((wrap64 ((wrap64 ((wrap64 ((wrap64 (x1_1 + 1)) + 1)) + 1)) + 1)) + 1)⟩ : S29)⟩ : S134)) (wrap64 ((wrap64 ((wrap64 ((wrap64 ((wrap64 ((wrap64 (x1_1 + 1)) + 1)) + 1)) + 1)) + 1)) + 1)) (wrap64 (x5_1 + 1))))) = some (r1, r2) := by first | (rw [hy653]; with_reducible exact H) | (have H2_ := (Option.bind_some _ _).symm.trans H; rw [hy653]; with_reducible exact H2_) | (have H2_ := (Option.bind_some _ _).symm.trans H; with_reducible exact H2_) | with_reducible exact H | (rw [hy653]; exact H) | exact H
     have Ny653 := Aside0.mk hy653
     clear hy653
     obtain ⟨y654, hy654⟩ : ∃ y_ : List (S134), y_ = (y653.set (x5_1 : Int).toNat (⟨(rd_T134 y653 x5_1).f0, (rd_T134 y653 x5_1).f1, (rd_T134 y653 x5_1).f2, wrap64 ((wrap64 ((wrap64 (x1_1 + 1)) + 1)) + 1), (⟨(rd_T134 y653 x5_1).f4.f0, (rd_T134 y653 x5_1).f4.f1⟩ : S29)⟩ : S134)) := ⟨_, rfl⟩
     replace H : ((some (y654.set (x5_1 : Int).toNat (⟨(rd_T134 y654 x5_1).f0, (rd_T134 y654 x5_1).f1, (rd_T134 y654 x5_1).f2, (rd_T134 y654 x5_1).f3, (⟨wrap64 ((wrap64 ((wrap64 ((wrap64 (x1_1 + 1)) + 1)) + 1)) + 1), (rd_T134 y654 x5_1).f4.f1⟩ : S29)⟩ : S134) : List (S134))).bind fun y655 => (laws_markLiveS.l0 k1 (y655.set (x5_1 : Int).toNat (⟨(rd_T134 y655 x5_1).f0, (rd_T134 y655 x5_1).f1, (rd_T134 y655 x5_1).f2, (rd_T134 y655 x5_1).f3, (⟨(rd_T134 y655 x5_1).f4.f0, wrap64 ((wrap64 ((wrap64 ((wrap64 ((wrap64 (x1_1 + 1)) + 1)) + 1)) + 1)) + 1)⟩ : S29)⟩ : S134)) (wrap64 ((wrap64 ((wrap64 ((wrap64 ((wrap64 ((wrap64 (x1_1 + 1)) + 1)) + 1)) + 1)) + 1)) + 1)) (wrap64 (x5_1 + 1)))) = some (r1, r2) := by first | (rw [hy654]; with_reducible exact H) | (have H2_ := (Option.bind_some _ _).symm.trans H; rw [hy654]; with_reducible exact H2_) | (have H2_ := (Option.bind_some _ _).symm.trans H; with_reducible exact H2_) | with_reducible exact H | (rw [hy654]; exact H) | exact H
     have Ny654 := Aside0.mk hy654
     clear hy654
     obtain ⟨y655, hy655⟩ : ∃ y_ : List (S134), y_ = (y654.set (x5_1 : Int).toNat (⟨(rd_T134 y654 x5_1).f0, (rd_T134 y654 x5_1).f1, (rd_T134 y654 x5_1).f2, (rd_T134 y654 x5_1).f3, (⟨wrap64 ((wrap64 ((wrap64 ((wrap64 (x1_1 + 1)) + 1)) + 1)) + 1), (rd_T134 y654 x5_1).f4.f1⟩ : S29)⟩ : S134)) := ⟨_, rfl⟩
     replace H : (laws_markLiveS.l0 k1 (y655.set (x5_1 : Int).toNat (⟨(rd_T134 y655 x5_1).f0, (rd_T134 y655 x5_1).f1, (rd_T134 y655 x5_1).f2, (rd_T134 y655 x5_1).f3, (⟨(rd_T134 y655 x5_1).f4.f0, wrap64 ((wrap64 ((wrap64 ((wrap64 ((wrap64 (x1_1 + 1)) + 1)) + 1)) + 1)) + 1)⟩ : S29)⟩ : S134)) (wrap64 ((wrap64 ((wrap64 ((wrap64 ((wrap64 ((wrap64 (x1_1 + 1)) + 1)) + 1)) + 1)) + 1)) + 1)) (wrap64 (x5_1 + 1))) = some (r1, r2) := by first | (rw [hy655]; with_reducible exact H) | (have H2_ := (Option.bind_some _ _).symm.trans H; rw [hy655]; with_reducible exact H2_) | (have H2_ := (Option.bind_some _ _).symm.trans H; with_reducible exact H2_) | with_reducible exact H | (rw [hy655]; exact H) | exact H
     have Ny655 := Aside0.mk hy655
     clear hy655
     obtain ⟨y656, hy656⟩ : ∃ y_ : List (S134), y_ = (y655.set (x5_1 : Int).toNat (⟨(rd_T134 y655 x5_1).f0, (rd_T134 y655 x5_1).f1, (rd_T134 y655 x5_1).f2, (rd_T134 y655 x5_1).f3, (⟨(rd_T134 y655 x5_1).f4.f0, wrap64 ((wrap64 ((wrap64 ((wrap64 ((wrap64 (x1_1 + 1)) + 1)) + 1)) + 1)) + 1)⟩ : S29)⟩ : S134)) := ⟨_, rfl⟩
     replace H : (laws_markLiveS.l0 k1 y656 (wrap64 ((wrap64 ((wrap64 ((wrap64 ((wrap64 ((wrap64 (x1_1 + 1)) + 1)) + 1)) + 1)) + 1)) + 1)) (wrap64 (x5_1 + 1))) = some (r1, r2) := by first | (rw [hy656]; with_reducible exact H) | (have H2_ := (Option.bind_some _ _).symm.trans H; rw [hy656]; with_reducible exact H2_) | (have H2_ := (Option.bind_some _ _).symm.trans H; with_reducible exact H2_) | with_reducible exact H | (rw [hy656]; exact H) | exact H
     have Ny656 := Aside0.mk hy656
     clear hy656
     have H' := Aside0.mk H
     clear H
     obtain ⟨Ao13, co13, eo13⟩ := Kd.R_slice HO_0.out
     subst eo13
     have p5 : 0 ≤ (x5_1 : Int) := of_decide_eq_true z22_0
     have q5 : (x5_1 : Int) < ((x0_1.length : Int) : Int) := of_decide_eq_true z22_0
     obtain ⟨go5, co5, eo5, gb5, gl5, cl5, HG5⟩ := Kd.R_form HO_0.out (by omega)
     (first | cases eo5 | (injection eo5 with ea_ en_ ec_; (first | subst ea_ | (injection ea_ with ea_; subst ea_)); subst ec_; clear en_))
     have GB5 := Aside0.mk gb5
     have GG5 := Aside0.mk HG5
     clear gb5 gl5 HG5
     have HMgo5 := Aside0.mk (show (P0_ go5 ∨ w.heap.size ≤ go5) from (HO_0.out.1 _ rfl))
     obtain ⟨ce5, hcl5, hM5, hcc5, hfr5⟩ := Kd.R_elem HO_0.out z134 (x5_1 : Int) p5 q5
     obtain rfl := k134_openM hM5
     have hx5_0 : wr.cell? ⟨go5, (x5_1 : Int).toNat * 6, none⟩ = some (.bool ((rd_T134 x0_1 x5_1).f0)) := hcc5 0 _ rfl
     have hx5_1 : wr.cell? ⟨go5, (x5_1 : Int).toNat * 6 + 1, none⟩ = some (.string ((rd_T134 x0_1 x5_1).f1)) := hcc5 1 _ rfl
     have hx5_2 : wr.cell? ⟨go5, (x5_1 : Int).toNat * 6 + 2, none⟩ = some (.string ((rd_T134 x0_1 x5_1).f2)) := hcc5 2 _ rfl
     have hx5_3 : wr.cell? ⟨go5, (x5_1 : Int).toNat * 6 + 3, none⟩ = some (.int .i64 ((rd_T134 x0_1 x5_1).f3)) := hcc5 3 _ rfl
     have hx5_4 : wr.cell? ⟨go5, (x5_1 : Int).toNat * 6 + 4, none⟩ = some (.int .i64 ((rd_T134 x0_1 x5_1).f4.f0)) := hcc5 4 _ rfl
     have hx5_5 : wr.cell? ⟨go5, (x5_1 : Int).toNat * 6 + 5, none⟩ = some (.int .i64 ((rd_T134 x0_1 x5_1).f4.f1)) := hcc5 5 _ rfl
     have hf5_0 : wr.frozen? ⟨go5, (x5_1 : Int).toNat * 6, none⟩ = false := hfr5 0
     have hf5_1 : wr.frozen? ⟨go5, (x5_1 : Int).toNat * 6 + 1, none⟩ = false := hfr5 1
     have hf5_2 : wr.frozen? ⟨go5, (x5_1 : Int).toNat * 6 + 2, none⟩ = false := hfr5 2
     have hf5_3 : wr.frozen? ⟨go5, (x5_1 : Int).toNat * 6 + 3, none⟩ = false := hfr5 3
     have hf5_4 : wr.frozen? ⟨go5, (x5_1 : Int).toNat * 6 + 4, none⟩ = false := hfr5 4
     have hf5_5 : wr.frozen? ⟨go5, (x5_1 : Int).toNat * 6 + 5, none⟩ = false := hfr5 5
     clear hcl5 hcc5 hfr5 hM5
     replace p5 := eq_true p5
     replace q5 := eq_true q5
     have HX14 := Aside0.mk (show Kd.R k134 134 wr w0.heap.size (fun k_ => (P0_ k_ ∨ w.heap.size ≤ k_)) (.slice (some ⟨go5, 0, none⟩) x0_1.length co13) x0_1 from z22_13)
     obtain ⟨ce14, hcl14, hM14, hcc14, hfr14⟩ := Kd.R_elem HX14.out z134 (x5_1 : Int) (of_decide_eq_true z22_0) (by have h_ : (x5_1 : Int) < ((x0_1.length : Int) : Int) := of_decide_eq_true z22_0; first | exact h_ | (have e_ := (Kd.R_reads' HO_0.out).1; omega) | simpa using h_)
     obtain rfl := k134_openM hM14
     have HP14 := Kd.R_seg HX14.out (x5_1 : Int) (of_decide_eq_true z22_0) (by have h_ : (x5_1 : Int) < ((x0_1.length : Int) : Int) := of_decide_eq_true z22_0; first | exact h_ | (have e_ := (Kd.R_reads' HO_0.out).1; omega) | simpa using h_) (seg := [.bool ((Int.tmod x1_1 3) == 0)]) (j := 0) hcl14 hcc14 (show 1 ≤ 6 from by decide) (x' := (⟨((Int.tmod x1_1 3) == 0), (rd_T134 x0_1 x5_1).f1, (rd_T134 x0_1 x5_1).f2, (rd_T134 x0_1 x5_1).f3, (⟨(rd_T134 x0_1 x5_1).f4.f0, (rd_T134 x0_1 x5_1).f4.f1⟩ : S29)⟩ : S134)) (k134_mkM _ _ _ (⟨((Int.tmod x1_1 3) == 0), (rd_T134 x0_1 x5_1).f1, (rd_T134 x0_1 x5_1).f2, (rd_T134 x0_1 x5_1).f3, (⟨(rd_T134 x0_1 x5_1).f4.f0, (rd_T134 x0_1 x5_1).f4.f1⟩ : S29)⟩ : S134) ) (fun _ hk => hk)
     have hx14_0 := hcc14 0 _ rfl
     (try simp only [show (k134).sz = 6 from rfl, Nat.mul_one, Nat.add_zero] at hx14_0)
     have hf14_0 := hfr14 0
     (try simp only [show (k134).sz = 6 from rfl, Nat.mul_one, Nat.add_zero] at hf14_0)
     clear hcl14 hcc14 hfr14 hM14
     go_wp2_with (first | ((with_reducible refine gate_store (t := 4) (p := 18) rfl ?_); refine store_event (t := 4) (p := 18) (v := ?vo_w15) (w1 := (wr.setCell ⟨go5, (x5_1 : Int).toNat * 6, none⟩ (.bool ((Int.tmod x1_1 3) == 0)))) ?hg ?ho ?hn ?hr ?_; (case ho => rfl); (case hg => rfl); (case hn => rfl); (case hr => first | (go_simp; done) | (go_simp; rfl)); intro w15 hw; have hg : wr.grownBy w15 (some go5) := (by rw [hw]; exact HP14.2); have hp_ : Kd.R k134 134 w15 w0.heap.size (fun k_ => (P0_ k_ ∨ w.heap.size ≤ k_)) (.slice (some ⟨go5, 0, none⟩) x0_1.length co13) y649 := (by rw [hw, Ny649.out]; exact HP14.1); clear HP14; have n0_ := Aside0.mk (hp_); have n1_ := Aside0.mk ((by rw [hw]; exact below_set (HB.out) GB5.out : Below w0.heap.size w0 w15)); have n2_ := Aside0.mk (Kept.of_grown (S := (fun k_ => P0_ k_)) hg z22_6 (fun k_ e_ => (HO_0.out.1 k_ e_))); clear HO_0; clear HB; clear HK; have HO_0 := n0_; have HB := n1_; have HK := n2_; clear n0_ n1_ n2_; clear hg hw hp_) | ((with_reducible refine gate_callee (f := 119) rfl ?_); refine goesL_ (some 24) rfl rfl Try.func119 (by kernel_rfl) rfl #[.int .i64 (wrap64 (x1_1 + 1))] rfl z22_20 ?_; (with_reducible refine (laws_markText.calls k1 (wrap64 (x1_1 + 1)) t650 _ A6.out).mono ?_); rintro e w16 ⟨rfl, hb⟩; refine ⟨_, rfl, ?_⟩; have n0_ := Aside0.mk (Kd.R_below z22_13 hb); have n1_ := Aside0.mk (Kept.below (S := (fun k_ => P0_ k_)) z22_6 hb); have n2_ := Aside0.mk (below_step z22_3 hb); clear HO_0; clear HK; clear HB; have HO_0 := n0_; have HK := n1_; have HB := n2_; clear n0_ n1_ n2_; have p7 : 0 ≤ (x5_1 : Int) := of_decide_eq_true z22_0; have q7 : (x5_1 : Int) < ((x0_1.length : Int) : Int) := of_decide_eq_true z22_0; obtain ⟨ce7, hcl7, hM7, hcc7, hfr7⟩ := Kd.R_elem HO_0.out z134 (x5_1 : Int) p7 q7; obtain rfl := k134_openM hM7; have hx7_0 : w16.cell? ⟨go5, (x5_1 : Int).toNat * 6, none⟩ = some (.bool ((rd_T134 y649 x5_1).f0)) := hcc7 0 _ rfl; have hx7_1 : w16.cell? ⟨go5, (x5_1 : Int).toNat * 6 + 1, none⟩ = some (.string ((rd_T134 y649 x5_1).f1)) := hcc7 1 _ rfl; have hx7_2 : w16.cell? ⟨go5, (x5_1 : Int).toNat * 6 + 2, none⟩ = some (.string ((rd_T134 y649 x5_1).f2)) := hcc7 2 _ rfl; have hx7_3 : w16.cell? ⟨go5, (x5_1 : Int).toNat * 6 + 3, none⟩ = some (.int .i64 ((rd_T134 y649 x5_1).f3)) := hcc7 3 _ rfl; have hx7_4 : w16.cell? ⟨go5, (x5_1 : Int).toNat * 6 + 4, none⟩ = some (.int .i64 ((rd_T134 y649 x5_1).f4.f0)) := hcc7 4 _ rfl; have hx7_5 : w16.cell? ⟨go5, (x5_1 : Int).toNat * 6 + 5, none⟩ = some (.int .i64 ((rd_T134 y649 x5_1).f4.f1)) := hcc7 5 _ rfl; have hf7_0 : w16.frozen? ⟨go5, (x5_1 : Int).toNat * 6, none⟩ = false := hfr7 0; have hf7_1 : w16.frozen? ⟨go5, (x5_1 : Int).toNat * 6 + 1, none⟩ = false := hfr7 1; have hf7_2 : w16.frozen? ⟨go5, (x5_1 : Int).toNat * 6 + 2, none⟩ = false := hfr7 2; have hf7_3 : w16.frozen? ⟨go5, (x5_1 : Int).toNat * 6 + 3, none⟩ = false := hfr7 3; have hf7_4 : w16.frozen? ⟨go5, (x5_1 : Int).toNat * 6 + 4, none⟩ = false := hfr7 4; have hf7_5 : w16.frozen? ⟨go5, (x5_1 : Int).toNat * 6 + 5, none⟩ = false := hfr7 5; clear hcl7 hcc7 hfr7 hM7; replace p7 := eq_true p7; replace q7 := eq_true q7; have HX17 := Aside0.mk (show Kd.R k134 134 w16 w0.heap.size (fun k_ => (P0_ k_ ∨ w.heap.size ≤ k_)) (.slice (some ⟨go5, 0, none⟩) x0_1.length co13) y649 from z22_13); obtain ⟨ce17, hcl17, hM17, hcc17, hfr17⟩ := Kd.R_elem HX17.out z134 (x5_1 : Int) (of_decide_eq_true z22_0) (by have h_ : (x5_1 : Int) < ((x0_1.length : Int) : Int) := of_decide_eq_true z22_0; first | exact h_ | (have e_ := (Kd.R_reads' HO_0.out).1; omega) | simpa using h_); obtain rfl := k134_openM hM17; have HP17 := Kd.R_seg HX17.out (x5_1 : Int) (of_decide_eq_true z22_0) (by have h_ : (x5_1 : Int) < ((x0_1.length : Int) : Int) := of_decide_eq_true z22_0; first | exact h_ | (have e_ := (Kd.R_reads' HO_0.out).1; omega) | simpa using h_) (seg := [.string t650]) (j := 1) hcl17 hcc17 (show 2 ≤ 6 from by decide) (x' := (⟨(rd_T134 y649 x5_1).f0, t650, (rd_T134 y649 x5_1).f2, (rd_T134 y649 x5_1).f3, (⟨(rd_T134 y649 x5_1).f4.f0, (rd_T134 y649 x5_1).f4.f1⟩ : S29)⟩ : S134)) (k134_mkM _ _ _ (⟨(rd_T134 y649 x5_1).f0, t650, (rd_T134 y649 x5_1).f2, (rd_T134 y649 x5_1).f3, (⟨(rd_T134 y649 x5_1).f4.f0, (rd_T134 y649 x5_1).f4.f1⟩ : S29)⟩ : S134) ) (fun _ hk => hk); have hx17_1 := hcc17 1 _ rfl; (try simp only [show (k134).sz = 6 from rfl, Nat.mul_one, Nat.add_zero] at hx17_1); have hf17_1 := hfr17 1; (try simp only [show (k134).sz = 6 from rfl, Nat.mul_one, Nat.add_zero] at hf17_1); clear hcl17 hcc17 hfr17 hM17) | ((with_reducible refine gate_store (t := 9) (p := 26) rfl ?_); refine store_event (t := 9) (p := 26) (v := ?vo_w18) (w1 := (w16.setCell ⟨go5, (x5_1 : Int).toNat * 6 + 1, none⟩ (.string t650))) ?hg ?ho ?hn ?hr ?_; (case ho => rfl); (case hg => rfl); (case hn => rfl); (case hr => first | (go_simp; done) | (go_simp; rfl)); intro w18 hw; have hg : w16.grownBy w18 (some go5) := (by rw [hw]; exact HP17.2); have hp_ : Kd.R k134 134 w18 w0.heap.size (fun k_ => (P0_ k_ ∨ w.heap.size ≤ k_)) (.slice (some ⟨go5, 0, none⟩) x0_1.length co13) y651 := (by rw [hw, Ny651.out]; exact HP17.1); clear HP17; have n0_ := Aside0.mk (hp_); have n1_ := Aside0.mk ((by rw [hw]; exact below_set (HB.out) GB5.out : Below w0.heap.size w0 w18)); have n2_ := Aside0.mk (Kept.of_grown (S := (fun k_ => P0_ k_)) hg z22_6 (fun k_ e_ => (HO_0.out.1 k_ e_))); clear HO_0; clear HB; clear HK; have HO_0 := n0_; have HB := n1_; have HK := n2_; clear n0_ n1_ n2_; clear hg hw hp_) | ((with_reducible refine gate_callee (f := 119) rfl ?_); refine goesL_ (some 32) rfl rfl Try.func119 (by kernel_rfl) rfl #[.int .i64 (wrap64 ((wrap64 (x1_1 + 1)) + 1))] rfl z22_20 ?_; (with_reducible refine (laws_markText.calls k1 (wrap64 ((wrap64 (x1_1 + 1)) + 1)) t652 _ A8.out).mono ?_); rintro e w19 ⟨rfl, hb⟩; refine ⟨_, rfl, ?_⟩; have n0_ := Aside0.mk (Kd.R_below z22_13 hb); have n1_ := Aside0.mk (Kept.below (S := (fun k_ => P0_ k_)) z22_6 hb); have n2_ := Aside0.mk (below_step z22_3 hb); clear HO_0; clear HK; clear HB; have HO_0 := n0_; have HK := n1_; have HB := n2_; clear n0_ n1_ n2_; have p9 : 0 ≤ (x5_1 : Int) := of_decide_eq_true z22_0; have q9 : (x5_1 : Int) < ((x0_1.length : Int) : Int) := of_decide_eq_true z22_0; obtain ⟨ce9, hcl9, hM9, hcc9, hfr9⟩ := Kd.R_elem HO_0.out z134 (x5_1 : Int) p9 q9; obtain rfl := k134_openM hM9; have hx9_0 : w19.cell? ⟨go5, (x5_1 : Int).toNat * 6, none⟩ = some (.bool ((rd_T134 y651 x5_1).f0)) := hcc9 0 _ rfl; have hx9_1 : w19.cell? ⟨go5, (x5_1 : Int).toNat * 6 + 1, none⟩ = some (.string ((rd_T134 y651 x5_1).f1)) := hcc9 1 _ rfl; have hx9_2 : w19.cell? ⟨go5, (x5_1 : Int).toNat * 6 + 2, none⟩ = some (.string ((rd_T134 y651 x5_1).f2)) := hcc9 2 _ rfl; have hx9_3 : w19.cell? ⟨go5, (x5_1 : Int).toNat * 6 + 3, none⟩ = some (.int .i64 ((rd_T134 y651 x5_1).f3)) := hcc9 3 _ rfl; have hx9_4 : w19.cell? ⟨go5, (x5_1 : Int).toNat * 6 + 4, none⟩ = some (.int .i64 ((rd_T134 y651 x5_1).f4.f0)) := hcc9 4 _ rfl; have hx9_5 : w19.cell? ⟨go5, (x5_1 : Int).toNat * 6 + 5, none⟩ = some (.int .i64 ((rd_T134 y651 x5_1).f4.f1)) := hcc9 5 _ rfl; have hf9_0 : w19.frozen? ⟨go5, (x5_1 : Int).toNat * 6, none⟩ = false := hfr9 0; have hf9_1 : w19.frozen? ⟨go5, (x5_1 : Int).toNat * 6 + 1, none⟩ = false := hfr9 1; have hf9_2 : w19.frozen? ⟨go5, (x5_1 : Int).toNat * 6 + 2, none⟩ = false := hfr9 2; have hf9_3 : w19.frozen? ⟨go5, (x5_1 : Int).toNat * 6 + 3, none⟩ = false := hfr9 3; have hf9_4 : w19.frozen? ⟨go5, (x5_1 : Int).toNat * 6 + 4, none⟩ = false := hfr9 4; have hf9_5 : w19.frozen? ⟨go5, (x5_1 : Int).toNat * 6 + 5, none⟩ = false := hfr9 5; clear hcl9 hcc9 hfr9 hM9; replace p9 := eq_true p9; replace q9 := eq_true q9; have HX20 := Aside0.mk (show Kd.R k134 134 w19 w0.heap.size (fun k_ => (P0_ k_ ∨ w.heap.size ≤ k_)) (.slice (some ⟨go5, 0, none⟩) x0_1.length co13) y651 from z22_13); obtain ⟨ce20, hcl20, hM20, hcc20, hfr20⟩ := Kd.R_elem HX20.out z134 (x5_1 : Int) (of_decide_eq_true z22_0) (by have h_ : (x5_1 : Int) < ((x0_1.length : Int) : Int) := of_decide_eq_true z22_0; first | exact h_ | (have e_ := (Kd.R_reads' HO_0.out).1; omega) | simpa using h_); obtain rfl := k134_openM hM20; have HP20 := Kd.R_seg HX20.out (x5_1 : Int) (of_decide_eq_true z22_0) (by have h_ : (x5_1 : Int) < ((x0_1.length : Int) : Int) := of_decide_eq_true z22_0; first | exact h_ | (have e_ := (Kd.R_reads' HO_0.out).1; omega) | simpa using h_) (seg := [.string t652]) (j := 2) hcl20 hcc20 (show 3 ≤ 6 from by decide) (x' := (⟨(rd_T134 y651 x5_1).f0, (rd_T134 y651 x5_1).f1, t652, (rd_T134 y651 x5_1).f3, (⟨(rd_T134 y651 x5_1).f4.f0, (rd_T134 y651 x5_1).f4.f1⟩ : S29)⟩ : S134)) (k134_mkM _ _ _ (⟨(rd_T134 y651 x5_1).f0, (rd_T134 y651 x5_1).f1, t652, (rd_T134 y651 x5_1).f3, (⟨(rd_T134 y651 x5_1).f4.f0, (rd_T134 y651 x5_1).f4.f1⟩ : S29)⟩ : S134) ) (fun _ hk => hk); have hx20_2 := hcc20 2 _ rfl; (try simp only [show (k134).sz = 6 from rfl, Nat.mul_one, Nat.add_zero] at hx20_2); have hf20_2 := hfr20 2; (try simp only [show (k134).sz = 6 from rfl, Nat.mul_one, Nat.add_zero] at hf20_2); clear hcl20 hcc20 hfr20 hM20) | ((with_reducible refine gate_store (t := 9) (p := 34) rfl ?_); refine store_event (t := 9) (p := 34) (v := ?vo_w21) (w1 := (w19.setCell ⟨go5, (x5_1 : Int).toNat * 6 + 2, none⟩ (.string t652))) ?hg ?ho ?hn ?hr ?_; (case ho => rfl); (case hg => rfl); (case hn => rfl); (case hr => first | (go_simp; done) | (go_simp; rfl)); intro w21 hw; have hg : w19.grownBy w21 (some go5) := (by rw [hw]; exact HP20.2); have hp_ : Kd.R k134 134 w21 w0.heap.size (fun k_ => (P0_ k_ ∨ w.heap.size ≤ k_)) (.slice (some ⟨go5, 0, none⟩) x0_1.length co13) y653 := (by rw [hw, Ny653.out]; exact HP20.1); clear HP20; have n0_ := Aside0.mk (hp_); have n1_ := Aside0.mk ((by rw [hw]; exact below_set (HB.out) GB5.out : Below w0.heap.size w0 w21)); have n2_ := Aside0.mk (Kept.of_grown (S := (fun k_ => P0_ k_)) hg z22_6 (fun k_ e_ => (HO_0.out.1 k_ e_))); clear HO_0; clear HB; clear HK; have HO_0 := n0_; have HB := n1_; have HK := n2_; clear n0_ n1_ n2_; clear hg hw hp_; have p10 : 0 ≤ (x5_1 : Int) := of_decide_eq_true z22_0; have q10 : (x5_1 : Int) < ((x0_1.length : Int) : Int) := of_decide_eq_true z22_0; obtain ⟨ce10, hcl10, hM10, hcc10, hfr10⟩ := Kd.R_elem HO_0.out z134 (x5_1 : Int) p10 q10; obtain rfl := k134_openM hM10; have hx10_0 : w21.cell? ⟨go5, (x5_1 : Int).toNat * 6, none⟩ = some (.bool ((rd_T134 y653 x5_1).f0)) := hcc10 0 _ rfl; have hx10_1 : w21.cell? ⟨go5, (x5_1 : Int).toNat * 6 + 1, none⟩ = some (.string ((rd_T134 y653 x5_1).f1)) := hcc10 1 _ rfl; have hx10_2 : w21.cell? ⟨go5, (x5_1 : Int).toNat * 6 + 2, none⟩ = some (.string ((rd_T134 y653 x5_1).f2)) := hcc10 2 _ rfl; have hx10_3 : w21.cell? ⟨go5, (x5_1 : Int).toNat * 6 + 3, none⟩ = some (.int .i64 ((rd_T134 y653 x5_1).f3)) := hcc10 3 _ rfl; have hx10_4 : w21.cell? ⟨go5, (x5_1 : Int).toNat * 6 + 4, none⟩ = some (.int .i64 ((rd_T134 y653 x5_1).f4.f0)) := hcc10 4 _ rfl; have hx10_5 : w21.cell? ⟨go5, (x5_1 : Int).toNat * 6 + 5, none⟩ = some (.int .i64 ((rd_T134 y653 x5_1).f4.f1)) := hcc10 5 _ rfl; have hf10_0 : w21.frozen? ⟨go5, (x5_1 : Int).toNat * 6, none⟩ = false := hfr10 0; have hf10_1 : w21.frozen? ⟨go5, (x5_1 : Int).toNat * 6 + 1, none⟩ = false := hfr10 1; have hf10_2 : w21.frozen? ⟨go5, (x5_1 : Int).toNat * 6 + 2, none⟩ = false := hfr10 2; have hf10_3 : w21.frozen? ⟨go5, (x5_1 : Int).toNat * 6 + 3, none⟩ = false := hfr10 3; have hf10_4 : w21.frozen? ⟨go5, (x5_1 : Int).toNat * 6 + 4, none⟩ = false := hfr10 4; have hf10_5 : w21.frozen? ⟨go5, (x5_1 : Int).toNat * 6 + 5, none⟩ = false := hfr10 5; clear hcl10 hcc10 hfr10 hM10; replace p10 := eq_true p10; replace q10 := eq_true q10; have HX22 := Aside0.mk (show Kd.R k134 134 w21 w0.heap.size (fun k_ => (P0_ k_ ∨ w.heap.size ≤ k_)) (.slice (some ⟨go5, 0, none⟩) x0_1.length co13) y653 from z22_13); obtain ⟨ce22, hcl22, hM22, hcc22, hfr22⟩ := Kd.R_elem HX22.out z134 (x5_1 : Int) (of_decide_eq_true z22_0) (by have h_ : (x5_1 : Int) < ((x0_1.length : Int) : Int) := of_decide_eq_true z22_0; first | exact h_ | (have e_ := (Kd.R_reads' HO_0.out).1; omega) | simpa using h_); obtain rfl := k134_openM hM22; have HP22 := Kd.R_seg HX22.out (x5_1 : Int) (of_decide_eq_true z22_0) (by have h_ : (x5_1 : Int) < ((x0_1.length : Int) : Int) := of_decide_eq_true z22_0; first | exact h_ | (have e_ := (Kd.R_reads' HO_0.out).1; omega) | simpa using h_) (seg := [.int .i64 (wrap64 ((wrap64 ((wrap64 (x1_1 + 1)) + 1)) + 1))]) (j := 3) hcl22 hcc22 (show 4 ≤ 6 from by decide) (x' := (⟨(rd_T134 y653 x5_1).f0, (rd_T134 y653 x5_1).f1, (rd_T134 y653 x5_1).f2, wrap64 ((wrap64 ((wrap64 (x1_1 + 1)) + 1)) + 1), (⟨(rd_T134 y653 x5_1).f4.f0, (rd_T134 y653 x5_1).f4.f1⟩ : S29)⟩ : S134)) (k134_mkM _ _ _ (⟨(rd_T134 y653 x5_1).f0, (rd_T134 y653 x5_1).f1, (rd_T134 y653 x5_1).f2, wrap64 ((wrap64 ((wrap64 (x1_1 + 1)) + 1)) + 1), (⟨(rd_T134 y653 x5_1).f4.f0, (rd_T134 y653 x5_1).f4.f1⟩ : S29)⟩ : S134) ) (fun _ hk => hk); have hx22_3 := hcc22 3 _ rfl; (try simp only [show (k134).sz = 6 from rfl, Nat.mul_one, Nat.add_zero] at hx22_3); have hf22_3 := hfr22 3; (try simp only [show (k134).sz = 6 from rfl, Nat.mul_one, Nat.add_zero] at hf22_3); clear hcl22 hcc22 hfr22 hM22) | ((with_reducible refine gate_store (t := 3) (p := 41) rfl ?_); refine store_event (t := 3) (p := 41) (v := ?vo_w23) (w1 := (w21.setCell ⟨go5, (x5_1 : Int).toNat * 6 + 3, none⟩ (.int .i64 (wrap64 ((wrap64 ((wrap64 (x1_1 + 1)) + 1)) + 1))))) ?hg ?ho ?hn ?hr ?_; (case ho => rfl); (case hg => rfl); (case hn => rfl); (case hr => first | (go_simp; done) | (go_simp; rfl)); intro w23 hw; have hg : w21.grownBy w23 (some go5) := (by rw [hw]; exact HP22.2); have hp_ : Kd.R k134 134 w23 w0.heap.size (fun k_ => (P0_ k_ ∨ w.heap.size ≤ k_)) (.slice (some ⟨go5, 0, none⟩) x0_1.length co13) y654 := (by rw [hw, Ny654.out]; exact HP22.1); clear HP22; have n0_ := Aside0.mk (hp_); have n1_ := Aside0.mk ((by rw [hw]; exact below_set (HB.out) GB5.out : Below w0.heap.size w0 w23)); have n2_ := Aside0.mk (Kept.of_grown (S := (fun k_ => P0_ k_)) hg z22_6 (fun k_ e_ => (HO_0.out.1 k_ e_))); clear HO_0; clear HB; clear HK; have HO_0 := n0_; have HB := n1_; have HK := n2_; clear n0_ n1_ n2_; clear hg hw hp_; have p11 : 0 ≤ (x5_1 : Int) := of_decide_eq_true z22_0; have q11 : (x5_1 : Int) < ((x0_1.length : Int) : Int) := of_decide_eq_true z22_0; obtain ⟨ce11, hcl11, hM11, hcc11, hfr11⟩ := Kd.R_elem HO_0.out z134 (x5_1 : Int) p11 q11; obtain rfl := k134_openM hM11; have hx11_0 : w23.cell? ⟨go5, (x5_1 : Int).toNat * 6, none⟩ = some (.bool ((rd_T134 y654 x5_1).f0)) := hcc11 0 _ rfl; have hx11_1 : w23.cell? ⟨go5, (x5_1 : Int).toNat * 6 + 1, none⟩ = some (.string ((rd_T134 y654 x5_1).f1)) := hcc11 1 _ rfl; have hx11_2 : w23.cell? ⟨go5, (x5_1 : Int).toNat * 6 + 2, none⟩ = some (.string ((rd_T134 y654 x5_1).f2)) := hcc11 2 _ rfl; have hx11_3 : w23.cell? ⟨go5, (x5_1 : Int).toNat * 6 + 3, none⟩ = some (.int .i64 ((rd_T134 y654 x5_1).f3)) := hcc11 3 _ rfl; have hx11_4 : w23.cell? ⟨go5, (x5_1 : Int).toNat * 6 + 4, none⟩ = some (.int .i64 ((rd_T134 y654 x5_1).f4.f0)) := hcc11 4 _ rfl; have hx11_5 : w23.cell? ⟨go5, (x5_1 : Int).toNat * 6 + 5, none⟩ = some (.int .i64 ((rd_T134 y654 x5_1).f4.f1)) := hcc11 5 _ rfl; have hf11_0 : w23.frozen? ⟨go5, (x5_1 : Int).toNat * 6, none⟩ = false := hfr11 0; have hf11_1 : w23.frozen? ⟨go5, (x5_1 : Int).toNat * 6 + 1, none⟩ = false := hfr11 1; have hf11_2 : w23.frozen? ⟨go5, (x5_1 : Int).toNat * 6 + 2, none⟩ = false := hfr11 2; have hf11_3 : w23.frozen? ⟨go5, (x5_1 : Int).toNat * 6 + 3, none⟩ = false := hfr11 3; have hf11_4 : w23.frozen? ⟨go5, (x5_1 : Int).toNat * 6 + 4, none⟩ = false := hfr11 4; have hf11_5 : w23.frozen? ⟨go5, (x5_1 : Int).toNat * 6 + 5, none⟩ = false := hfr11 5; clear hcl11 hcc11 hfr11 hM11; replace p11 := eq_true p11; replace q11 := eq_true q11; have HX24 := Aside0.mk (show Kd.R k134 134 w23 w0.heap.size (fun k_ => (P0_ k_ ∨ w.heap.size ≤ k_)) (.slice (some ⟨go5, 0, none⟩) x0_1.length co13) y654 from z22_13); obtain ⟨ce24, hcl24, hM24, hcc24, hfr24⟩ := Kd.R_elem HX24.out z134 (x5_1 : Int) (of_decide_eq_true z22_0) (by have h_ : (x5_1 : Int) < ((x0_1.length : Int) : Int) := of_decide_eq_true z22_0; first | exact h_ | (have e_ := (Kd.R_reads' HO_0.out).1; omega) | simpa using h_); obtain rfl := k134_openM hM24; have HP24 := Kd.R_seg HX24.out (x5_1 : Int) (of_decide_eq_true z22_0) (by have h_ : (x5_1 : Int) < ((x0_1.length : Int) : Int) := of_decide_eq_true z22_0; first | exact h_ | (have e_ := (Kd.R_reads' HO_0.out).1; omega) | simpa using h_) (seg := [.int .i64 (wrap64 ((wrap64 ((wrap64 ((wrap64 (x1_1 + 1)) + 1)) + 1)) + 1))]) (j := 4) hcl24 hcc24 (show 5 ≤ 6 from by decide) (x' := (⟨(rd_T134 y654 x5_1).f0, (rd_T134 y654 x5_1).f1, (rd_T134 y654 x5_1).f2, (rd_T134 y654 x5_1).f3, (⟨wrap64 ((wrap64 ((wrap64 ((wrap64 (x1_1 + 1)) + 1)) + 1)) + 1), (rd_T134 y654 x5_1).f4.f1⟩ : S29)⟩ : S134)) (k134_mkM _ _ _ (⟨(rd_T134 y654 x5_1).f0, (rd_T134 y654 x5_1).f1, (rd_T134 y654 x5_1).f2, (rd_T134 y654 x5_1).f3, (⟨wrap64 ((wrap64 ((wrap64 ((wrap64 (x1_1 + 1)) + 1)) + 1)) + 1), (rd_T134 y654 x5_1).f4.f1⟩ : S29)⟩ : S134) ) (fun _ hk => hk); have hx24_4 := hcc24 4 _ rfl; (try simp only [show (k134).sz = 6 from rfl, Nat.mul_one, Nat.add_zero] at hx24_4); have hf24_4 := hfr24 4; (try simp only [show (k134).sz = 6 from rfl, Nat.mul_one, Nat.add_zero] at hf24_4); clear hcl24 hcc24 hfr24 hM24) | ((with_reducible refine gate_store (t := 3) (p := 49) rfl ?_); refine store_event (t := 3) (p := 49) (v := ?vo_w25) (w1 := (w23.setCell ⟨go5, (x5_1 : Int).toNat * 6 + 4, none⟩ (.int .i64 (wrap64 ((wrap64 ((wrap64 ((wrap64 (x1_1 + 1)) + 1)) + 1)) + 1))))) ?hg ?ho ?hn ?hr ?_; (case ho => rfl); (case hg => rfl); (case hn => rfl); (case hr => first | (go_simp; done) | (go_simp; rfl)); intro w25 hw; have hg : w23.grownBy w25 (some go5) := (by rw [hw]; exact HP24.2); have hp_ : Kd.R k134 134 w25 w0.heap.size (fun k_ => (P0_ k_ ∨ w.heap.size ≤ k_)) (.slice (some ⟨go5, 0, none⟩) x0_1.length co13) y655 := (by rw [hw, Ny655.out]; exact HP24.1); clear HP24; have n0_ := Aside0.mk (hp_); have n1_ := Aside0.mk ((by rw [hw]; exact below_set (HB.out) GB5.out : Below w0.heap.size w0 w25)); have n2_ := Aside0.mk (Kept.of_grown (S := (fun k_ => P0_ k_)) hg z22_6 (fun k_ e_ => (HO_0.out.1 k_ e_))); clear HO_0; clear HB; clear HK; have HO_0 := n0_; have HB := n1_; have HK := n2_; clear n0_ n1_ n2_; clear hg hw hp_; have p12 : 0 ≤ (x5_1 : Int) := of_decide_eq_true z22_0; have q12 : (x5_1 : Int) < ((x0_1.length : Int) : Int) := of_decide_eq_true z22_0; obtain ⟨ce12, hcl12, hM12, hcc12, hfr12⟩ := Kd.R_elem HO_0.out z134 (x5_1 : Int) p12 q12; obtain rfl := k134_openM hM12; have hx12_0 : w25.cell? ⟨go5, (x5_1 : Int).toNat * 6, none⟩ = some (.bool ((rd_T134 y655 x5_1).f0)) := hcc12 0 _ rfl; have hx12_1 : w25.cell? ⟨go5, (x5_1 : Int).toNat * 6 + 1, none⟩ = some (.string ((rd_T134 y655 x5_1).f1)) := hcc12 1 _ rfl; have hx12_2 : w25.cell? ⟨go5, (x5_1 : Int).toNat * 6 + 2, none⟩ = some (.string ((rd_T134 y655 x5_1).f2)) := hcc12 2 _ rfl; have hx12_3 : w25.cell? ⟨go5, (x5_1 : Int).toNat * 6 + 3, none⟩ = some (.int .i64 ((rd_T134 y655 x5_1).f3)) := hcc12 3 _ rfl; have hx12_4 : w25.cell? ⟨go5, (x5_1 : Int).toNat * 6 + 4, none⟩ = some (.int .i64 ((rd_T134 y655 x5_1).f4.f0)) := hcc12 4 _ rfl; have hx12_5 : w25.cell? ⟨go5, (x5_1 : Int).toNat * 6 + 5, none⟩ = some (.int .i64 ((rd_T134 y655 x5_1).f4.f1)) := hcc12 5 _ rfl; have hf12_0 : w25.frozen? ⟨go5, (x5_1 : Int).toNat * 6, none⟩ = false := hfr12 0; have hf12_1 : w25.frozen? ⟨go5, (x5_1 : Int).toNat * 6 + 1, none⟩ = false := hfr12 1; have hf12_2 : w25.frozen? ⟨go5, (x5_1 : Int).toNat * 6 + 2, none⟩ = false := hfr12 2; have hf12_3 : w25.frozen? ⟨go5, (x5_1 : Int).toNat * 6 + 3, none⟩ = false := hfr12 3; have hf12_4 : w25.frozen? ⟨go5, (x5_1 : Int).toNat * 6 + 4, none⟩ = false := hfr12 4; have hf12_5 : w25.frozen? ⟨go5, (x5_1 : Int).toNat * 6 + 5, none⟩ = false := hfr12 5; clear hcl12 hcc12 hfr12 hM12; replace p12 := eq_true p12; replace q12 := eq_true q12; have HX26 := Aside0.mk (show Kd.R k134 134 w25 w0.heap.size (fun k_ => (P0_ k_ ∨ w.heap.size ≤ k_)) (.slice (some ⟨go5, 0, none⟩) x0_1.length co13) y655 from z22_13); obtain ⟨ce26, hcl26, hM26, hcc26, hfr26⟩ := Kd.R_elem HX26.out z134 (x5_1 : Int) (of_decide_eq_true z22_0) (by have h_ : (x5_1 : Int) < ((x0_1.length : Int) : Int) := of_decide_eq_true z22_0; first | exact h_ | (have e_ := (Kd.R_reads' HO_0.out).1; omega) | simpa using h_); obtain rfl := k134_openM hM26; have HP26 := Kd.R_seg HX26.out (x5_1 : Int) (of_decide_eq_true z22_0) (by have h_ : (x5_1 : Int) < ((x0_1.length : Int) : Int) := of_decide_eq_true z22_0; first | exact h_ | (have e_ := (Kd.R_reads' HO_0.out).1; omega) | simpa using h_) (seg := [.int .i64 (wrap64 ((wrap64 ((wrap64 ((wrap64 ((wrap64 (x1_1 + 1)) + 1)) + 1)) + 1)) + 1))]) (j := 5) hcl26 hcc26 (show 6 ≤ 6 from by decide) (x' := (⟨(rd_T134 y655 x5_1).f0, (rd_T134 y655 x5_1).f1, (rd_T134 y655 x5_1).f2, (rd_T134 y655 x5_1).f3, (⟨(rd_T134 y655 x5_1).f4.f0, wrap64 ((wrap64 ((wrap64 ((wrap64 ((wrap64 (x1_1 + 1)) + 1)) + 1)) + 1)) + 1)⟩ : S29)⟩ : S134)) (k134_mkM _ _ _ (⟨(rd_T134 y655 x5_1).f0, (rd_T134 y655 x5_1).f1, (rd_T134 y655 x5_1).f2, (rd_T134 y655 x5_1).f3, (⟨(rd_T134 y655 x5_1).f4.f0, wrap64 ((wrap64 ((wrap64 ((wrap64 ((wrap64 (x1_1 + 1)) + 1)) + 1)) + 1)) + 1)⟩ : S29)⟩ : S134) ) (fun _ hk => hk); have hx26_5 := hcc26 5 _ rfl; (try simp only [show (k134).sz = 6 from rfl, Nat.mul_one, Nat.add_zero] at hx26_5); have hf26_5 := hfr26 5; (try simp only [show (k134).sz = 6 from rfl, Nat.mul_one, Nat.add_zero] at hf26_5); clear hcl26 hcc26 hfr26 hM26) | ((with_reducible refine gate_store (t := 3) (p := 57) rfl ?_); refine store_event (t := 3) (p := 57) (v := ?vo_w27) (w1 := (w25.setCell ⟨go5, (x5_1 : Int).toNat * 6 + 5, none⟩ (.int .i64 (wrap64 ((wrap64 ((wrap64 ((wrap64 ((wrap64 (x1_1 + 1)) + 1)) + 1)) + 1)) + 1))))) ?hg ?ho ?hn ?hr ?_; (case ho => rfl); (case hg => rfl); (case hn => rfl); (case hr => first | (go_simp; done) | (go_simp; rfl)); intro w27 hw; have hg : w25.grownBy w27 (some go5) := (by rw [hw]; exact HP26.2); have hp_ : Kd.R k134 134 w27 w0.heap.size (fun k_ => (P0_ k_ ∨ w.heap.size ≤ k_)) (.slice (some ⟨go5, 0, none⟩) x0_1.length co13) y656 := (by rw [hw, Ny656.out]; exact HP26.1); clear HP26; have n0_ := Aside0.mk (hp_); have n1_ := Aside0.mk ((by rw [hw]; exact below_set (HB.out) GB5.out : Below w0.heap.size w0 w27)); have n2_ := Aside0.mk (Kept.of_grown (S := (fun k_ => P0_ k_)) hg z22_6 (fun k_ e_ => (HO_0.out.1 k_ e_))); clear HO_0; clear HB; clear HK; have HO_0 := n0_; have HB := n1_; have HK := n2_; clear n0_ n1_ n2_; clear hg hw hp_))
     go_roundg k1
     case measure => have := HK1.out; omega
     case rel => exact ⟨(y656), (wrap64 ((wrap64 ((wrap64 ((wrap64 ((wrap64 ((wrap64 (x1_1 + 1)) + 1)) + 1)) + 1)) + 1)) + 1)), (wrap64 (x5_1 + 1)), z22_16, z22_16, H', ⟨z22_19⟩, ⟨z22_13⟩, ⟨z22_6⟩, ⟨z22_3⟩⟩
    ·
     rw [if_neg c4] at H
     exact absurd H (by simp)
   ·
    rw [if_neg c3] at H
    have c3b0 : decide (x5_1 < (x0_1.length : Int)) = false := decide_eq_false c3
    clear c3
    simp only [Option.some.injEq, Prod.mk.injEq] at H
    obtain ⟨rfl, rfl⟩ := H
    obtain ⟨Ao28, co28, eo28⟩ := Kd.R_slice HO_0.out
    subst eo28
    go_wp2
    go_ret
    exact ⟨z22_18, z22_13, z22_3, z22_6⟩
def laws_markTallyS.l0 : Nat → List (S127) → Int → Int → Option (Int × (List (S127)))
  | 0, _, _, _ => none
  | k + 1, x0, x1, x5 => if x5 < (x0.length : Int) then ((laws_markText.f k x1).bind fun t657 => (if 0 ≤ x5 then ((some (x0.set (x5 : Int).toNat (⟨t657, (rd_T127 x0 x5).f1, (rd_T127 x0 x5).f2⟩ : S127) : List (S127))).bind fun y658 => ((some (y658.set (x5 : Int).toNat (⟨(rd_T127 y658 x5).f0, wrap64 (x1 + 1), (rd_T127 y658 x5).f2⟩ : S127) : List (S127))).bind fun y659 => (laws_markTallyS.l0 k (y659.set (x5 : Int).toNat (⟨(rd_T127 y659 x5).f0, (rd_T127 y659 x5).f1, wrap64 ((wrap64 (x1 + 1)) + 1)⟩ : S127)) (wrap64 ((wrap64 ((wrap64 (x1 + 1)) + 1)) + 1)) (wrap64 (x5 + 1))))) else (none))) else (some (x1, x0))
def laws_markTallyS.f (k : Nat) (l0 : List (S127)) (a1 : Int) : Option (Int × (List (S127))) := laws_markTallyS.l0 k l0 a1 0
set_option maxHeartbeats 8000000 in
set_option maxRecDepth 100000 in
theorem laws_markTallyS.calls (k : Nat) (P0_ : Nat → Prop) (u9000_ : Value) (l0 : List (S127)) (a1 : Int) (r1 : Int) (r2 : List (S127)) (w0 w : World) (hB : Below w0.heap.size w0 w) (ho0 : Kd.R k127 127 w w0.heap.size P0_ u9000_ l0) (h : laws_markTallyS.f k l0 a1 = some (r1, r2)) :
  Calls Try.prog 117 #[u9000_, .int .i64 a1] w fun e w' => e = .returned (.int .i64 r1) ∧ Kd.R k127 127 w' w0.heap.size (fun k_ => (P0_ k_ ∨ w.heap.size ≤ k_)) u9000_ r2 ∧ Below w0.heap.size w0 w' ∧ Kept w w' (fun k_ => P0_ k_) := by
 have HO0 := Aside0.mk (show Kd.R k127 127 w w0.heap.size (fun k_ => (P0_ k_ ∨ w.heap.size ≤ k_)) u9000_ l0 from Kd.R_mono ho0 (fun k_ hk => (.inl hk)))
 have HK := Aside0.mk (Kept.refl w (fun k_ => P0_ k_))
 have HW0 := Aside0.mk hB.size
 have HB := Aside0.mk hB
 clear hB
 have H : (laws_markTallyS.l0 k l0 a1 0) = some (r1, r2) := h
 clear h
 have H' := Aside0.mk H
 clear H
 go_enter Try.func117, Try.ntmps117
 go_wp2
 go_loopg [1, 5] k (fun kq v1 v5 w' => ∃ (x0_1 : List (S127)) (x1_1 : Int) (x5_1 : Int), v1 = .int .i64 x1_1 ∧ v5 = .int .i64 x5_1 ∧ Aside0 (laws_markTallyS.l0 kq x0_1 x1_1 x5_1 = some (r1, r2)) ∧ Aside0 (kq ≤ k) ∧ Aside0 (Kd.R k127 127 w' w0.heap.size (fun k_ => (P0_ k_ ∨ w.heap.size ≤ k_)) u9000_ x0_1) ∧ Aside0 (Kept w w' (fun k_ => P0_ k_)) ∧ Aside0 (Below w0.heap.size w0 w'))
 case atStart => exact ⟨(l0), (a1), (0), z22_16, z22_16, H', ⟨Nat.le_refl _⟩, ⟨by (with_reducible repeat (first | apply Kd.R_alloc | apply Kd.R_drewN | apply Kd.R_drew)); exact HO0.out⟩, ⟨z22_6⟩, ⟨z22_3⟩⟩
 case round =>
  clear H'
  try clear c1
  try clear p2
  obtain ⟨x0_1, x1_1, x5_1, rfl, rfl, HA, HK1, HO_0, HK, HB⟩ := hrel
  cases gk with
  | zero => exact absurd HA.out (by simp [laws_markTallyS.l0])
  | succ k1 =>
   have H := HA.out
   clear HA
   simp only [laws_markTallyS.l0] at H
   by_cases c3 : x5_1 < (x0_1.length : Int)
   ·
    rw [if_pos c3] at H
    have c3b0 : decide (x5_1 < (x0_1.length : Int)) = true := decide_eq_true c3
    clear c3
    replace H := Option.bind_eq_some_iff.mp H
    obtain ⟨t657, A40, H⟩ := H
    (try dsimp only at H)
    have A4 := Aside0.mk A40
    clear A40
    by_cases c5 : 0 ≤ x5_1
    ·
     rw [if_pos c5] at H
     have c5b0 : decide (0 ≤ x5_1) = true := decide_eq_true c5
     clear c5
     obtain ⟨y658, hy658⟩ : ∃ y_ : List (S127), y_ = (x0_1.set (x5_1 : Int).toNat (⟨t657, (rd_T127 x0_1 x5_1).f1, (rd_T127 x0_1 x5_1).f2⟩ : S127)) := ⟨_, rfl⟩
     replace H : ((some (y658.set (x5_1 : Int).toNat (⟨(rd_T127 y658 x5_1).f0, wrap64 (x1_1 + 1), (rd_T127 y658 x5_1).f2⟩ : S127) : List (S127))).bind fun y659 => (laws_markTallyS.l0 k1 (y659.set (x5_1 : Int).toNat (⟨(rd_T127 y659 x5_1).f0, (rd_T127 y659 x5_1).f1, wrap64 ((wrap64 (x1_1 + 1)) + 1)⟩ : S127)) (wrap64 ((wrap64 ((wrap64 (x1_1 + 1)) + 1)) + 1)) (wrap64 (x5_1 + 1)))) = some (r1, r2) := by first | (rw [hy658]; with_reducible exact H) | (have H2_ := (Option.bind_some _ _).symm.trans H; rw [hy658]; with_reducible exact H2_) | (have H2_ := (Option.bind_some _ _).symm.trans H; with_reducible exact H2_) | with_reducible exact H | (rw [hy658]; exact H) | exact H
     have Ny658 := Aside0.mk hy658
     clear hy658
     obtain ⟨y659, hy659⟩ : ∃ y_ : List (S127), y_ = (y658.set (x5_1 : Int).toNat (⟨(rd_T127 y658 x5_1).f0, wrap64 (x1_1 + 1), (rd_T127 y658 x5_1).f2⟩ : S127)) := ⟨_, rfl⟩
     replace H : (laws_markTallyS.l0 k1 (y659.set (x5_1 : Int).toNat (⟨(rd_T127 y659 x5_1).f0, (rd_T127 y659 x5_1).f1, wrap64 ((wrap64 (x1_1 + 1)) + 1)⟩ : S127)) (wrap64 ((wrap64 ((wrap64 (x1_1 + 1)) + 1)) + 1)) (wrap64 (x5_1 + 1))) = some (r1, r2) := by first | (rw [hy659]; with_reducible exact H) | (have H2_ := (Option.bind_some _ _).symm.trans H; rw [hy659]; with_reducible exact H2_) | (have H2_ := (Option.bind_some _ _).symm.trans H; with_reducible exact H2_) | with_reducible exact H | (rw [hy659]; exact H) | exact H
     have Ny659 := Aside0.mk hy659
     clear hy659
     obtain ⟨y660, hy660⟩ : ∃ y_ : List (S127), y_ = (y659.set (x5_1 : Int).toNat (⟨(rd_T127 y659 x5_1).f0, (rd_T127 y659 x5_1).f1, wrap64 ((wrap64 (x1_1 + 1)) + 1)⟩ : S127)) := ⟨_, rfl⟩
     replace H : (laws_markTallyS.l0 k1 y660 (wrap64 ((wrap64 ((wrap64 (x1_1 + 1)) + 1)) + 1)) (wrap64 (x5_1 + 1))) = some (r1, r2) := by first | (rw [hy660]; with_reducible exact H) | (have H2_ := (Option.bind_some _ _).symm.trans H; rw [hy660]; with_reducible exact H2_) | (have H2_ := (Option.bind_some _ _).symm.trans H; with_reducible exact H2_) | with_reducible exact H | (rw [hy660]; exact H) | exact H
     have Ny660 := Aside0.mk hy660
     clear hy660
     have H' := Aside0.mk H
     clear H
     obtain ⟨Ao9, co9, eo9⟩ := Kd.R_slice HO_0.out
     subst eo9
     go_wp2_with (first | ((with_reducible refine gate_callee (f := 119) rfl ?_); refine goesL_ (some 15) rfl rfl Try.func119 (by kernel_rfl) rfl #[.int .i64 x1_1] rfl z22_20 ?_; (with_reducible refine (laws_markText.calls k1 x1_1 t657 _ A4.out).mono ?_); rintro e w10 ⟨rfl, hb⟩; refine ⟨_, rfl, ?_⟩; have n0_ := Aside0.mk (Kd.R_below z22_13 hb); have n1_ := Aside0.mk (Kept.below (S := (fun k_ => P0_ k_)) z22_6 hb); have n2_ := Aside0.mk (below_step z22_3 hb); clear HO_0; clear HK; clear HB; have HO_0 := n0_; have HK := n1_; have HB := n2_; clear n0_ n1_ n2_; have p6 : 0 ≤ (x5_1 : Int) := of_decide_eq_true z22_0; have q6 : (x5_1 : Int) < ((x0_1.length : Int) : Int) := of_decide_eq_true z22_0; obtain ⟨go6, co6, eo6, gb6, gl6, cl6, HG6⟩ := Kd.R_form HO_0.out (by omega); (first | cases eo6 | (injection eo6 with ea_ en_ ec_; (first | subst ea_ | (injection ea_ with ea_; subst ea_)); subst ec_; clear en_)); have GB6 := Aside0.mk gb6; have GG6 := Aside0.mk HG6; clear gb6 gl6 HG6; have HMgo6 := Aside0.mk (show (P0_ go6 ∨ w.heap.size ≤ go6) from (HO_0.out.1 _ rfl)); obtain ⟨ce6, hcl6, hM6, hcc6, hfr6⟩ := Kd.R_elem HO_0.out z127 (x5_1 : Int) p6 q6; obtain rfl := k127_openM hM6; have hx6_0 : w10.cell? ⟨go6, (x5_1 : Int).toNat * 3, none⟩ = some (.string ((rd_T127 x0_1 x5_1).f0)) := hcc6 0 _ rfl; have hx6_1 : w10.cell? ⟨go6, (x5_1 : Int).toNat * 3 + 1, none⟩ = some (.int .i64 ((rd_T127 x0_1 x5_1).f1)) := hcc6 1 _ rfl; have hx6_2 : w10.cell? ⟨go6, (x5_1 : Int).toNat * 3 + 2, none⟩ = some (.int .i64 ((rd_T127 x0_1 x5_1).f2)) := hcc6 2 _ rfl; have hf6_0 : w10.frozen? ⟨go6, (x5_1 : Int).toNat * 3, none⟩ = false := hfr6 0; have hf6_1 : w10.frozen? ⟨go6, (x5_1 : Int).toNat * 3 + 1, none⟩ = false := hfr6 1; have hf6_2 : w10.frozen? ⟨go6, (x5_1 : Int).toNat * 3 + 2, none⟩ = false := hfr6 2; clear hcl6 hcc6 hfr6 hM6; replace p6 := eq_true p6; replace q6 := eq_true q6; have HX11 := Aside0.mk (show Kd.R k127 127 w10 w0.heap.size (fun k_ => (P0_ k_ ∨ w.heap.size ≤ k_)) (.slice (some ⟨go6, 0, none⟩) x0_1.length co9) x0_1 from z22_13); obtain ⟨ce11, hcl11, hM11, hcc11, hfr11⟩ := Kd.R_elem HX11.out z127 (x5_1 : Int) (of_decide_eq_true z22_0) (by have h_ : (x5_1 : Int) < ((x0_1.length : Int) : Int) := of_decide_eq_true z22_0; first | exact h_ | (have e_ := (Kd.R_reads' HO_0.out).1; omega) | simpa using h_); obtain rfl := k127_openM hM11; have HP11 := Kd.R_seg HX11.out (x5_1 : Int) (of_decide_eq_true z22_0) (by have h_ : (x5_1 : Int) < ((x0_1.length : Int) : Int) := of_decide_eq_true z22_0; first | exact h_ | (have e_ := (Kd.R_reads' HO_0.out).1; omega) | simpa using h_) (seg := [.string t657]) (j := 0) hcl11 hcc11 (show 1 ≤ 3 from by decide) (x' := (⟨t657, (rd_T127 x0_1 x5_1).f1, (rd_T127 x0_1 x5_1).f2⟩ : S127)) (k127_mkM _ _ _ (⟨t657, (rd_T127 x0_1 x5_1).f1, (rd_T127 x0_1 x5_1).f2⟩ : S127) ) (fun _ hk => hk); have hx11_0 := hcc11 0 _ rfl; (try simp only [show (k127).sz = 3 from rfl, Nat.mul_one, Nat.add_zero] at hx11_0); have hf11_0 := hfr11 0; (try simp only [show (k127).sz = 3 from rfl, Nat.mul_one, Nat.add_zero] at hf11_0); clear hcl11 hcc11 hfr11 hM11) | ((with_reducible refine gate_store (t := 9) (p := 17) rfl ?_); refine store_event (t := 9) (p := 17) (v := ?vo_w12) (w1 := (w10.setCell ⟨go6, (x5_1 : Int).toNat * 3, none⟩ (.string t657))) ?hg ?ho ?hn ?hr ?_; (case ho => rfl); (case hg => rfl); (case hn => rfl); (case hr => first | (go_simp; done) | (go_simp; rfl)); intro w12 hw; have hg : w10.grownBy w12 (some go6) := (by rw [hw]; exact HP11.2); have hp_ : Kd.R k127 127 w12 w0.heap.size (fun k_ => (P0_ k_ ∨ w.heap.size ≤ k_)) (.slice (some ⟨go6, 0, none⟩) x0_1.length co9) y658 := (by rw [hw, Ny658.out]; exact HP11.1); clear HP11; have n0_ := Aside0.mk (hp_); have n1_ := Aside0.mk ((by rw [hw]; exact below_set (HB.out) GB6.out : Below w0.heap.size w0 w12)); have n2_ := Aside0.mk (Kept.of_grown (S := (fun k_ => P0_ k_)) hg z22_6 (fun k_ e_ => (HO_0.out.1 k_ e_))); clear HO_0; clear HB; clear HK; have HO_0 := n0_; have HB := n1_; have HK := n2_; clear n0_ n1_ n2_; clear hg hw hp_; have p7 : 0 ≤ (x5_1 : Int) := of_decide_eq_true z22_0; have q7 : (x5_1 : Int) < ((x0_1.length : Int) : Int) := of_decide_eq_true z22_0; obtain ⟨ce7, hcl7, hM7, hcc7, hfr7⟩ := Kd.R_elem HO_0.out z127 (x5_1 : Int) p7 q7; obtain rfl := k127_openM hM7; have hx7_0 : w12.cell? ⟨go6, (x5_1 : Int).toNat * 3, none⟩ = some (.string ((rd_T127 y658 x5_1).f0)) := hcc7 0 _ rfl; have hx7_1 : w12.cell? ⟨go6, (x5_1 : Int).toNat * 3 + 1, none⟩ = some (.int .i64 ((rd_T127 y658 x5_1).f1)) := hcc7 1 _ rfl; have hx7_2 : w12.cell? ⟨go6, (x5_1 : Int).toNat * 3 + 2, none⟩ = some (.int .i64 ((rd_T127 y658 x5_1).f2)) := hcc7 2 _ rfl; have hf7_0 : w12.frozen? ⟨go6, (x5_1 : Int).toNat * 3, none⟩ = false := hfr7 0; have hf7_1 : w12.frozen? ⟨go6, (x5_1 : Int).toNat * 3 + 1, none⟩ = false := hfr7 1; have hf7_2 : w12.frozen? ⟨go6, (x5_1 : Int).toNat * 3 + 2, none⟩ = false := hfr7 2; clear hcl7 hcc7 hfr7 hM7; replace p7 := eq_true p7; replace q7 := eq_true q7; have HX13 := Aside0.mk (show Kd.R k127 127 w12 w0.heap.size (fun k_ => (P0_ k_ ∨ w.heap.size ≤ k_)) (.slice (some ⟨go6, 0, none⟩) x0_1.length co9) y658 from z22_13); obtain ⟨ce13, hcl13, hM13, hcc13, hfr13⟩ := Kd.R_elem HX13.out z127 (x5_1 : Int) (of_decide_eq_true z22_0) (by have h_ : (x5_1 : Int) < ((x0_1.length : Int) : Int) := of_decide_eq_true z22_0; first | exact h_ | (have e_ := (Kd.R_reads' HO_0.out).1; omega) | simpa using h_); obtain rfl := k127_openM hM13; have HP13 := Kd.R_seg HX13.out (x5_1 : Int) (of_decide_eq_true z22_0) (by have h_ : (x5_1 : Int) < ((x0_1.length : Int) : Int) := of_decide_eq_true z22_0; first | exact h_ | (have e_ := (Kd.R_reads' HO_0.out).1; omega) | simpa using h_) (seg := [.int .i64 (wrap64 (x1_1 + 1))]) (j := 1) hcl13 hcc13 (show 2 ≤ 3 from by decide) (x' := (⟨(rd_T127 y658 x5_1).f0, wrap64 (x1_1 + 1), (rd_T127 y658 x5_1).f2⟩ : S127)) (k127_mkM _ _ _ (⟨(rd_T127 y658 x5_1).f0, wrap64 (x1_1 + 1), (rd_T127 y658 x5_1).f2⟩ : S127) ) (fun _ hk => hk); have hx13_1 := hcc13 1 _ rfl; (try simp only [show (k127).sz = 3 from rfl, Nat.mul_one, Nat.add_zero] at hx13_1); have hf13_1 := hfr13 1; (try simp only [show (k127).sz = 3 from rfl, Nat.mul_one, Nat.add_zero] at hf13_1); clear hcl13 hcc13 hfr13 hM13) | ((with_reducible refine gate_store (t := 3) (p := 24) rfl ?_); refine store_event (t := 3) (p := 24) (v := ?vo_w14) (w1 := (w12.setCell ⟨go6, (x5_1 : Int).toNat * 3 + 1, none⟩ (.int .i64 (wrap64 (x1_1 + 1))))) ?hg ?ho ?hn ?hr ?_; (case ho => rfl); (case hg => rfl); (case hn => rfl); (case hr => first | (go_simp; done) | (go_simp; rfl)); intro w14 hw; have hg : w12.grownBy w14 (some go6) := (by rw [hw]; exact HP13.2); have hp_ : Kd.R k127 127 w14 w0.heap.size (fun k_ => (P0_ k_ ∨ w.heap.size ≤ k_)) (.slice (some ⟨go6, 0, none⟩) x0_1.length co9) y659 := (by rw [hw, Ny659.out]; exact HP13.1); clear HP13; have n0_ := Aside0.mk (hp_); have n1_ := Aside0.mk ((by rw [hw]; exact below_set (HB.out) GB6.out : Below w0.heap.size w0 w14)); have n2_ := Aside0.mk (Kept.of_grown (S := (fun k_ => P0_ k_)) hg z22_6 (fun k_ e_ => (HO_0.out.1 k_ e_))); clear HO_0; clear HB; clear HK; have HO_0 := n0_; have HB := n1_; have HK := n2_; clear n0_ n1_ n2_; clear hg hw hp_; have p8 : 0 ≤ (x5_1 : Int) := of_decide_eq_true z22_0; have q8 : (x5_1 : Int) < ((x0_1.length : Int) : Int) := of_decide_eq_true z22_0; obtain ⟨ce8, hcl8, hM8, hcc8, hfr8⟩ := Kd.R_elem HO_0.out z127 (x5_1 : Int) p8 q8; obtain rfl := k127_openM hM8; have hx8_0 : w14.cell? ⟨go6, (x5_1 : Int).toNat * 3, none⟩ = some (.string ((rd_T127 y659 x5_1).f0)) := hcc8 0 _ rfl; have hx8_1 : w14.cell? ⟨go6, (x5_1 : Int).toNat * 3 + 1, none⟩ = some (.int .i64 ((rd_T127 y659 x5_1).f1)) := hcc8 1 _ rfl; have hx8_2 : w14.cell? ⟨go6, (x5_1 : Int).toNat * 3 + 2, none⟩ = some (.int .i64 ((rd_T127 y659 x5_1).f2)) := hcc8 2 _ rfl; have hf8_0 : w14.frozen? ⟨go6, (x5_1 : Int).toNat * 3, none⟩ = false := hfr8 0; have hf8_1 : w14.frozen? ⟨go6, (x5_1 : Int).toNat * 3 + 1, none⟩ = false := hfr8 1; have hf8_2 : w14.frozen? ⟨go6, (x5_1 : Int).toNat * 3 + 2, none⟩ = false := hfr8 2; clear hcl8 hcc8 hfr8 hM8; replace p8 := eq_true p8; replace q8 := eq_true q8; have HX15 := Aside0.mk (show Kd.R k127 127 w14 w0.heap.size (fun k_ => (P0_ k_ ∨ w.heap.size ≤ k_)) (.slice (some ⟨go6, 0, none⟩) x0_1.length co9) y659 from z22_13); obtain ⟨ce15, hcl15, hM15, hcc15, hfr15⟩ := Kd.R_elem HX15.out z127 (x5_1 : Int) (of_decide_eq_true z22_0) (by have h_ : (x5_1 : Int) < ((x0_1.length : Int) : Int) := of_decide_eq_true z22_0; first | exact h_ | (have e_ := (Kd.R_reads' HO_0.out).1; omega) | simpa using h_); obtain rfl := k127_openM hM15; have HP15 := Kd.R_seg HX15.out (x5_1 : Int) (of_decide_eq_true z22_0) (by have h_ : (x5_1 : Int) < ((x0_1.length : Int) : Int) := of_decide_eq_true z22_0; first | exact h_ | (have e_ := (Kd.R_reads' HO_0.out).1; omega) | simpa using h_) (seg := [.int .i64 (wrap64 ((wrap64 (x1_1 + 1)) + 1))]) (j := 2) hcl15 hcc15 (show 3 ≤ 3 from by decide) (x' := (⟨(rd_T127 y659 x5_1).f0, (rd_T127 y659 x5_1).f1, wrap64 ((wrap64 (x1_1 + 1)) + 1)⟩ : S127)) (k127_mkM _ _ _ (⟨(rd_T127 y659 x5_1).f0, (rd_T127 y659 x5_1).f1, wrap64 ((wrap64 (x1_1 + 1)) + 1)⟩ : S127) ) (fun _ hk => hk); have hx15_2 := hcc15 2 _ rfl; (try simp only [show (k127).sz = 3 from rfl, Nat.mul_one, Nat.add_zero] at hx15_2); have hf15_2 := hfr15 2; (try simp only [show (k127).sz = 3 from rfl, Nat.mul_one, Nat.add_zero] at hf15_2); clear hcl15 hcc15 hfr15 hM15) | ((with_reducible refine gate_store (t := 3) (p := 31) rfl ?_); refine store_event (t := 3) (p := 31) (v := ?vo_w16) (w1 := (w14.setCell ⟨go6, (x5_1 : Int).toNat * 3 + 2, none⟩ (.int .i64 (wrap64 ((wrap64 (x1_1 + 1)) + 1))))) ?hg ?ho ?hn ?hr ?_; (case ho => rfl); (case hg => rfl); (case hn => rfl); (case hr => first | (go_simp; done) | (go_simp; rfl)); intro w16 hw; have hg : w14.grownBy w16 (some go6) := (by rw [hw]; exact HP15.2); have hp_ : Kd.R k127 127 w16 w0.heap.size (fun k_ => (P0_ k_ ∨ w.heap.size ≤ k_)) (.slice (some ⟨go6, 0, none⟩) x0_1.length co9) y660 := (by rw [hw, Ny660.out]; exact HP15.1); clear HP15; have n0_ := Aside0.mk (hp_); have n1_ := Aside0.mk ((by rw [hw]; exact below_set (HB.out) GB6.out : Below w0.heap.size w0 w16)); have n2_ := Aside0.mk (Kept.of_grown (S := (fun k_ => P0_ k_)) hg z22_6 (fun k_ e_ => (HO_0.out.1 k_ e_))); clear HO_0; clear HB; clear HK; have HO_0 := n0_; have HB := n1_; have HK := n2_; clear n0_ n1_ n2_; clear hg hw hp_))
     go_roundg k1
     case measure => have := HK1.out; omega
     case rel => exact ⟨(y660), (wrap64 ((wrap64 ((wrap64 (x1_1 + 1)) + 1)) + 1)), (wrap64 (x5_1 + 1)), z22_16, z22_16, H', ⟨z22_19⟩, ⟨z22_13⟩, ⟨z22_6⟩, ⟨z22_3⟩⟩
    ·
     rw [if_neg c5] at H
     exact absurd H (by simp)
   ·
    rw [if_neg c3] at H
    have c3b0 : decide (x5_1 < (x0_1.length : Int)) = false := decide_eq_false c3
    clear c3
    simp only [Option.some.injEq, Prod.mk.injEq] at H
    obtain ⟨rfl, rfl⟩ := H
    obtain ⟨Ao17, co17, eo17⟩ := Kd.R_slice HO_0.out
    subst eo17
    go_wp2
    go_ret
    exact ⟨z22_18, z22_13, z22_3, z22_6⟩
end Go.Proofs.Ytmohbiagcbfkpaa.QAct
