/- What the functions behind Act compute, and that the program's calls come to just that. Written by a program of this session on the base of the kit's print. No condition. -/
import Derived.Test.YtmohbiagcbfkpaaVFnExactStateNewQActx0
import Derived.Test.YtmohbiagcbfkpaaVFnExactStateNewQActx19
import Derived.Test.YtmohbiagcbfkpaaVFnExactStateNewQActx20
import Derived.Test.YtmohbiagcbfkpaaVFnExactStateNewQActx21
import Derived.Test.YtmohbiagcbfkpaaVFnExactStateNewQActx22
import Derived.Test.YtmohbiagcbfkpaaVFnExactStateNewQActx23
import Derived.Test.YtmohbiagcbfkpaaVFnExactStateNewQActx24
namespace Go.Proofs.Ytmohbiagcbfkpaa.QAct
open Go.RowKit Go.Proofs.YtmohbiagcbfkpaaW.PrintWords Go.Proofs.YtmohbiagcbfkpaaW.PrintLast Go.Proofs.YtmohbiagcbfkpaaW.PrintMore
attribute [local go_sem] max2_int min2_int max_two min_two max_three min_three max_four min_four   -- for this text's walks alone
set_option linter.unusedVariables false
set_option linter.unusedSimpArgs false
theorem z25_33 {P : Prop} (h : P := by kernel_rfl) : P := h
theorem z25_31 {P : Prop} (h : P := by repeat (first | (with_reducible first | exact HB.out | apply below_alloc | apply pw_below_drewN | apply below_drew1 | refine below_set ?_ GE763.out) | exact HB.out)) : P := h
theorem z25_30 {P : Prop} (h : P := by repeat (first | (with_reducible first | exact HB.out | apply below_alloc | apply pw_below_drewN | apply below_drew1 | refine below_set ?_ GE770.out) | exact HB.out)) : P := h
theorem z25_13 {P : Prop} (h : P := by first | rfl | (simp [errW_none, errW_some] <;> rfl) | (simp [*, errW_none, errW_some] <;> rfl)) : P := h
theorem z25_12 {P : Prop} (h : P := by first | exact Kd.R_nil _ _ _ _ _ | exact Kd.N_nil _ _ _ _ _ | exact Kd.V_nil _ _ _ _ _ | exact Kd.Q_nil _ _ _ _ _ | exact Kd.S_nil _ _ _ _ _) : P := h
theorem z25_5 {P : Prop} (h : P := by first | rfl | (simp only [List.map_toArray, List.map_cons, List.map_nil]; first | done | rfl)) : P := h
theorem z25_2 {P : Prop} (h : P := by repeat (first | (with_reducible first | exact HB.out | apply below_alloc | apply pw_below_drewN | apply below_drew1) | exact HB.out)) : P := h
def spec_KnowNew.f  : Option (List Int) := if 3 ≤ 35184372088832 then (some (List.replicate 3 0)) else (none)
set_option maxHeartbeats 8000000 in
set_option maxRecDepth 100000 in
theorem spec_KnowNew.calls  (r : List Int) (w : World) (h : spec_KnowNew.f  = some r) :
  Calls Try.prog 120 #[] w fun e w' => ∃ v0_ : Value, e = .returned (v0_) ∧ Kd.R (Kd.int .i64) 3 w' w.heap.size (fun _ => True) v0_ r ∧ Below w.heap.size w w' := by
 have HB := Aside0.mk (Below.refl w.heap.size w)
 have H : (if 3 ≤ 35184372088832 then (some (List.replicate 3 0)) else (none)) = some r := h
 clear h
 by_cases c1 : 3 ≤ 35184372088832
 ·
  rw [if_pos c1] at H
  have c1b0 := eq_true c1
  have c1b1 : decide (3 ≤ 35184372088832) = true := decide_eq_true c1
  clear c1
  obtain ⟨y760, hy760⟩ : ∃ y_ : List Int, y_ = (List.replicate 3 0) := ⟨_, rfl⟩
  replace H : (some y760) = some r := by first | (rw [hy760]; with_reducible exact H) | (have H2_ := (Option.bind_some _ _).symm.trans H; rw [hy760]; with_reducible exact H2_) | (have H2_ := (Option.bind_some _ _).symm.trans H; with_reducible exact H2_) | with_reducible exact H | (rw [hy760]; exact H) | exact H
  have Ny760 := Aside0.mk hy760
  clear hy760
  obtain rfl := Option.some.inj H
  go_enter Try.func120, Try.ntmps120
  go_wp2_with (first | ((with_reducible refine gate_dst (N := 1) rfl ?_); refine Kd.R_make (Kd.int .i64) _ 3 rfl (N := 1) rfl 24 _ _ rfl 3 rfl rfl Try.underlying24 (.int .i64 0) 8 info3 rfl (by decide) (by omega) 0 (ok := fun _ => True) (okp := fun _ => True) rfl (fun _ hk => hk) trivial (by omega) (by omega) (Below.refl _ _) (Nat.le_refl _) ?_; intro v761 w2 ho3 hb hg_ hnew_; clear hg_ hnew_; (first | rw [← Ny760.out] at ho3 | (simp only [Int.reduceToNat] at ho3; rw [← Ny760.out] at ho3)); have n0_ := Aside0.mk (Kd.R_lower ho3 (below_size z25_2)); have n1_ := Aside0.mk (below_step z25_2 hb); clear HB; have HO762 := n0_; have HB := n1_; clear n0_ n1_; clear hb ho3))
  go_ret
  exact ⟨_, z25_13, by (with_reducible repeat (first | apply Kd.R_alloc | apply Kd.R_drewN | apply Kd.R_drew)); exact HO762.out, z25_2⟩
 ·
  rw [if_neg c1] at H
  exact absurd H (by simp)
def spec_StateNew.f  : Option (List Int × (List (S127)) × (List (S134)) × (List (S167))) := (spec_KnowNew.f).bind fun t764 => (some (t764, ([] : List (S127)), ([] : List (S134)), ([] : List (S167))))
set_option maxHeartbeats 8000000 in
set_option maxRecDepth 100000 in
theorem spec_StateNew.calls  (r1 : List Int) (r2 : List (S127)) (r3 : List (S134)) (r4 : List (S167)) (w : World) (h : spec_StateNew.f  = some (r1, r2, r3, r4)) :
  Calls Try.prog 40 #[] w fun e w' => ∃ v0_ v1_ v2_ v3_ : Value, e = .returned (.agg #[v0_, v1_, v2_, v3_]) ∧ Kd.R (Kd.int .i64) 3 w' w.heap.size (fun _ => True) v0_ r1 ∧ Kd.R k127 127 w' w.heap.size (fun _ => True) v1_ r2 ∧ Kd.R k134 134 w' w.heap.size (fun _ => True) v2_ r3 ∧ Kd.R k167 167 w' w.heap.size (fun _ => True) v3_ r4 ∧ Below w.heap.size w w' := by
 have hu53 := Try.underlying53
 have HB := Aside0.mk (Below.refl w.heap.size w)
 have H : ((spec_KnowNew.f).bind fun t764 => (some (t764, ([] : List (S127)), ([] : List (S134)), ([] : List (S167))))) = some (r1, r2, r3, r4) := h
 clear h
 replace H := Option.bind_eq_some_iff.mp H
 obtain ⟨t764, A10, H⟩ := H
 (try dsimp only at H)
 have A1 := Aside0.mk A10
 clear A10
 simp only [Option.some.injEq, Prod.mk.injEq] at H
 obtain ⟨rfl, rfl, rfl, rfl⟩ := H
 go_enter Try.func40, Try.ntmps40
 go_wp2_with (first | ((with_reducible refine gate_dst (N := 0) rfl ?_); refine box_event ?hg (N := 0) ?hd (cs := #[.slice none 0 0, .slice none 0 0, .slice none 0 0, .slice none 0 0]) (t := 53) ?hr ?_; (case hd => rfl); (case hg => rfl); (case hr => first | (go_simp; done) | (go_simp; rfl)); intro gb763 hg w2 hbox hb; have n0_ := Aside0.mk (below_step z25_2 hb); have n1_ := Aside0.mk (hbox); have n2_ := Aside0.mk ((by rw [hg]; exact (below_size z25_2) : w.heap.size ≤ gb763)); have n3_ := Aside0.mk ((by rw [hg]; exact (below_size z25_2) : w.heap.size ≤ gb763)); clear HB; have HB := n0_; have BK763 := n1_; have GW763 := n2_; have GE763 := n3_; clear n0_ n1_ n2_ n3_; clear hb hbox hg) | ((with_reducible refine gate_callee (f := 120) rfl ?_); refine goesL_ (some 1) rfl rfl Try.func120 z25_33 rfl #[] rfl z25_5 ?_; (with_reducible refine (spec_KnowNew.calls  t764 _ A1.out).mono ?_); rintro e w3 ⟨v765, rfl, ho0, hb⟩; refine ⟨_, rfl, ?_⟩; have n0_ := Aside0.mk (Kd.R_lower ho0 (below_size z25_31)); have n1_ := Aside0.mk (blk_below (g := gb763) (o := .cells #[.slice none 0 0, .slice none 0 0, .slice none 0 0, .slice none 0 0] 53 (0, 0)) (by (with_reducible repeat (first | refine blk_drewN ?_ _ | refine blk_drew ?_ | refine blk_alloc ?_ _)); exact BK763.out) hb); have n2_ := Aside0.mk (below_step z25_31 hb); clear BK763; clear HB; have HO766 := n0_; have BK763 := n1_; have HB := n2_; clear n0_ n1_ n2_; (try clear ho0); obtain ⟨Ao4, co4, eo4⟩ := Kd.R_slice HO766.out; subst eo4; have hcz5_0 : w3.cell? ⟨gb763, 0, none⟩ = some (.slice none 0 0) := (blk_cell BK763.out 0).trans rfl; have hcz5_1 : w3.cell? ⟨gb763, 1, none⟩ = some (.slice none 0 0) := (blk_cell BK763.out 1).trans rfl; have hcz5_2 : w3.cell? ⟨gb763, 2, none⟩ = some (.slice none 0 0) := (blk_cell BK763.out 2).trans rfl; have hcz5_3 : w3.cell? ⟨gb763, 3, none⟩ = some (.slice none 0 0) := (blk_cell BK763.out 3).trans rfl; have hfz5_0 := blk_frozen BK763.out 0; have hfz5_1 := blk_frozen BK763.out 1; have hfz5_2 := blk_frozen BK763.out 2; have hfz5_3 := blk_frozen BK763.out 3))
 refine bodyPost_ret (results_cell_row rfl _ _ gb763 53 #[.slice Ao4 t764.length co4, .slice none 0 0, .slice none 0 0, .slice none 0 0] (0, 0) _ rfl (by (with_reducible repeat (first | refine blk_drewN ?_ _ | refine blk_drew ?_ | refine blk_alloc ?_ _)); refine blk_put (cs := #[.slice Ao4 t764.length co4, .slice none 0 0, .slice none 0 0, .slice none 0 0]) ?_ 3 _ rfl; (with_reducible repeat (first | refine blk_drewN ?_ _ | refine blk_drew ?_ | refine blk_alloc ?_ _)); refine blk_put (cs := #[.slice Ao4 t764.length co4, .slice none 0 0, .slice none 0 0, .slice none 0 0]) ?_ 2 _ rfl; (with_reducible repeat (first | refine blk_drewN ?_ _ | refine blk_drew ?_ | refine blk_alloc ?_ _)); refine blk_put (cs := #[.slice Ao4 t764.length co4, .slice none 0 0, .slice none 0 0, .slice none 0 0]) ?_ 1 _ rfl; (with_reducible repeat (first | refine blk_drewN ?_ _ | refine blk_drew ?_ | refine blk_alloc ?_ _)); refine blk_put (cs := #[.slice none 0 0, .slice none 0 0, .slice none 0 0, .slice none 0 0]) ?_ 0 _ rfl; (with_reducible repeat (first | refine blk_drewN ?_ _ | refine blk_drew ?_ | refine blk_alloc ?_ _)); exact BK763.out) Try.underlying53 rfl z25_33) rfl ?_
 exact ⟨_, _, _, _, z25_13, by (with_reducible repeat (first | apply Kd.R_alloc | apply Kd.R_drewN | apply Kd.R_drew)); exact Kd.R_mono (Kd.R_far (p := ⟨gb763, 3, none⟩) (Kd.R_far (p := ⟨gb763, 2, none⟩) (Kd.R_far (p := ⟨gb763, 1, none⟩) (Kd.R_far (p := ⟨gb763, 0, none⟩) (Kd.R_types HO766.out BK763.out (by decide)) (fun _ hk => hk.2) (.slice Ao4 t764.length co4)) (fun _ hk => hk.2) (.slice none 0 0)) (fun _ hk => hk.2) (.slice none 0 0)) (fun _ hk => hk.2) (.slice none 0 0)) (fun _ hk => trivial), z25_12, z25_12, z25_12, z25_31⟩
def impl_KnowNew.f  : Option (List Int) := if 3 ≤ 35184372088832 then (some (List.replicate 3 0)) else (none)
set_option maxHeartbeats 8000000 in
set_option maxRecDepth 100000 in
theorem impl_KnowNew.calls  (r : List Int) (w : World) (h : impl_KnowNew.f  = some r) :
  Calls Try.prog 81 #[] w fun e w' => ∃ v0_ : Value, e = .returned (v0_) ∧ Kd.R (Kd.int .i64) 3 w' w.heap.size (fun _ => True) v0_ r ∧ Below w.heap.size w w' := by
 have HB := Aside0.mk (Below.refl w.heap.size w)
 have H : (if 3 ≤ 35184372088832 then (some (List.replicate 3 0)) else (none)) = some r := h
 clear h
 by_cases c1 : 3 ≤ 35184372088832
 ·
  rw [if_pos c1] at H
  have c1b0 := eq_true c1
  have c1b1 : decide (3 ≤ 35184372088832) = true := decide_eq_true c1
  clear c1
  obtain ⟨y767, hy767⟩ : ∃ y_ : List Int, y_ = (List.replicate 3 0) := ⟨_, rfl⟩
  replace H : (some y767) = some r := by first | (rw [hy767]; with_reducible exact H) | (have H2_ := (Option.bind_some _ _).symm.trans H; rw [hy767]; with_reducible exact H2_) | (have H2_ := (Option.bind_some _ _).symm.trans H; with_reducible exact H2_) | with_reducible exact H | (rw [hy767]; exact H) | exact H
  have Ny767 := Aside0.mk hy767
  clear hy767
  obtain rfl := Option.some.inj H
  go_enter Try.func81, Try.ntmps81
  go_wp2_with (first | ((with_reducible refine gate_dst (N := 1) rfl ?_); refine Kd.R_make (Kd.int .i64) _ 3 rfl (N := 1) rfl 24 _ _ rfl 3 rfl rfl Try.underlying24 (.int .i64 0) 8 info3 rfl (by decide) (by omega) 0 (ok := fun _ => True) (okp := fun _ => True) rfl (fun _ hk => hk) trivial (by omega) (by omega) (Below.refl _ _) (Nat.le_refl _) ?_; intro v768 w2 ho3 hb hg_ hnew_; clear hg_ hnew_; (first | rw [← Ny767.out] at ho3 | (simp only [Int.reduceToNat] at ho3; rw [← Ny767.out] at ho3)); have n0_ := Aside0.mk (Kd.R_lower ho3 (below_size z25_2)); have n1_ := Aside0.mk (below_step z25_2 hb); clear HB; have HO769 := n0_; have HB := n1_; clear n0_ n1_; clear hb ho3))
  go_ret
  exact ⟨_, z25_13, by (with_reducible repeat (first | apply Kd.R_alloc | apply Kd.R_drewN | apply Kd.R_drew)); exact HO769.out, z25_2⟩
 ·
  rw [if_neg c1] at H
  exact absurd H (by simp)
def impl_StateNew.f  : Option (List Int × (List (S127)) × (List (S134)) × (List (S167))) := (impl_KnowNew.f).bind fun t771 => (some (t771, ([] : List (S127)), ([] : List (S134)), ([] : List (S167))))
set_option maxHeartbeats 8000000 in
set_option maxRecDepth 100000 in
theorem impl_StateNew.calls  (r1 : List Int) (r2 : List (S127)) (r3 : List (S134)) (r4 : List (S167)) (w : World) (h : impl_StateNew.f  = some (r1, r2, r3, r4)) :
  Calls Try.prog 41 #[] w fun e w' => ∃ v0_ v1_ v2_ v3_ : Value, e = .returned (.agg #[v0_, v1_, v2_, v3_]) ∧ Kd.R (Kd.int .i64) 3 w' w.heap.size (fun _ => True) v0_ r1 ∧ Kd.R k127 127 w' w.heap.size (fun _ => True) v1_ r2 ∧ Kd.R k134 134 w' w.heap.size (fun _ => True) v2_ r3 ∧ Kd.R k167 167 w' w.heap.size (fun _ => True) v3_ r4 ∧ Below w.heap.size w w' := by
 have hu53 := Try.underlying53
 have HB := Aside0.mk (Below.refl w.heap.size w)
 have H : ((impl_KnowNew.f).bind fun t771 => (some (t771, ([] : List (S127)), ([] : List (S134)), ([] : List (S167))))) = some (r1, r2, r3, r4) := h
 clear h
 replace H := Option.bind_eq_some_iff.mp H
 obtain ⟨t771, A10, H⟩ := H
 (try dsimp only at H)
 have A1 := Aside0.mk A10
 clear A10
 simp only [Option.some.injEq, Prod.mk.injEq] at H
 obtain ⟨rfl, rfl, rfl, rfl⟩ := H
 go_enter Try.func41, Try.ntmps41
 go_wp2_with (first | ((with_reducible refine gate_dst (N := 0) rfl ?_); refine box_event ?hg (N := 0) ?hd (cs := #[.slice none 0 0, .slice none 0 0, .slice none 0 0, .slice none 0 0]) (t := 53) ?hr ?_; (case hd => rfl); (case hg => rfl); (case hr => first | (go_simp; done) | (go_simp; rfl)); intro gb770 hg w2 hbox hb; have n0_ := Aside0.mk (below_step z25_2 hb); have n1_ := Aside0.mk (hbox); have n2_ := Aside0.mk ((by rw [hg]; exact (below_size z25_2) : w.heap.size ≤ gb770)); have n3_ := Aside0.mk ((by rw [hg]; exact (below_size z25_2) : w.heap.size ≤ gb770)); clear HB; have HB := n0_; have BK770 := n1_; have GW770 := n2_; have GE770 := n3_; clear n0_ n1_ n2_ n3_; clear hb hbox hg) | ((with_reducible refine gate_callee (f := 81) rfl ?_); refine goesL_ (some 1) rfl rfl Try.func81 z25_33 rfl #[] rfl z25_5 ?_; (with_reducible refine (impl_KnowNew.calls  t771 _ A1.out).mono ?_); rintro e w3 ⟨v772, rfl, ho0, hb⟩; refine ⟨_, rfl, ?_⟩; have n0_ := Aside0.mk (Kd.R_lower ho0 (below_size z25_30)); have n1_ := Aside0.mk (blk_below (g := gb770) (o := .cells #[.slice none 0 0, .slice none 0 0, .slice none 0 0, .slice none 0 0] 53 (0, 0)) (by (with_reducible repeat (first | refine blk_drewN ?_ _ | refine blk_drew ?_ | refine blk_alloc ?_ _)); exact BK770.out) hb); have n2_ := Aside0.mk (below_step z25_30 hb); clear BK770; clear HB; have HO773 := n0_; have BK770 := n1_; have HB := n2_; clear n0_ n1_ n2_; (try clear ho0); obtain ⟨Ao4, co4, eo4⟩ := Kd.R_slice HO773.out; subst eo4; have hcz5_0 : w3.cell? ⟨gb770, 0, none⟩ = some (.slice none 0 0) := (blk_cell BK770.out 0).trans rfl; have hcz5_1 : w3.cell? ⟨gb770, 1, none⟩ = some (.slice none 0 0) := (blk_cell BK770.out 1).trans rfl; have hcz5_2 : w3.cell? ⟨gb770, 2, none⟩ = some (.slice none 0 0) := (blk_cell BK770.out 2).trans rfl; have hcz5_3 : w3.cell? ⟨gb770, 3, none⟩ = some (.slice none 0 0) := (blk_cell BK770.out 3).trans rfl; have hfz5_0 := blk_frozen BK770.out 0; have hfz5_1 := blk_frozen BK770.out 1; have hfz5_2 := blk_frozen BK770.out 2; have hfz5_3 := blk_frozen BK770.out 3))
 refine bodyPost_ret (results_cell_row rfl _ _ gb770 53 #[.slice Ao4 t771.length co4, .slice none 0 0, .slice none 0 0, .slice none 0 0] (0, 0) _ rfl (by (with_reducible repeat (first | refine blk_drewN ?_ _ | refine blk_drew ?_ | refine blk_alloc ?_ _)); refine blk_put (cs := #[.slice Ao4 t771.length co4, .slice none 0 0, .slice none 0 0, .slice none 0 0]) ?_ 3 _ rfl; (with_reducible repeat (first | refine blk_drewN ?_ _ | refine blk_drew ?_ | refine blk_alloc ?_ _)); refine blk_put (cs := #[.slice Ao4 t771.length co4, .slice none 0 0, .slice none 0 0, .slice none 0 0]) ?_ 2 _ rfl; (with_reducible repeat (first | refine blk_drewN ?_ _ | refine blk_drew ?_ | refine blk_alloc ?_ _)); refine blk_put (cs := #[.slice Ao4 t771.length co4, .slice none 0 0, .slice none 0 0, .slice none 0 0]) ?_ 1 _ rfl; (with_reducible repeat (first | refine blk_drewN ?_ _ | refine blk_drew ?_ | refine blk_alloc ?_ _)); refine blk_put (cs := #[.slice none 0 0, .slice none 0 0, .slice none 0 0, .slice none 0 0]) ?_ 0 _ rfl; (with_reducible repeat (first | refine blk_drewN ?_ _ | refine blk_drew ?_ | refine blk_alloc ?_ _)); exact BK770.out) Try.underlying53 rfl z25_33) rfl ?_
 exact ⟨_, _, _, _, z25_13, by (with_reducible repeat (first | apply Kd.R_alloc | apply Kd.R_drewN | apply Kd.R_drew)); exact Kd.R_mono (Kd.R_far (p := ⟨gb770, 3, none⟩) (Kd.R_far (p := ⟨gb770, 2, none⟩) (Kd.R_far (p := ⟨gb770, 1, none⟩) (Kd.R_far (p := ⟨gb770, 0, none⟩) (Kd.R_types HO773.out BK770.out (by decide)) (fun _ hk => hk.2) (.slice Ao4 t771.length co4)) (fun _ hk => hk.2) (.slice none 0 0)) (fun _ hk => hk.2) (.slice none 0 0)) (fun _ hk => hk.2) (.slice none 0 0)) (fun _ hk => trivial), z25_12, z25_12, z25_12, z25_30⟩
end Go.Proofs.Ytmohbiagcbfkpaa.QAct
