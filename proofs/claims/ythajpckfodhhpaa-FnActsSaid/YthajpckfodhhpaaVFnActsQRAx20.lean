/- What the functions behind RA compute, and that the program's calls come to just that. Written by a program of this session on the base of the kit's print. No condition. -/
import Derived.Test.YthajpckfodhhpaaVFnActsShort
import Derived.Test.YthajpckfodhhpaaVFnActsQRAx0
import Derived.Test.YthajpckfodhhpaaVFnActsQRAx2
import Derived.Test.YthajpckfodhhpaaVFnActsQRAx3
import Derived.Test.YthajpckfodhhpaaVFnActsQRAx5
import Derived.Test.YthajpckfodhhpaaVFnActsQRAx19
namespace Go.Proofs.Ythajpckfodhhpaa.QRA
open Go.RowKit Go.Proofs.Ythajpckfodhhpaa.Short Go.Proofs.YthajpckfodhhpaaW.PrintWords Go.Proofs.YthajpckfodhhpaaW.PrintLast Go.Proofs.YthajpckfodhhpaaW.PrintMore
attribute [local go_sem] max2_int min2_int max_two min_two max_three min_three max_four min_four   -- for this text's walks alone
set_option linter.unusedVariables false
set_option linter.unusedSimpArgs false
theorem z20_21 {P : Prop} (h : P := by (with_reducible repeat (first | refine blk_drewN ?_ _ | refine blk_drew ?_ | refine blk_alloc ?_ _)); exact BK630.out) : P := h
theorem z20_20 {P : Prop} (h : P := by (with_reducible repeat (first | apply Kd.R_alloc | apply Kd.R_drewN | apply Kd.R_drew)); exact HO671.out) : P := h
theorem z20_19 {P : Prop} (h : P := by repeat (first | (with_reducible first | exact HI615.out | apply IsS74.alloc | apply IsS74.drewN | apply IsS74.drew | apply IsS74.set_1 | apply IsS74.set_2 | refine IsS74.far ?_ NB615_610.out _ | refine IsS74.far ?_ NB615_611.out _) | exact HI615.out)) : P := h
theorem z20_18 {P : Prop} (h : P := by first | rfl | (simp [errW_none, errW_some] <;> rfl) | (simp [*, errW_none, errW_some] <;> rfl)) : P := h
theorem z20_17 {P : Prop} (h : P := by repeat (first | (with_reducible first | exact HB.out | apply below_alloc | apply pw_below_drewN | apply below_drew1 | refine below_set ?_ GE660.out) | exact HB.out)) : P := h
theorem z20_16 {P : Prop} (h : P := by repeat (first | (with_reducible first | exact HB.out | apply below_alloc | apply pw_below_drewN | apply below_drew1 | refine below_set ?_ (IsS74.ge HI698.out)) | exact HB.out)) : P := h
theorem z20_15 {P : Prop} (h : P := by kernel_rfl) : P := h
theorem z20_14 {P : Prop} (h : P := by (with_reducible repeat (first | apply Kd.R_alloc | apply Kd.R_drewN | apply Kd.R_drew)); exact HO621.out) : P := h
theorem z20_13 {P : Prop} (h : P := by simp only [Act.put, List.setIfInBounds_toArray, List.set_cons_zero, List.set_cons_succ, i64_w, i32_w]; rfl) : P := h
theorem z20_12 {P : Prop} (h : P := by repeat (first | (with_reducible first | exact HB.out | apply below_alloc | apply pw_below_drewN | apply below_drew1 | refine below_set ?_ (IsS74.ge HI665.out) | refine below_set ?_ GE660.out | refine below_set ?_ GE661.out | refine below_set ?_ GE680.out) | exact HB.out)) : P := h
theorem z20_11 {P : Prop} (h : P := by repeat (first | (with_reducible first | exact HB.out | apply below_alloc | apply pw_below_drewN | apply below_drew1 | refine below_set ?_ (IsS74.ge HI665.out) | refine below_set ?_ GE660.out | refine below_set ?_ GE661.out) | exact HB.out)) : P := h
theorem z20_10 {P : Prop} (h : P := by (with_reducible repeat (first | refine blk_drewN ?_ _ | refine blk_drew ?_ | refine blk_alloc ?_ _)); exact BK661.out) : P := h
theorem z20_9 {P : Prop} (h : P := by repeat (first | (with_reducible first | exact HB.out | apply below_alloc | apply pw_below_drewN | apply below_drew1 | refine below_set ?_ GE610.out) | exact HB.out)) : P := h
theorem z20_8 {P : Prop} (h : P := by repeat (first | (with_reducible first | exact HB.out | apply below_alloc | apply pw_below_drewN | apply below_drew1) | exact HB.out)) : P := h
theorem z20_7 {P : Prop} (h : P := by repeat (first | (with_reducible first | exact HB.out | apply below_alloc | apply pw_below_drewN | apply below_drew1 | refine below_set ?_ (IsS74.ge HI615.out) | refine below_set ?_ GE610.out | refine below_set ?_ GE611.out | refine below_set ?_ GE630.out) | exact HB.out)) : P := h
theorem z20_6 {P : Prop} (h : P := by first | rfl | (simp only [List.map_toArray, List.map_cons, List.map_nil]; first | done | rfl)) : P := h
theorem z20_5 {P : Prop} (h : P := by (with_reducible repeat (first | refine blk_drewN ?_ _ | refine blk_drew ?_ | refine blk_alloc ?_ _)); exact BK660.out) : P := h
theorem z20_4 {P : Prop} (h : P := by (with_reducible repeat (first | apply blk_far (hp := NB610_630.out) | refine blk_drewN ?_ _ | refine blk_drew ?_ | refine blk_alloc ?_ _)); exact BK610.out) : P := h
theorem z20_3 {P : Prop} (h : P := by (with_reducible repeat (first | apply blk_far (hp := NB611_630.out) | refine blk_drewN ?_ _ | refine blk_drew ?_ | refine blk_alloc ?_ _)); exact BK611.out) : P := h
theorem z20_2 {P : Prop} (h : P := by repeat (first | (with_reducible first | exact HB.out | apply below_alloc | apply pw_below_drewN | apply below_drew1 | refine below_set ?_ (IsS74.ge HI615.out) | refine below_set ?_ GE610.out | refine below_set ?_ GE611.out) | exact HB.out)) : P := h
theorem z20_1 {P : Prop} (h : P := by (with_reducible repeat (first | refine blk_drewN ?_ _ | refine blk_drew ?_ | refine blk_alloc ?_ _)); exact BK611.out) : P := h
theorem z20_0 {P : Prop} (h : P := by (with_reducible repeat (first | refine blk_drewN ?_ _ | refine blk_drew ?_ | refine blk_alloc ?_ _)); exact BK610.out) : P := h
theorem z20_22 {P : Prop} (h : P := by repeat (first | (with_reducible first | exact HB.out | apply below_alloc | apply pw_below_drewN | apply below_drew1 | refine below_set ?_ GE610.out | refine below_set ?_ GE611.out) | exact HB.out)) : P := h
theorem z20_25 {P : Prop} (h : P := by repeat (first | (with_reducible first | exact HI615.out | apply IsS74.alloc | apply IsS74.drewN | apply IsS74.drew | apply IsS74.set_1 | apply IsS74.set_2 | refine IsS74.far ?_ NB615_610.out _ | refine IsS74.far ?_ NB615_611.out _ | refine IsS74.far ?_ NB615_630.out _) | exact HI615.out)) : P := h
def spec_DrawSameAct.f (k : Nat) (l0 : List Int) : Option (Int × Int × Int × List Int × Int × ByteArray × ByteArray × Int × Int × Int × Int × Int × Int × List Int × Int × ByteArray × ByteArray × Int × Int × Int) := (spec_l01New.f k l0).bind fun bt612 => ((spec_l05Any.f k bt612.1 bt612.2.1 bt612.2.2).bind fun bt616 => ((spec_l01Once.f bt612.1 bt616.2.2.2.2.2.2.2.2.2.2.1 bt616.2.2.2.2.2.2.2.2.2.2.2 2).bind fun bt631 => (if bt631.1 = true then ((spec_l05Copy.f bt616.1 bt616.2.1 bt616.2.2.1 bt616.2.2.2.1 bt616.2.2.2.2.1 bt616.2.2.2.2.2.1 bt616.2.2.2.2.2.2.1 bt616.2.2.2.2.2.2.2.1 bt616.2.2.2.2.2.2.2.2.1 bt616.2.2.2.2.2.2.2.2.2.1).bind fun bt634 => (some (bt616.1, bt616.2.1, bt616.2.2.1, bt616.2.2.2.1, bt616.2.2.2.2.1, bt616.2.2.2.2.2.1, bt616.2.2.2.2.2.2.1, bt616.2.2.2.2.2.2.2.1, bt616.2.2.2.2.2.2.2.2.1, bt616.2.2.2.2.2.2.2.2.2.1, bt634.1, bt634.2.1, bt634.2.2.1, bt634.2.2.2.1, bt634.2.2.2.2.1, bt634.2.2.2.2.2.1, bt634.2.2.2.2.2.2.1, bt634.2.2.2.2.2.2.2.1, bt634.2.2.2.2.2.2.2.2.1, bt634.2.2.2.2.2.2.2.2.2))) else ((spec_l05Any.f k bt612.1 bt631.2.1 bt631.2.2).bind fun bt646 => (some (bt616.1, bt616.2.1, bt616.2.2.1, bt616.2.2.2.1, bt616.2.2.2.2.1, bt616.2.2.2.2.2.1, bt616.2.2.2.2.2.2.1, bt616.2.2.2.2.2.2.2.1, bt616.2.2.2.2.2.2.2.2.1, bt616.2.2.2.2.2.2.2.2.2.1, bt646.1, bt646.2.1, bt646.2.2.1, bt646.2.2.2.1, bt646.2.2.2.2.1, bt646.2.2.2.2.2.1, bt646.2.2.2.2.2.2.1, bt646.2.2.2.2.2.2.2.1, bt646.2.2.2.2.2.2.2.2.1, bt646.2.2.2.2.2.2.2.2.2.1))))))
set_option maxHeartbeats 8000000 in
set_option maxRecDepth 100000 in
theorem spec_DrawSameAct.calls (k : Nat) (A0 : Option Addr) (c0 : Nat) (l0 : List Int) (r1 : Int) (r2 : Int) (r3 : Int) (r4 : List Int) (r5 : Int) (r6 : ByteArray) (r7 : ByteArray) (r8 : Int) (r9 : Int) (r10 : Int) (r11 : Int) (r12 : Int) (r13 : Int) (r14 : List Int) (r15 : Int) (r16 : ByteArray) (r17 : ByteArray) (r18 : Int) (r19 : Int) (r20 : Int) (w : World) (hr0 : Kd.C (Kd.int .u8) w A0 l0.length l0) (hc0 : l0.length ≤ c0) (h : spec_DrawSameAct.f k l0 = some (r1, r2, r3, r4, r5, r6, r7, r8, r9, r10, r11, r12, r13, r14, r15, r16, r17, r18, r19, r20)) :
  Calls Try.prog 13 #[.slice A0 l0.length c0] w fun e w' => ∃ v3_ v13_ : Value, e = .returned (.tuple #[.agg #[.int .i64 r1, .int .i64 r2, .int .i64 r3, v3_, .int .i64 r5, .string r6, .string r7, .int .i64 r8, .int .i64 r9, .int .i64 r10], .agg #[.int .i64 r11, .int .i64 r12, .int .i64 r13, v13_, .int .i64 r15, .string r16, .string r17, .int .i64 r18, .int .i64 r19, .int .i64 r20]]) ∧ Kd.R (Kd.int .i64) 3 w' w.heap.size (fun k_ => some k_ ≠ (v13_ : Value).ownBlock) v3_ r4 ∧ Kd.R (Kd.int .i64) 3 w' w.heap.size (fun k_ => some k_ ≠ (v3_ : Value).ownBlock) v13_ r14 ∧ Below w.heap.size w w' := by
 have hu31 := Try.underlying31
 have HR0 := Aside0.mk hr0
 have HC0 := Aside0.mk hc0
 clear hr0 hc0
 have HB := Aside0.mk (Below.refl w.heap.size w)
 have H := h
 unfold spec_DrawSameAct.f at H
 clear h
 replace H := Option.bind_eq_some_iff.mp H
 obtain ⟨⟨t612, t613, t614⟩, A20, H⟩ := H
 (try dsimp only at H)
 have A2 := Aside0.mk A20
 clear A20
 replace H := Option.bind_eq_some_iff.mp H
 obtain ⟨⟨t616, t617, t618, t619, t622, t623, t624, t625, t626, t627, t628, t629⟩, A30, H⟩ := H
 (try dsimp only at H)
 have A3 := Aside0.mk A30
 clear A30
 replace H := Option.bind_eq_some_iff.mp H
 obtain ⟨⟨t631, t632, t633⟩, A40, H⟩ := H
 (try dsimp only at H)
 have A4 := Aside0.mk A40
 clear A40
 by_cases c5 : t631 = true
 rotate_left
 ·
  replace c5 := Bool.eq_false_iff.mpr c5
  subst c5
  rw [if_neg (show ¬ (false = true) by decide)] at H
  replace H := Option.bind_eq_some_iff.mp H
  obtain ⟨⟨t646, t647, t648, t649, t652, t653, t654, t655, t656, t657, t658, t659⟩, A410, H⟩ := H
  (try dsimp only at H)
  have A41 := Aside0.mk A410
  clear A410
  simp only [Option.some.injEq, Prod.mk.injEq] at H
  obtain ⟨rfl, rfl, rfl, rfl, rfl, rfl, rfl, rfl, rfl, rfl, rfl, rfl, rfl, rfl, rfl, rfl, rfl, rfl, rfl, rfl⟩ := H
  go_enter Try.func13, Try.ntmps13
  try go_wp2_with (first | ((with_reducible refine gate_dst (N := 2) rfl ?_); refine box_event ?hg (N := 2) ?hd (cs := #[.int .i64 0, .int .i64 0, .int .i64 0, .slice none 0 0, .int .i64 0, .string (⟨#[]⟩ : ByteArray), .string (⟨#[]⟩ : ByteArray), .int .i64 0, .int .i64 0, .int .i64 0]) (t := 31) ?hr ?_; (case hd => rfl); (case hg => rfl); (case hr => first | (go_simp; done) | (go_simp; rfl)); intro gb610 hg w42 hbox hb; have BK610 := Aside0.mk (hbox); have GW610 := gw_ w z20_8 hg; have GE610 := gw_ w z20_8 hg; replace HB := Aside0.mk (below_step z20_8 hb); clear hb hbox hg) | ((with_reducible refine gate_dst (N := 3) rfl ?_); refine box_event ?hg (N := 3) ?hd (cs := #[.int .i64 0, .int .i64 0, .int .i64 0, .slice none 0 0, .int .i64 0, .string (⟨#[]⟩ : ByteArray), .string (⟨#[]⟩ : ByteArray), .int .i64 0, .int .i64 0, .int .i64 0]) (t := 31) ?hr ?_; (case hd => rfl); (case hg => rfl); (case hr => first | (go_simp; done) | (go_simp; rfl)); intro gb611 hg w43 hbox hb; have BK611 := Aside0.mk (hbox); have GW611 := gw_ w z20_9 hg; have GE611 := gw_ w z20_9 hg; replace HB := Aside0.mk (below_step z20_9 hb); have NB610_611 := nb_ BK610 z20_0 hg; have NB611_610 := nc_ BK610 z20_0 hg; replace BK610 := bb_ BK610 z20_0 hb; clear hb hbox hg) | ((with_reducible refine gate_callee (f := 27) rfl ?_); refine goesL_ (some 7) rfl rfl Try.func27 z20_15 rfl #[.slice A0 l0.length c0] rfl z20_6 ?_; (with_reducible refine (spec_l01New.calls k _ _ l0 t612 t613 t614 w _ ?side1 ?side2 ?side3 A2.out).mono ?_); (case side1 => exact z20_22); (case side2 => exact HR0.out); (case side3 => exact HC0.out); rintro e w44 ⟨g615, rfl, hi, hb, hb2⟩; refine ⟨_, rfl, ?_⟩; replace HB := Aside0.mk (hb); have HI615 := Aside0.mk (hi); have NB615_610 := Aside0.mk (IsS74.ne_blk hi (blk_below (g := gb610) (o := .cells #[.int .i64 0, .int .i64 0, .int .i64 0, .slice none 0 0, .int .i64 0, .string (⟨#[]⟩ : ByteArray), .string (⟨#[]⟩ : ByteArray), .int .i64 0, .int .i64 0, .int .i64 0] 31 (0, 0)) z20_0 hb2) (by decide)); have NB610_615 := Aside0.mk (Ne.symm (IsS74.ne_blk hi (blk_below (g := gb610) (o := .cells #[.int .i64 0, .int .i64 0, .int .i64 0, .slice none 0 0, .int .i64 0, .string (⟨#[]⟩ : ByteArray), .string (⟨#[]⟩ : ByteArray), .int .i64 0, .int .i64 0, .int .i64 0] 31 (0, 0)) z20_0 hb2) (by decide))); replace BK610 := bb_ BK610 z20_0 hb2; have NB615_611 := Aside0.mk (IsS74.ne_blk hi (blk_below (g := gb611) (o := .cells #[.int .i64 0, .int .i64 0, .int .i64 0, .slice none 0 0, .int .i64 0, .string (⟨#[]⟩ : ByteArray), .string (⟨#[]⟩ : ByteArray), .int .i64 0, .int .i64 0, .int .i64 0] 31 (0, 0)) z20_1 hb2) (by decide)); have NB611_615 := Aside0.mk (Ne.symm (IsS74.ne_blk hi (blk_below (g := gb611) (o := .cells #[.int .i64 0, .int .i64 0, .int .i64 0, .slice none 0 0, .int .i64 0, .string (⟨#[]⟩ : ByteArray), .string (⟨#[]⟩ : ByteArray), .int .i64 0, .int .i64 0, .int .i64 0] 31 (0, 0)) z20_1 hb2) (by decide))); replace BK611 := bb_ BK611 z20_1 hb2) | ((with_reducible refine gate_callee (f := 26) rfl ?_); refine goesL_ (some 9) rfl rfl Try.func26 z20_15 rfl #[.pointer (some ⟨g615, 0, none⟩)] rfl z20_6 ?_; (with_reducible refine (spec_l05Any.calls k g615 t612 t613 t614 t616 t617 t618 t619 t622 t623 t624 t625 t626 t627 t628 t629 w _ ?side1 ?side2 A3.out).mono ?_); (case side1 => exact z20_19); (case side2 => exact z20_2); rintro e w45 ⟨v620, rfl, ho0, hi, hb, hk⟩; refine ⟨_, rfl, ?_⟩; replace BK610 := kb_ BK610 hk z20_0 NB610_615; replace BK611 := kb_ BK611 hk z20_1 NB611_615; have HO621 := Aside0.mk (Kd.R_lower ho0 (below_size z20_2)); replace HB := Aside0.mk (hb); replace HI615 := Aside0.mk (hi); (try clear ho0)) | ((with_reducible refine gate_dst (N := 5) rfl ?_); refine box_event ?hg (N := 5) ?hd (cs := #[.int .i64 0, .int .i64 0, .int .i64 0, .slice none 0 0, .int .i64 0, .string (⟨#[]⟩ : ByteArray), .string (⟨#[]⟩ : ByteArray), .int .i64 0, .int .i64 0, .int .i64 0]) (t := 31) ?hr ?_; (case hd => rfl); (case hg => rfl); (case hr => first | (go_simp; done) | (go_simp; rfl)); intro gb630 hg w46 hbox hb; replace HO621 := Aside0.mk (Kd.R_below z20_14 hb); have BK630 := Aside0.mk (hbox); have GW630 := gw_ w z20_2 hg; have GE630 := gw_ w z20_2 hg; replace HB := Aside0.mk (below_step z20_2 hb); have NB610_630 := nb_ BK610 z20_0 hg; have NB630_610 := nc_ BK610 z20_0 hg; replace BK610 := bb_ BK610 z20_0 hb; have NB611_630 := nb_ BK611 z20_1 hg; have NB630_611 := nc_ BK611 z20_1 hg; replace BK611 := bb_ BK611 z20_1 hb; have NB615_630 := Aside0.mk ((by rw [hg]; exact Nat.ne_of_lt (IsS74.lt (show IsS74 w _ g615 t612 t628 t629 from by repeat (first | (with_reducible first | exact HI615.out | apply IsS74.alloc | apply IsS74.drewN | apply IsS74.drew | apply IsS74.set_1 | apply IsS74.set_2 | refine IsS74.far ?_ NB615_610.out _ | refine IsS74.far ?_ NB615_611.out _) | exact HI615.out))) : g615 ≠ gb630)); have NB630_615 := Aside0.mk ((by rw [hg]; exact Nat.ne_of_gt (IsS74.lt (show IsS74 w _ g615 t612 t628 t629 from by repeat (first | (with_reducible first | exact HI615.out | apply IsS74.alloc | apply IsS74.drewN | apply IsS74.drew | apply IsS74.set_1 | apply IsS74.set_2 | refine IsS74.far ?_ NB615_610.out _ | refine IsS74.far ?_ NB615_611.out _) | exact HI615.out))) : gb630 ≠ g615)); replace HI615 := Aside0.mk (IsS74.below z20_19 hb); clear hb hbox hg; have hnb47 := NB630_610.out; have hnc47 := NB610_630.out; have hnb48 := NB630_611.out; have hnc48 := NB611_630.out; have hnb49 := NB630_615.out; have hnc49 := NB615_630.out; have hcz50 := bc10 BK630.out; obtain ⟨Ao51, co51, eo51⟩ := Kd.R_slice HO621.out; subst eo51) | ((with_reducible refine gate_callee (f := 38) rfl ?_); refine goesL_ (some 11) rfl rfl Try.func38 z20_15 rfl #[.pointer (some ⟨g615, 0, none⟩), .int .i64 2] rfl z20_6 ?_; (with_reducible refine (spec_l01Once.calls g615 t612 t628 t629 2 false t632 t633 w _ ?side1 ?side2 A4.out).mono ?_); (case side1 => exact z20_25); (case side2 => exact z20_7); rintro e w52 ⟨rfl, hi, hb, hk⟩; refine ⟨_, rfl, ?_⟩; replace BK610 := kb_ BK610 hk z20_4 NB610_615; replace BK611 := kb_ BK611 hk z20_3 NB611_615; replace HO621 := Aside0.mk (Kd.R_mono (Kd.R_keep (IsS74.apart (show IsS74 w _ g615 t612 t628 t629 from by repeat (first | (with_reducible first | exact HI615.out | apply IsS74.alloc | apply IsS74.drewN | apply IsS74.drew | apply IsS74.set_1 | apply IsS74.set_2 | refine IsS74.far ?_ NB615_610.out _ | refine IsS74.far ?_ NB615_611.out _ | refine IsS74.far ?_ NB615_630.out _) | exact HI615.out)) (by (with_reducible repeat (first | apply Kd.R_alloc | apply Kd.R_drewN | apply Kd.R_drew)); exact (Kd.R_mono (Kd.R_far (p := ⟨gb630, 9, none⟩) (Kd.R_far (p := ⟨gb630, 8, none⟩) (Kd.R_far (p := ⟨gb630, 7, none⟩) (Kd.R_far (p := ⟨gb630, 6, none⟩) (Kd.R_far (p := ⟨gb630, 5, none⟩) (Kd.R_far (p := ⟨gb630, 4, none⟩) (Kd.R_far (p := ⟨gb630, 3, none⟩) (Kd.R_far (p := ⟨gb630, 2, none⟩) (Kd.R_far (p := ⟨gb630, 1, none⟩) (Kd.R_far (p := ⟨gb630, 0, none⟩) (Kd.R_types HO621.out BK630.out (by decide)) (fun _ hk => by first | exact hk.2 | trivial) (.int .i64 t616)) (fun _ hk => by first | exact hk.2 | trivial) (.int .i64 t617)) (fun _ hk => by first | exact hk.2 | trivial) (.int .i64 t618)) (fun _ hk => by first | exact hk.2 | trivial) (.slice Ao51 t619.length co51)) (fun _ hk => by first | exact hk.2 | trivial) (.int .i64 t622)) (fun _ hk => by first | exact hk.2 | trivial) (.string t623)) (fun _ hk => by first | exact hk.2 | trivial) (.string t624)) (fun _ hk => by first | exact hk.2 | trivial) (.int .i64 t625)) (fun _ hk => by first | exact hk.2 | trivial) (.int .i64 t626)) (fun _ hk => by first | exact hk.2 | trivial) (.int .i64 t627)) (fun _ h_ => h_.1))) (by decide)) hk (fun _ h => h.2)) (fun _ h => h.1)); replace BK630 := Aside0.mk (KeepBut.blk hk (g' := gb630) (o := .cells #[.int .i64 t616, .int .i64 t617, .int .i64 t618, .slice Ao51 t619.length co51, .int .i64 t622, .string t623, .string t624, .int .i64 t625, .int .i64 t626, .int .i64 t627] 31 (0, 0)) (by (with_reducible repeat (first | apply bpa10 | refine blk_drewN ?_ _ | refine blk_drew ?_ | refine blk_alloc ?_ _)); exact BK630.out) NB630_615.out (by simp)); replace HB := Aside0.mk (hb); replace HI615 := Aside0.mk (hi)))
  replace HO621 := Aside0.mk (Kd.R_drew HO621.out)
  replace BK610 := Aside0.mk (blk_drew BK610.out)
  replace BK611 := Aside0.mk (blk_drew BK611.out)
  replace BK630 := Aside0.mk (blk_drew BK630.out)
  replace HI615 := Aside0.mk (IsS74.drew HI615.out)
  replace HB := Aside0.mk (below_drew1 HB.out)
  refine start_ (n := 5) (S := fun w' => w'.cell? ⟨gb630, 0, none⟩ = some (.int .i64 t616) ∧ w'.cell? ⟨gb630, 1, none⟩ = some (.int .i64 t617) ∧ w'.cell? ⟨gb630, 2, none⟩ = some (.int .i64 t618) ∧ w'.cell? ⟨gb630, 3, none⟩ = some (.slice Ao51 t619.length co51) ∧ w'.cell? ⟨gb630, 4, none⟩ = some (.int .i64 t622) ∧ w'.cell? ⟨gb630, 5, none⟩ = some (.string t623) ∧ w'.cell? ⟨gb630, 6, none⟩ = some (.string t624) ∧ w'.cell? ⟨gb630, 7, none⟩ = some (.int .i64 t625) ∧ w'.cell? ⟨gb630, 8, none⟩ = some (.int .i64 t626) ∧ w'.cell? ⟨gb630, 9, none⟩ = some (.int .i64 t627)) (ds := []) #[false, false, false, false, false] z20_15 rfl rfl (ln10 BK630) (fun hHeld => ?_)
  generalize w52.drew = w53 at HO621 BK610 BK611 BK630 HI615 HB hHeld ⊢
  refine pure_ (i := 1) (N := some 16) (v := ?_) (a' := ?_) #[false, true, false, false, false] rfl rfl z20_15 (fun _ _ _ h => h) (Or.inl ⟨by rfl, ?_⟩) ?_ ?_
  rotate_left
  ·
   exact (by intro w'; go_simp; with_reducible rfl)
  rotate_left
  ·
   exact z20_13
  refine take_ (i := 0) (N := some 15) (v := ?_) (a' := ?_) #[true, true, false, false, false] rfl rfl z20_15 (fun _ _ _ h => h) (Or.inl ⟨by rfl, ?_⟩) hHeld ?_ ?_
  rotate_left
  ·
   rintro w' ⟨s0, s1, s2, s3, s4, s5, s6, s7, s8, s9⟩
   go_simp
   with_reducible rfl
  rotate_left
  ·
   exact z20_13
  refine one_ (i := 2) (N := some 17) #[true, true, true, false, false] rfl rfl z20_15 (by decide) (fun K hK => ?_)
  refine goes_ Try.func26 z20_15 rfl #[.pointer (some ⟨g615, 0, none⟩)] (by rfl) rfl rfl z20_6 ?_
  with_reducible refine (spec_l05Any.calls k g615 t612 t632 t633 t646 t647 t648 t649 t652 t653 t654 t655 t656 t657 t658 t659 w _ ?side1 ?side2 A41.out).mono ?_
  (case side1 => exact z20_25)
  (case side2 => exact z20_7)
  rintro e w54 ⟨v650, rfl, ho0, hi, hb, hk⟩
  refine ⟨_, rfl, ?_⟩
  replace BK610 := kb_ BK610 hk z20_0 NB610_615
  replace BK611 := kb_ BK611 hk z20_1 NB611_615
  replace BK630 := kb_ BK630 hk z20_21 NB630_615
  have HO651 := Aside0.mk (Kd.R_lower (Kd.R_new' ho0 (Kd.R_lt z20_14)) (below_size z20_7))
  replace HO621 := Aside0.mk (Kd.R_mono (Kd.R_told (Kd.R_oldK (IsS74.apart (show IsS74 w _ g615 t612 t632 t633 from by repeat (first | (with_reducible first | exact HI615.out | apply IsS74.alloc | apply IsS74.drewN | apply IsS74.drew | apply IsS74.set_1 | apply IsS74.set_2 | refine IsS74.far ?_ NB615_610.out _ | refine IsS74.far ?_ NB615_611.out _ | refine IsS74.far ?_ NB615_630.out _) | exact HI615.out)) z20_14 (by decide)) hk) (Kd.R_base ho0)) (fun _ h_ => h_.1))
  replace HB := Aside0.mk (hb)
  replace HI615 := Aside0.mk (hi)
  (try clear hb)
  (try clear hb2)
  (try clear hk)
  (try clear hi)
  (try clear ho0)
  obtain ⟨Ao68, co68, eo68⟩ := Kd.R_slice HO651.out
  (first | subst eo68 | (injection eo68 with f1_ f2_ f3_; have f4_ := f1_.symm; have f5_ := f3_.symm; clear f1_ f2_ f3_; subst f4_; subst f5_))
  refine hK.out _ _ (ln10 BK630) (fun hHeld => ?_)
  clear hK K
  refine n_ (N := some 17) ?_
  refine one_ (i := 3) (N := none) #[true, true, true, true, false] rfl rfl z20_15 (by decide) (fun K hK => ?_)
  have hs55 : w54.cell? ⟨gb610, 0, none⟩ = some (.int .i64 0) := bc_ BK610 0
  have hfs55 := blk_frozen BK610.out 0
  have hns55_1 := NB611_610.out
  have hns55_2 := NB630_610.out
  have hms55_1 := NB610_611.out
  have hms55_2 := NB610_630.out
  have hs56 : w54.cell? ⟨gb610, 1, none⟩ = some (.int .i64 0) := bc_ BK610 1
  have hfs56 := blk_frozen BK610.out 1
  have hns56_1 := NB611_610.out
  have hns56_2 := NB630_610.out
  have hms56_1 := NB610_611.out
  have hms56_2 := NB610_630.out
  have hs57 : w54.cell? ⟨gb610, 2, none⟩ = some (.int .i64 0) := bc_ BK610 2
  have hfs57 := blk_frozen BK610.out 2
  have hns57_1 := NB611_610.out
  have hns57_2 := NB630_610.out
  have hms57_1 := NB610_611.out
  have hms57_2 := NB610_630.out
  have hs58 : w54.cell? ⟨gb610, 3, none⟩ = some (.slice none 0 0) := bc_ BK610 3
  have hfs58 := blk_frozen BK610.out 3
  have hns58_1 := NB611_610.out
  have hns58_2 := NB630_610.out
  have hms58_1 := NB610_611.out
  have hms58_2 := NB610_630.out
  have hs59 : w54.cell? ⟨gb610, 4, none⟩ = some (.int .i64 0) := bc_ BK610 4
  have hfs59 := blk_frozen BK610.out 4
  have hns59_1 := NB611_610.out
  have hns59_2 := NB630_610.out
  have hms59_1 := NB610_611.out
  have hms59_2 := NB610_630.out
  have hs60 : w54.cell? ⟨gb610, 5, none⟩ = some (.string (⟨#[]⟩ : ByteArray)) := bc_ BK610 5
  have hfs60 := blk_frozen BK610.out 5
  have hns60_1 := NB611_610.out
  have hns60_2 := NB630_610.out
  have hms60_1 := NB610_611.out
  have hms60_2 := NB610_630.out
  have hs61 : w54.cell? ⟨gb610, 6, none⟩ = some (.string (⟨#[]⟩ : ByteArray)) := bc_ BK610 6
  have hfs61 := blk_frozen BK610.out 6
  have hns61_1 := NB611_610.out
  have hns61_2 := NB630_610.out
  have hms61_1 := NB610_611.out
  have hms61_2 := NB610_630.out
  have hs62 : w54.cell? ⟨gb610, 7, none⟩ = some (.int .i64 0) := bc_ BK610 7
  have hfs62 := blk_frozen BK610.out 7
  have hns62_1 := NB611_610.out
  have hns62_2 := NB630_610.out
  have hms62_1 := NB610_611.out
  have hms62_2 := NB610_630.out
  have hs63 : w54.cell? ⟨gb610, 8, none⟩ = some (.int .i64 0) := bc_ BK610 8
  have hfs63 := blk_frozen BK610.out 8
  have hns63_1 := NB611_610.out
  have hns63_2 := NB630_610.out
  have hms63_1 := NB610_611.out
  have hms63_2 := NB610_630.out
  have hs64 : w54.cell? ⟨gb610, 9, none⟩ = some (.int .i64 0) := bc_ BK610 9
  have hfs64 := blk_frozen BK610.out 9
  have hns64_1 := NB611_610.out
  have hns64_2 := NB630_610.out
  have hms64_1 := NB610_611.out
  have hms64_2 := NB610_630.out
  refine skip_ (w1 := ?_) ?p_ ?q_ ?_ ?_; (case p_ => rfl); (case q_ => rfl)
  rotate_left
  ·
   go_simp
   rfl
  refine hK.out _ _ (by obtain ⟨s0, s1, s2, s3, s4, s5, s6, s7, s8, s9⟩ := hHeld; (repeat' refine And.intro ?_ ?_) <;> (with_reducible repeat (first | assumption | refine (cell_far (p := ⟨gb610, _, none⟩) NB630_610.out _).trans ?_))) (fun hHeld => ?_)
  clear hK K
  refine one_ (i := 4) (N := none) #[true, true, true, true, true] rfl rfl z20_15 (by decide) (fun K hK => ?_)
  have hs65 : w54.cell? ⟨gb611, 0, none⟩ = some (.int .i64 0) := bc_ BK611 0
  have hfs65 := blk_frozen BK611.out 0
  have hns65_0 := NB610_611.out
  have hns65_2 := NB630_611.out
  have hms65_0 := NB611_610.out
  have hms65_2 := NB611_630.out
  have hs66 : w54.cell? ⟨gb611, 1, none⟩ = some (.int .i64 0) := bc_ BK611 1
  have hfs66 := blk_frozen BK611.out 1
  have hns66_0 := NB610_611.out
  have hns66_2 := NB630_611.out
  have hms66_0 := NB611_610.out
  have hms66_2 := NB611_630.out
  have hs67 : w54.cell? ⟨gb611, 2, none⟩ = some (.int .i64 0) := bc_ BK611 2
  have hfs67 := blk_frozen BK611.out 2
  have hns67_0 := NB610_611.out
  have hns67_2 := NB630_611.out
  have hms67_0 := NB611_610.out
  have hms67_2 := NB611_630.out
  have hs69 : w54.cell? ⟨gb611, 3, none⟩ = some (.slice none 0 0) := bc_ BK611 3
  have hfs69 := blk_frozen BK611.out 3
  have hns69_0 := NB610_611.out
  have hns69_2 := NB630_611.out
  have hms69_0 := NB611_610.out
  have hms69_2 := NB611_630.out
  have hs70 : w54.cell? ⟨gb611, 4, none⟩ = some (.int .i64 0) := bc_ BK611 4
  have hfs70 := blk_frozen BK611.out 4
  have hns70_0 := NB610_611.out
  have hns70_2 := NB630_611.out
  have hms70_0 := NB611_610.out
  have hms70_2 := NB611_630.out
  have hs71 : w54.cell? ⟨gb611, 5, none⟩ = some (.string (⟨#[]⟩ : ByteArray)) := bc_ BK611 5
  have hfs71 := blk_frozen BK611.out 5
  have hns71_0 := NB610_611.out
  have hns71_2 := NB630_611.out
  have hms71_0 := NB611_610.out
  have hms71_2 := NB611_630.out
  have hs72 : w54.cell? ⟨gb611, 6, none⟩ = some (.string (⟨#[]⟩ : ByteArray)) := bc_ BK611 6
  have hfs72 := blk_frozen BK611.out 6
  have hns72_0 := NB610_611.out
  have hns72_2 := NB630_611.out
  have hms72_0 := NB611_610.out
  have hms72_2 := NB611_630.out
  have hs73 : w54.cell? ⟨gb611, 7, none⟩ = some (.int .i64 0) := bc_ BK611 7
  have hfs73 := blk_frozen BK611.out 7
  have hns73_0 := NB610_611.out
  have hns73_2 := NB630_611.out
  have hms73_0 := NB611_610.out
  have hms73_2 := NB611_630.out
  have hs74 : w54.cell? ⟨gb611, 8, none⟩ = some (.int .i64 0) := bc_ BK611 8
  have hfs74 := blk_frozen BK611.out 8
  have hns74_0 := NB610_611.out
  have hns74_2 := NB630_611.out
  have hms74_0 := NB611_610.out
  have hms74_2 := NB611_630.out
  have hs75 : w54.cell? ⟨gb611, 9, none⟩ = some (.int .i64 0) := bc_ BK611 9
  have hfs75 := blk_frozen BK611.out 9
  have hns75_0 := NB610_611.out
  have hns75_2 := NB630_611.out
  have hms75_0 := NB611_610.out
  have hms75_2 := NB611_630.out
  refine skip_ (w1 := ?_) ?p_ ?q_ ?_ ?_; (case p_ => rfl); (case q_ => rfl)
  rotate_left
  ·
   go_simp
   rfl
  refine hK.out _ _ (by obtain ⟨s0, s1, s2, s3, s4, s5, s6, s7, s8, s9⟩ := hHeld; (repeat' refine And.intro ?_ ?_) <;> (with_reducible repeat (first | assumption | refine (cell_far (p := ⟨gb611, _, none⟩) NB630_611.out _).trans ?_))) (fun hHeld => ?_)
  clear hK K
  refine done_ z20_15 ?_
  try go_wp2
  refine bodyPost_ret (results_cc rfl _ _ gb610 gb611 31 31 #[.int .i64 t616, .int .i64 t617, .int .i64 t618, .slice Ao51 t619.length co51, .int .i64 t622, .string t623, .string t624, .int .i64 t625, .int .i64 t626, .int .i64 t627] #[.int .i64 t646, .int .i64 t647, .int .i64 t648, .slice Ao68 t649.length co68, .int .i64 t652, .string t653, .string t654, .int .i64 t655, .int .i64 t656, .int .i64 t657] (0, 0) (0, 0) _ _ ?h2 ?h3 Try.underlying31 ?h4 ?h5 ?h6 ?h7 Try.underlying31 ?h9 ?h10) ?h11 ?_
  (case h2 => rfl); (case h3 => exact (by (with_reducible repeat (first | apply bpa10 | apply blk_far (hp := NB610_611.out) | refine blk_drewN ?_ _ | refine blk_drew ?_ | refine blk_alloc ?_ _)); exact BK610.out)); (case h4 => rfl); (case h5 => exact z20_15); (case h6 => rfl); (case h7 => exact (by (with_reducible repeat (first | apply bpa10 | apply blk_far (hp := NB611_610.out) | refine blk_drewN ?_ _ | refine blk_drew ?_ | refine blk_alloc ?_ _)); exact BK611.out)); (case h9 => rfl); (case h10 => exact z20_15); (case h11 => rfl)
  exact ⟨_, _, z20_18, by (with_reducible repeat (first | apply Kd.R_alloc | apply Kd.R_drewN | apply Kd.R_drew)); apply Kd.R_mono; (with_reducible repeat (first | apply Kd.R_far | apply Kd.R_alloc | apply Kd.R_drewN | apply Kd.R_drew)); exact Kd.R_types (Kd.R_types HO621.out BK610.out (by decide)) BK611.out (by decide); all_goals (intro _ hk; first | exact hk.1.1.2 | exact hk.2 | trivial | exact hk.1.2), by (with_reducible repeat (first | apply Kd.R_alloc | apply Kd.R_drewN | apply Kd.R_drew)); apply Kd.R_mono; (with_reducible repeat (first | apply Kd.R_far | apply Kd.R_alloc | apply Kd.R_drewN | apply Kd.R_drew)); exact Kd.R_types (Kd.R_types HO651.out BK610.out (by decide)) BK611.out (by decide); all_goals (intro _ hk; first | exact hk.1.1.2 | exact hk.2 | trivial | exact hk.1.2), z20_7⟩
 subst c5
 rw [if_pos rfl] at H
 replace H := Option.bind_eq_some_iff.mp H
 obtain ⟨⟨t634, t635, t636, t637, t640, t641, t642, t643, t644, t645⟩, A60, H⟩ := H
 (try dsimp only at H)
 have A6 := Aside0.mk A60
 clear A60
 simp only [Option.some.injEq, Prod.mk.injEq] at H
 obtain ⟨rfl, rfl, rfl, rfl, rfl, rfl, rfl, rfl, rfl, rfl, rfl, rfl, rfl, rfl, rfl, rfl, rfl, rfl, rfl, rfl⟩ := H
 go_enter Try.func13, Try.ntmps13
 try go_wp2_with (first | ((with_reducible refine gate_dst (N := 2) rfl ?_); refine box_event ?hg (N := 2) ?hd (cs := #[.int .i64 0, .int .i64 0, .int .i64 0, .slice none 0 0, .int .i64 0, .string (⟨#[]⟩ : ByteArray), .string (⟨#[]⟩ : ByteArray), .int .i64 0, .int .i64 0, .int .i64 0]) (t := 31) ?hr ?_; (case hd => rfl); (case hg => rfl); (case hr => first | (go_simp; done) | (go_simp; rfl)); intro gb610 hg w7 hbox hb; have BK610 := Aside0.mk (hbox); have GW610 := gw_ w z20_8 hg; have GE610 := gw_ w z20_8 hg; replace HB := Aside0.mk (below_step z20_8 hb); clear hb hbox hg) | ((with_reducible refine gate_dst (N := 3) rfl ?_); refine box_event ?hg (N := 3) ?hd (cs := #[.int .i64 0, .int .i64 0, .int .i64 0, .slice none 0 0, .int .i64 0, .string (⟨#[]⟩ : ByteArray), .string (⟨#[]⟩ : ByteArray), .int .i64 0, .int .i64 0, .int .i64 0]) (t := 31) ?hr ?_; (case hd => rfl); (case hg => rfl); (case hr => first | (go_simp; done) | (go_simp; rfl)); intro gb611 hg w8 hbox hb; have BK611 := Aside0.mk (hbox); have GW611 := gw_ w z20_9 hg; have GE611 := gw_ w z20_9 hg; replace HB := Aside0.mk (below_step z20_9 hb); have NB610_611 := nb_ BK610 z20_0 hg; have NB611_610 := nc_ BK610 z20_0 hg; replace BK610 := bb_ BK610 z20_0 hb; clear hb hbox hg) | ((with_reducible refine gate_callee (f := 27) rfl ?_); refine goesL_ (some 7) rfl rfl Try.func27 z20_15 rfl #[.slice A0 l0.length c0] rfl z20_6 ?_; (with_reducible refine (spec_l01New.calls k _ _ l0 t612 t613 t614 w _ ?side1 ?side2 ?side3 A2.out).mono ?_); (case side1 => exact z20_22); (case side2 => exact HR0.out); (case side3 => exact HC0.out); rintro e w9 ⟨g615, rfl, hi, hb, hb2⟩; refine ⟨_, rfl, ?_⟩; replace HB := Aside0.mk (hb); have HI615 := Aside0.mk (hi); have NB615_610 := Aside0.mk (IsS74.ne_blk hi (blk_below (g := gb610) (o := .cells #[.int .i64 0, .int .i64 0, .int .i64 0, .slice none 0 0, .int .i64 0, .string (⟨#[]⟩ : ByteArray), .string (⟨#[]⟩ : ByteArray), .int .i64 0, .int .i64 0, .int .i64 0] 31 (0, 0)) z20_0 hb2) (by decide)); have NB610_615 := Aside0.mk (Ne.symm (IsS74.ne_blk hi (blk_below (g := gb610) (o := .cells #[.int .i64 0, .int .i64 0, .int .i64 0, .slice none 0 0, .int .i64 0, .string (⟨#[]⟩ : ByteArray), .string (⟨#[]⟩ : ByteArray), .int .i64 0, .int .i64 0, .int .i64 0] 31 (0, 0)) z20_0 hb2) (by decide))); replace BK610 := bb_ BK610 z20_0 hb2; have NB615_611 := Aside0.mk (IsS74.ne_blk hi (blk_below (g := gb611) (o := .cells #[.int .i64 0, .int .i64 0, .int .i64 0, .slice none 0 0, .int .i64 0, .string (⟨#[]⟩ : ByteArray), .string (⟨#[]⟩ : ByteArray), .int .i64 0, .int .i64 0, .int .i64 0] 31 (0, 0)) z20_1 hb2) (by decide)); have NB611_615 := Aside0.mk (Ne.symm (IsS74.ne_blk hi (blk_below (g := gb611) (o := .cells #[.int .i64 0, .int .i64 0, .int .i64 0, .slice none 0 0, .int .i64 0, .string (⟨#[]⟩ : ByteArray), .string (⟨#[]⟩ : ByteArray), .int .i64 0, .int .i64 0, .int .i64 0] 31 (0, 0)) z20_1 hb2) (by decide))); replace BK611 := bb_ BK611 z20_1 hb2) | ((with_reducible refine gate_callee (f := 26) rfl ?_); refine goesL_ (some 9) rfl rfl Try.func26 z20_15 rfl #[.pointer (some ⟨g615, 0, none⟩)] rfl z20_6 ?_; (with_reducible refine (spec_l05Any.calls k g615 t612 t613 t614 t616 t617 t618 t619 t622 t623 t624 t625 t626 t627 t628 t629 w _ ?side1 ?side2 A3.out).mono ?_); (case side1 => exact z20_19); (case side2 => exact z20_2); rintro e w10 ⟨v620, rfl, ho0, hi, hb, hk⟩; refine ⟨_, rfl, ?_⟩; replace BK610 := kb_ BK610 hk z20_0 NB610_615; replace BK611 := kb_ BK611 hk z20_1 NB611_615; have HO621 := Aside0.mk (Kd.R_lower ho0 (below_size z20_2)); replace HB := Aside0.mk (hb); replace HI615 := Aside0.mk (hi); (try clear ho0)) | ((with_reducible refine gate_dst (N := 5) rfl ?_); refine box_event ?hg (N := 5) ?hd (cs := #[.int .i64 0, .int .i64 0, .int .i64 0, .slice none 0 0, .int .i64 0, .string (⟨#[]⟩ : ByteArray), .string (⟨#[]⟩ : ByteArray), .int .i64 0, .int .i64 0, .int .i64 0]) (t := 31) ?hr ?_; (case hd => rfl); (case hg => rfl); (case hr => first | (go_simp; done) | (go_simp; rfl)); intro gb630 hg w11 hbox hb; replace HO621 := Aside0.mk (Kd.R_below z20_14 hb); have BK630 := Aside0.mk (hbox); have GW630 := gw_ w z20_2 hg; have GE630 := gw_ w z20_2 hg; replace HB := Aside0.mk (below_step z20_2 hb); have NB610_630 := nb_ BK610 z20_0 hg; have NB630_610 := nc_ BK610 z20_0 hg; replace BK610 := bb_ BK610 z20_0 hb; have NB611_630 := nb_ BK611 z20_1 hg; have NB630_611 := nc_ BK611 z20_1 hg; replace BK611 := bb_ BK611 z20_1 hb; have NB615_630 := Aside0.mk ((by rw [hg]; exact Nat.ne_of_lt (IsS74.lt (show IsS74 w _ g615 t612 t628 t629 from by repeat (first | (with_reducible first | exact HI615.out | apply IsS74.alloc | apply IsS74.drewN | apply IsS74.drew | apply IsS74.set_1 | apply IsS74.set_2 | refine IsS74.far ?_ NB615_610.out _ | refine IsS74.far ?_ NB615_611.out _) | exact HI615.out))) : g615 ≠ gb630)); have NB630_615 := Aside0.mk ((by rw [hg]; exact Nat.ne_of_gt (IsS74.lt (show IsS74 w _ g615 t612 t628 t629 from by repeat (first | (with_reducible first | exact HI615.out | apply IsS74.alloc | apply IsS74.drewN | apply IsS74.drew | apply IsS74.set_1 | apply IsS74.set_2 | refine IsS74.far ?_ NB615_610.out _ | refine IsS74.far ?_ NB615_611.out _) | exact HI615.out))) : gb630 ≠ g615)); replace HI615 := Aside0.mk (IsS74.below z20_19 hb); clear hb hbox hg; have hnb12 := NB630_610.out; have hnc12 := NB610_630.out; have hnb13 := NB630_611.out; have hnc13 := NB611_630.out; have hnb14 := NB630_615.out; have hnc14 := NB615_630.out; have hcz15 := bc10 BK630.out; obtain ⟨Ao16, co16, eo16⟩ := Kd.R_slice HO621.out; subst eo16) | ((with_reducible refine gate_callee (f := 38) rfl ?_); refine goesL_ (some 11) rfl rfl Try.func38 z20_15 rfl #[.pointer (some ⟨g615, 0, none⟩), .int .i64 2] rfl z20_6 ?_; (with_reducible refine (spec_l01Once.calls g615 t612 t628 t629 2 true t632 t633 w _ ?side1 ?side2 A4.out).mono ?_); (case side1 => exact z20_25); (case side2 => exact z20_7); rintro e w17 ⟨rfl, hi, hb, hk⟩; refine ⟨_, rfl, ?_⟩; replace BK610 := kb_ BK610 hk z20_4 NB610_615; replace BK611 := kb_ BK611 hk z20_3 NB611_615; replace HO621 := Aside0.mk (Kd.R_mono (Kd.R_keep (IsS74.apart (show IsS74 w _ g615 t612 t628 t629 from by repeat (first | (with_reducible first | exact HI615.out | apply IsS74.alloc | apply IsS74.drewN | apply IsS74.drew | apply IsS74.set_1 | apply IsS74.set_2 | refine IsS74.far ?_ NB615_610.out _ | refine IsS74.far ?_ NB615_611.out _ | refine IsS74.far ?_ NB615_630.out _) | exact HI615.out)) (by (with_reducible repeat (first | apply Kd.R_alloc | apply Kd.R_drewN | apply Kd.R_drew)); exact (Kd.R_mono (Kd.R_far (p := ⟨gb630, 9, none⟩) (Kd.R_far (p := ⟨gb630, 8, none⟩) (Kd.R_far (p := ⟨gb630, 7, none⟩) (Kd.R_far (p := ⟨gb630, 6, none⟩) (Kd.R_far (p := ⟨gb630, 5, none⟩) (Kd.R_far (p := ⟨gb630, 4, none⟩) (Kd.R_far (p := ⟨gb630, 3, none⟩) (Kd.R_far (p := ⟨gb630, 2, none⟩) (Kd.R_far (p := ⟨gb630, 1, none⟩) (Kd.R_far (p := ⟨gb630, 0, none⟩) (Kd.R_types HO621.out BK630.out (by decide)) (fun _ hk => by first | exact hk.2 | trivial) (.int .i64 t616)) (fun _ hk => by first | exact hk.2 | trivial) (.int .i64 t617)) (fun _ hk => by first | exact hk.2 | trivial) (.int .i64 t618)) (fun _ hk => by first | exact hk.2 | trivial) (.slice Ao16 t619.length co16)) (fun _ hk => by first | exact hk.2 | trivial) (.int .i64 t622)) (fun _ hk => by first | exact hk.2 | trivial) (.string t623)) (fun _ hk => by first | exact hk.2 | trivial) (.string t624)) (fun _ hk => by first | exact hk.2 | trivial) (.int .i64 t625)) (fun _ hk => by first | exact hk.2 | trivial) (.int .i64 t626)) (fun _ hk => by first | exact hk.2 | trivial) (.int .i64 t627)) (fun _ h_ => h_.1))) (by decide)) hk (fun _ h => h.2)) (fun _ h => h.1)); replace BK630 := Aside0.mk (KeepBut.blk hk (g' := gb630) (o := .cells #[.int .i64 t616, .int .i64 t617, .int .i64 t618, .slice Ao16 t619.length co16, .int .i64 t622, .string t623, .string t624, .int .i64 t625, .int .i64 t626, .int .i64 t627] 31 (0, 0)) (by (with_reducible repeat (first | apply bpa10 | refine blk_drewN ?_ _ | refine blk_drew ?_ | refine blk_alloc ?_ _)); exact BK630.out) NB630_615.out (by simp)); replace HB := Aside0.mk (hb); replace HI615 := Aside0.mk (hi)))
 replace HO621 := Aside0.mk (Kd.R_drew HO621.out)
 replace BK610 := Aside0.mk (blk_drew BK610.out)
 replace BK611 := Aside0.mk (blk_drew BK611.out)
 replace BK630 := Aside0.mk (blk_drew BK630.out)
 replace HI615 := Aside0.mk (IsS74.drew HI615.out)
 replace HB := Aside0.mk (below_drew1 HB.out)
 refine start_ (n := 5) (S := fun w' => w'.cell? ⟨gb630, 0, none⟩ = some (.int .i64 t616) ∧ w'.cell? ⟨gb630, 1, none⟩ = some (.int .i64 t617) ∧ w'.cell? ⟨gb630, 2, none⟩ = some (.int .i64 t618) ∧ w'.cell? ⟨gb630, 3, none⟩ = some (.slice Ao16 t619.length co16) ∧ w'.cell? ⟨gb630, 4, none⟩ = some (.int .i64 t622) ∧ w'.cell? ⟨gb630, 5, none⟩ = some (.string t623) ∧ w'.cell? ⟨gb630, 6, none⟩ = some (.string t624) ∧ w'.cell? ⟨gb630, 7, none⟩ = some (.int .i64 t625) ∧ w'.cell? ⟨gb630, 8, none⟩ = some (.int .i64 t626) ∧ w'.cell? ⟨gb630, 9, none⟩ = some (.int .i64 t627)) (ds := []) #[false, false, false, false, false] z20_15 rfl rfl (ln10 BK630) (fun hHeld => ?_)
 generalize w17.drew = w18 at HO621 BK610 BK611 BK630 HI615 HB hHeld ⊢
 refine take_ (i := 0) (N := some 12) (v := ?_) (a' := ?_) #[true, false, false, false, false] rfl rfl z20_15 (fun _ _ _ h => h) (Or.inl ⟨by rfl, ?_⟩) hHeld ?_ ?_
 rotate_left
 ·
  rintro w' ⟨s0, s1, s2, s3, s4, s5, s6, s7, s8, s9⟩
  go_simp
  with_reducible rfl
 rotate_left
 ·
  exact z20_13
 refine take_ (i := 1) (N := some 13) (v := ?_) (a' := ?_) #[true, true, false, false, false] rfl rfl z20_15 (fun _ _ _ h => h) (Or.inl ⟨by rfl, ?_⟩) hHeld ?_ ?_
 rotate_left
 ·
  rintro w' ⟨s0, s1, s2, s3, s4, s5, s6, s7, s8, s9⟩
  go_simp
  with_reducible rfl
 rotate_left
 ·
  exact z20_13
 refine one_ (i := 2) (N := some 14) #[true, true, true, false, false] rfl rfl z20_15 (by decide) (fun K hK => ?_)
 refine goes_ Try.func39 z20_15 rfl #[.agg #[.int .i64 t616, .int .i64 t617, .int .i64 t618, .slice Ao16 t619.length co16, .int .i64 t622, .string t623, .string t624, .int .i64 t625, .int .i64 t626, .int .i64 t627]] (by rfl) rfl rfl z20_6 ?_
 with_reducible refine (spec_l05Copy.calls t616 t617 t618 _ _ t619 t622 t623 t624 t625 t626 t627 t634 t635 t636 t637 t640 t641 t642 t643 t644 t645 _ ?side1 ?side2 A6.out).mono ?_
 (case side1 => repeat (first | exact (Kd.R_reads' HO621.out).2.2 | (with_reducible refine Kd.C_alloc ?_ _) | (with_reducible refine Kd.C_drewN ?_ _) | (with_reducible refine Kd.C_drew ?_)))
 (case side2 => exact (Kd.R_reads' HO621.out).2.1)
 rintro e w19 ⟨v638, rfl, ho0, hb⟩
 refine ⟨_, rfl, ?_⟩
 have HO639 := Aside0.mk (Kd.R_lower (Kd.R_new' ho0 (Kd.R_lt z20_14)) (below_size z20_7))
 replace HO621 := Aside0.mk (Kd.R_elder' z20_14 (Kd.R_base ho0) hb)
 replace BK610 := bb_ BK610 z20_0 hb
 replace BK611 := bb_ BK611 z20_1 hb
 replace BK630 := bb_ BK630 z20_21 hb
 replace HB := Aside0.mk (below_step z20_7 hb)
 replace HI615 := Aside0.mk (IsS74.below (by repeat (first | (with_reducible first | exact HI615.out | apply IsS74.alloc | apply IsS74.drewN | apply IsS74.drew | apply IsS74.set_1 | apply IsS74.set_2 | refine IsS74.far ?_ NB615_610.out _ | refine IsS74.far ?_ NB615_611.out _ | refine IsS74.far ?_ NB615_630.out _) | exact HI615.out)) hb)
 (try clear hb)
 (try clear hb2)
 (try clear hk)
 (try clear hi)
 (try clear ho0)
 obtain ⟨Ao33, co33, eo33⟩ := Kd.R_slice HO639.out
 (first | subst eo33 | (injection eo33 with f1_ f2_ f3_; have f4_ := f1_.symm; have f5_ := f3_.symm; clear f1_ f2_ f3_; subst f4_; subst f5_))
 refine hK.out _ _ (ln10 BK630) (fun hHeld => ?_)
 clear hK K
 refine n_ (N := some 14) ?_
 refine one_ (i := 3) (N := none) #[true, true, true, true, false] rfl rfl z20_15 (by decide) (fun K hK => ?_)
 have hs20 : w19.cell? ⟨gb610, 0, none⟩ = some (.int .i64 0) := bc_ BK610 0
 have hfs20 := blk_frozen BK610.out 0
 have hns20_1 := NB611_610.out
 have hns20_2 := NB630_610.out
 have hms20_1 := NB610_611.out
 have hms20_2 := NB610_630.out
 have hs21 : w19.cell? ⟨gb610, 1, none⟩ = some (.int .i64 0) := bc_ BK610 1
 have hfs21 := blk_frozen BK610.out 1
 have hns21_1 := NB611_610.out
 have hns21_2 := NB630_610.out
 have hms21_1 := NB610_611.out
 have hms21_2 := NB610_630.out
 have hs22 : w19.cell? ⟨gb610, 2, none⟩ = some (.int .i64 0) := bc_ BK610 2
 have hfs22 := blk_frozen BK610.out 2
 have hns22_1 := NB611_610.out
 have hns22_2 := NB630_610.out
 have hms22_1 := NB610_611.out
 have hms22_2 := NB610_630.out
 have hs23 : w19.cell? ⟨gb610, 3, none⟩ = some (.slice none 0 0) := bc_ BK610 3
 have hfs23 := blk_frozen BK610.out 3
 have hns23_1 := NB611_610.out
 have hns23_2 := NB630_610.out
 have hms23_1 := NB610_611.out
 have hms23_2 := NB610_630.out
 have hs24 : w19.cell? ⟨gb610, 4, none⟩ = some (.int .i64 0) := bc_ BK610 4
 have hfs24 := blk_frozen BK610.out 4
 have hns24_1 := NB611_610.out
 have hns24_2 := NB630_610.out
 have hms24_1 := NB610_611.out
 have hms24_2 := NB610_630.out
 have hs25 : w19.cell? ⟨gb610, 5, none⟩ = some (.string (⟨#[]⟩ : ByteArray)) := bc_ BK610 5
 have hfs25 := blk_frozen BK610.out 5
 have hns25_1 := NB611_610.out
 have hns25_2 := NB630_610.out
 have hms25_1 := NB610_611.out
 have hms25_2 := NB610_630.out
 have hs26 : w19.cell? ⟨gb610, 6, none⟩ = some (.string (⟨#[]⟩ : ByteArray)) := bc_ BK610 6
 have hfs26 := blk_frozen BK610.out 6
 have hns26_1 := NB611_610.out
 have hns26_2 := NB630_610.out
 have hms26_1 := NB610_611.out
 have hms26_2 := NB610_630.out
 have hs27 : w19.cell? ⟨gb610, 7, none⟩ = some (.int .i64 0) := bc_ BK610 7
 have hfs27 := blk_frozen BK610.out 7
 have hns27_1 := NB611_610.out
 have hns27_2 := NB630_610.out
 have hms27_1 := NB610_611.out
 have hms27_2 := NB610_630.out
 have hs28 : w19.cell? ⟨gb610, 8, none⟩ = some (.int .i64 0) := bc_ BK610 8
 have hfs28 := blk_frozen BK610.out 8
 have hns28_1 := NB611_610.out
 have hns28_2 := NB630_610.out
 have hms28_1 := NB610_611.out
 have hms28_2 := NB610_630.out
 have hs29 : w19.cell? ⟨gb610, 9, none⟩ = some (.int .i64 0) := bc_ BK610 9
 have hfs29 := blk_frozen BK610.out 9
 have hns29_1 := NB611_610.out
 have hns29_2 := NB630_610.out
 have hms29_1 := NB610_611.out
 have hms29_2 := NB610_630.out
 refine skip_ (w1 := ?_) ?p_ ?q_ ?_ ?_; (case p_ => rfl); (case q_ => rfl)
 rotate_left
 ·
  go_simp
  rfl
 refine hK.out _ _ (by obtain ⟨s0, s1, s2, s3, s4, s5, s6, s7, s8, s9⟩ := hHeld; (repeat' refine And.intro ?_ ?_) <;> (with_reducible repeat (first | assumption | refine (cell_far (p := ⟨gb610, _, none⟩) NB630_610.out _).trans ?_))) (fun hHeld => ?_)
 clear hK K
 refine one_ (i := 4) (N := none) #[true, true, true, true, true] rfl rfl z20_15 (by decide) (fun K hK => ?_)
 have hs30 : w19.cell? ⟨gb611, 0, none⟩ = some (.int .i64 0) := bc_ BK611 0
 have hfs30 := blk_frozen BK611.out 0
 have hns30_0 := NB610_611.out
 have hns30_2 := NB630_611.out
 have hms30_0 := NB611_610.out
 have hms30_2 := NB611_630.out
 have hs31 : w19.cell? ⟨gb611, 1, none⟩ = some (.int .i64 0) := bc_ BK611 1
 have hfs31 := blk_frozen BK611.out 1
 have hns31_0 := NB610_611.out
 have hns31_2 := NB630_611.out
 have hms31_0 := NB611_610.out
 have hms31_2 := NB611_630.out
 have hs32 : w19.cell? ⟨gb611, 2, none⟩ = some (.int .i64 0) := bc_ BK611 2
 have hfs32 := blk_frozen BK611.out 2
 have hns32_0 := NB610_611.out
 have hns32_2 := NB630_611.out
 have hms32_0 := NB611_610.out
 have hms32_2 := NB611_630.out
 have hs34 : w19.cell? ⟨gb611, 3, none⟩ = some (.slice none 0 0) := bc_ BK611 3
 have hfs34 := blk_frozen BK611.out 3
 have hns34_0 := NB610_611.out
 have hns34_2 := NB630_611.out
 have hms34_0 := NB611_610.out
 have hms34_2 := NB611_630.out
 have hs35 : w19.cell? ⟨gb611, 4, none⟩ = some (.int .i64 0) := bc_ BK611 4
 have hfs35 := blk_frozen BK611.out 4
 have hns35_0 := NB610_611.out
 have hns35_2 := NB630_611.out
 have hms35_0 := NB611_610.out
 have hms35_2 := NB611_630.out
 have hs36 : w19.cell? ⟨gb611, 5, none⟩ = some (.string (⟨#[]⟩ : ByteArray)) := bc_ BK611 5
 have hfs36 := blk_frozen BK611.out 5
 have hns36_0 := NB610_611.out
 have hns36_2 := NB630_611.out
 have hms36_0 := NB611_610.out
 have hms36_2 := NB611_630.out
 have hs37 : w19.cell? ⟨gb611, 6, none⟩ = some (.string (⟨#[]⟩ : ByteArray)) := bc_ BK611 6
 have hfs37 := blk_frozen BK611.out 6
 have hns37_0 := NB610_611.out
 have hns37_2 := NB630_611.out
 have hms37_0 := NB611_610.out
 have hms37_2 := NB611_630.out
 have hs38 : w19.cell? ⟨gb611, 7, none⟩ = some (.int .i64 0) := bc_ BK611 7
 have hfs38 := blk_frozen BK611.out 7
 have hns38_0 := NB610_611.out
 have hns38_2 := NB630_611.out
 have hms38_0 := NB611_610.out
 have hms38_2 := NB611_630.out
 have hs39 : w19.cell? ⟨gb611, 8, none⟩ = some (.int .i64 0) := bc_ BK611 8
 have hfs39 := blk_frozen BK611.out 8
 have hns39_0 := NB610_611.out
 have hns39_2 := NB630_611.out
 have hms39_0 := NB611_610.out
 have hms39_2 := NB611_630.out
 have hs40 : w19.cell? ⟨gb611, 9, none⟩ = some (.int .i64 0) := bc_ BK611 9
 have hfs40 := blk_frozen BK611.out 9
 have hns40_0 := NB610_611.out
 have hns40_2 := NB630_611.out
 have hms40_0 := NB611_610.out
 have hms40_2 := NB611_630.out
 refine skip_ (w1 := ?_) ?p_ ?q_ ?_ ?_; (case p_ => rfl); (case q_ => rfl)
 rotate_left
 ·
  go_simp
  rfl
 refine hK.out _ _ (by obtain ⟨s0, s1, s2, s3, s4, s5, s6, s7, s8, s9⟩ := hHeld; (repeat' refine And.intro ?_ ?_) <;> (with_reducible repeat (first | assumption | refine (cell_far (p := ⟨gb611, _, none⟩) NB630_611.out _).trans ?_))) (fun hHeld => ?_)
 clear hK K
 refine done_ z20_15 ?_
 try go_wp2
 refine bodyPost_ret (results_cc rfl _ _ gb610 gb611 31 31 #[.int .i64 t616, .int .i64 t617, .int .i64 t618, .slice Ao16 t619.length co16, .int .i64 t622, .string t623, .string t624, .int .i64 t625, .int .i64 t626, .int .i64 t627] #[.int .i64 t634, .int .i64 t635, .int .i64 t636, .slice Ao33 t637.length co33, .int .i64 t640, .string t641, .string t642, .int .i64 t643, .int .i64 t644, .int .i64 t645] (0, 0) (0, 0) _ _ ?h2 ?h3 Try.underlying31 ?h4 ?h5 ?h6 ?h7 Try.underlying31 ?h9 ?h10) ?h11 ?_
 (case h2 => rfl); (case h3 => exact (by (with_reducible repeat (first | apply bpa10 | apply blk_far (hp := NB610_611.out) | refine blk_drewN ?_ _ | refine blk_drew ?_ | refine blk_alloc ?_ _)); exact BK610.out)); (case h4 => rfl); (case h5 => exact z20_15); (case h6 => rfl); (case h7 => exact (by (with_reducible repeat (first | apply bpa10 | apply blk_far (hp := NB611_610.out) | refine blk_drewN ?_ _ | refine blk_drew ?_ | refine blk_alloc ?_ _)); exact BK611.out)); (case h9 => rfl); (case h10 => exact z20_15); (case h11 => rfl)
 exact ⟨_, _, z20_18, by (with_reducible repeat (first | apply Kd.R_alloc | apply Kd.R_drewN | apply Kd.R_drew)); apply Kd.R_mono; (with_reducible repeat (first | apply Kd.R_far | apply Kd.R_alloc | apply Kd.R_drewN | apply Kd.R_drew)); exact Kd.R_types (Kd.R_types HO621.out BK610.out (by decide)) BK611.out (by decide); all_goals (intro _ hk; first | exact hk.1.1.2 | exact hk.2 | trivial | exact hk.1.2), by (with_reducible repeat (first | apply Kd.R_alloc | apply Kd.R_drewN | apply Kd.R_drew)); apply Kd.R_mono; (with_reducible repeat (first | apply Kd.R_far | apply Kd.R_alloc | apply Kd.R_drewN | apply Kd.R_drew)); exact Kd.R_types (Kd.R_types HO639.out BK610.out (by decide)) BK611.out (by decide); all_goals (intro _ hk; first | exact hk.1.1.2 | exact hk.2 | trivial | exact hk.1.2), z20_7⟩
def spec_DrawLater.f (k : Nat) (l0 : List Int) : Option (Int × Int × Int × List Int × Int × ByteArray × ByteArray × Int × Int × Int × Int × Int × Int × List Int × Int × ByteArray × ByteArray × Int × Int × Int) := (spec_l01New.f k l0).bind fun bt662 => ((spec_l05Any.f k bt662.1 bt662.2.1 bt662.2.2).bind fun bt666 => ((spec_l05Any.f k bt662.1 bt666.2.2.2.2.2.2.2.2.2.2.1 bt666.2.2.2.2.2.2.2.2.2.2.2).bind fun bt681 => (some (bt666.1, bt666.2.1, bt666.2.2.1, bt666.2.2.2.1, bt666.2.2.2.2.1, bt666.2.2.2.2.2.1, bt666.2.2.2.2.2.2.1, bt666.2.2.2.2.2.2.2.1, bt666.2.2.2.2.2.2.2.2.1, bt666.2.2.2.2.2.2.2.2.2.1, bt681.1, bt681.2.1, bt681.2.2.1, bt681.2.2.2.1, bt681.2.2.2.2.1, bt681.2.2.2.2.2.1, bt681.2.2.2.2.2.2.1, bt681.2.2.2.2.2.2.2.1, bt681.2.2.2.2.2.2.2.2.1, bt681.2.2.2.2.2.2.2.2.2.1))))
set_option maxHeartbeats 8000000 in
set_option maxRecDepth 100000 in
theorem spec_DrawLater.calls (k : Nat) (A0 : Option Addr) (c0 : Nat) (l0 : List Int) (r1 : Int) (r2 : Int) (r3 : Int) (r4 : List Int) (r5 : Int) (r6 : ByteArray) (r7 : ByteArray) (r8 : Int) (r9 : Int) (r10 : Int) (r11 : Int) (r12 : Int) (r13 : Int) (r14 : List Int) (r15 : Int) (r16 : ByteArray) (r17 : ByteArray) (r18 : Int) (r19 : Int) (r20 : Int) (w : World) (hr0 : Kd.C (Kd.int .u8) w A0 l0.length l0) (hc0 : l0.length ≤ c0) (h : spec_DrawLater.f k l0 = some (r1, r2, r3, r4, r5, r6, r7, r8, r9, r10, r11, r12, r13, r14, r15, r16, r17, r18, r19, r20)) :
  Calls Try.prog 14 #[.slice A0 l0.length c0] w fun e w' => ∃ v3_ v13_ : Value, e = .returned (.tuple #[.agg #[.int .i64 r1, .int .i64 r2, .int .i64 r3, v3_, .int .i64 r5, .string r6, .string r7, .int .i64 r8, .int .i64 r9, .int .i64 r10], .agg #[.int .i64 r11, .int .i64 r12, .int .i64 r13, v13_, .int .i64 r15, .string r16, .string r17, .int .i64 r18, .int .i64 r19, .int .i64 r20]]) ∧ Kd.R (Kd.int .i64) 3 w' w.heap.size (fun k_ => some k_ ≠ (v13_ : Value).ownBlock) v3_ r4 ∧ Kd.R (Kd.int .i64) 3 w' w.heap.size (fun k_ => some k_ ≠ (v3_ : Value).ownBlock) v13_ r14 ∧ Below w.heap.size w w' := by
 have hu31 := Try.underlying31
 have HR0 := Aside0.mk hr0
 have HC0 := Aside0.mk hc0
 clear hr0 hc0
 have HB := Aside0.mk (Below.refl w.heap.size w)
 have H := h
 unfold spec_DrawLater.f at H
 clear h
 replace H := Option.bind_eq_some_iff.mp H
 obtain ⟨⟨t662, t663, t664⟩, A20, H⟩ := H
 (try dsimp only at H)
 have A2 := Aside0.mk A20
 clear A20
 replace H := Option.bind_eq_some_iff.mp H
 obtain ⟨⟨t666, t667, t668, t669, t672, t673, t674, t675, t676, t677, t678, t679⟩, A30, H⟩ := H
 (try dsimp only at H)
 have A3 := Aside0.mk A30
 clear A30
 replace H := Option.bind_eq_some_iff.mp H
 obtain ⟨⟨t681, t682, t683, t684, t687, t688, t689, t690, t691, t692, t693, t694⟩, A40, H⟩ := H
 (try dsimp only at H)
 have A4 := Aside0.mk A40
 clear A40
 simp only [Option.some.injEq, Prod.mk.injEq] at H
 obtain ⟨rfl, rfl, rfl, rfl, rfl, rfl, rfl, rfl, rfl, rfl, rfl, rfl, rfl, rfl, rfl, rfl, rfl, rfl, rfl, rfl⟩ := H
 go_enter Try.func14, Try.ntmps14
 try go_wp2_with (first | ((with_reducible refine gate_dst (N := 2) rfl ?_); refine box_event ?hg (N := 2) ?hd (cs := #[.int .i64 0, .int .i64 0, .int .i64 0, .slice none 0 0, .int .i64 0, .string (⟨#[]⟩ : ByteArray), .string (⟨#[]⟩ : ByteArray), .int .i64 0, .int .i64 0, .int .i64 0]) (t := 31) ?hr ?_; (case hd => rfl); (case hg => rfl); (case hr => first | (go_simp; done) | (go_simp; rfl)); intro gb660 hg w5 hbox hb; have BK660 := Aside0.mk (hbox); have GW660 := gw_ w z20_8 hg; have GE660 := gw_ w z20_8 hg; replace HB := Aside0.mk (below_step z20_8 hb); clear hb hbox hg) | ((with_reducible refine gate_dst (N := 3) rfl ?_); refine box_event ?hg (N := 3) ?hd (cs := #[.int .i64 0, .int .i64 0, .int .i64 0, .slice none 0 0, .int .i64 0, .string (⟨#[]⟩ : ByteArray), .string (⟨#[]⟩ : ByteArray), .int .i64 0, .int .i64 0, .int .i64 0]) (t := 31) ?hr ?_; (case hd => rfl); (case hg => rfl); (case hr => first | (go_simp; done) | (go_simp; rfl)); intro gb661 hg w6 hbox hb; have BK661 := Aside0.mk (hbox); have GW661 := gw_ w z20_17 hg; have GE661 := gw_ w z20_17 hg; replace HB := Aside0.mk (below_step z20_17 hb); have NB660_661 := nb_ BK660 z20_5 hg; have NB661_660 := nc_ BK660 z20_5 hg; replace BK660 := bb_ BK660 z20_5 hb; clear hb hbox hg) | ((with_reducible refine gate_callee (f := 27) rfl ?_); refine goesL_ (some 7) rfl rfl Try.func27 z20_15 rfl #[.slice A0 l0.length c0] rfl z20_6 ?_; (with_reducible refine (spec_l01New.calls k _ _ l0 t662 t663 t664 w _ ?side1 ?side2 ?side3 A2.out).mono ?_); (case side1 => repeat (first | (with_reducible first | exact HB.out | apply below_alloc | apply pw_below_drewN | apply below_drew1 | refine below_set ?_ GE660.out | refine below_set ?_ GE661.out) | exact HB.out)); (case side2 => exact HR0.out); (case side3 => exact HC0.out); rintro e w7 ⟨g665, rfl, hi, hb, hb2⟩; refine ⟨_, rfl, ?_⟩; replace HB := Aside0.mk (hb); have HI665 := Aside0.mk (hi); have NB665_660 := Aside0.mk (IsS74.ne_blk hi (blk_below (g := gb660) (o := .cells #[.int .i64 0, .int .i64 0, .int .i64 0, .slice none 0 0, .int .i64 0, .string (⟨#[]⟩ : ByteArray), .string (⟨#[]⟩ : ByteArray), .int .i64 0, .int .i64 0, .int .i64 0] 31 (0, 0)) z20_5 hb2) (by decide)); have NB660_665 := Aside0.mk (Ne.symm (IsS74.ne_blk hi (blk_below (g := gb660) (o := .cells #[.int .i64 0, .int .i64 0, .int .i64 0, .slice none 0 0, .int .i64 0, .string (⟨#[]⟩ : ByteArray), .string (⟨#[]⟩ : ByteArray), .int .i64 0, .int .i64 0, .int .i64 0] 31 (0, 0)) z20_5 hb2) (by decide))); replace BK660 := bb_ BK660 z20_5 hb2; have NB665_661 := Aside0.mk (IsS74.ne_blk hi (blk_below (g := gb661) (o := .cells #[.int .i64 0, .int .i64 0, .int .i64 0, .slice none 0 0, .int .i64 0, .string (⟨#[]⟩ : ByteArray), .string (⟨#[]⟩ : ByteArray), .int .i64 0, .int .i64 0, .int .i64 0] 31 (0, 0)) z20_10 hb2) (by decide)); have NB661_665 := Aside0.mk (Ne.symm (IsS74.ne_blk hi (blk_below (g := gb661) (o := .cells #[.int .i64 0, .int .i64 0, .int .i64 0, .slice none 0 0, .int .i64 0, .string (⟨#[]⟩ : ByteArray), .string (⟨#[]⟩ : ByteArray), .int .i64 0, .int .i64 0, .int .i64 0] 31 (0, 0)) z20_10 hb2) (by decide))); replace BK661 := bb_ BK661 z20_10 hb2) | ((with_reducible refine gate_callee (f := 26) rfl ?_); refine goesL_ (some 9) rfl rfl Try.func26 z20_15 rfl #[.pointer (some ⟨g665, 0, none⟩)] rfl z20_6 ?_; (with_reducible refine (spec_l05Any.calls k g665 t662 t663 t664 t666 t667 t668 t669 t672 t673 t674 t675 t676 t677 t678 t679 w _ ?side1 ?side2 A3.out).mono ?_); (case side1 => repeat (first | (with_reducible first | exact HI665.out | apply IsS74.alloc | apply IsS74.drewN | apply IsS74.drew | apply IsS74.set_1 | apply IsS74.set_2 | refine IsS74.far ?_ NB665_660.out _ | refine IsS74.far ?_ NB665_661.out _) | exact HI665.out)); (case side2 => repeat (first | (with_reducible first | exact HB.out | apply below_alloc | apply pw_below_drewN | apply below_drew1 | refine below_set ?_ (IsS74.ge HI665.out) | refine below_set ?_ GE660.out | refine below_set ?_ GE661.out) | exact HB.out)); rintro e w8 ⟨v670, rfl, ho0, hi, hb, hk⟩; refine ⟨_, rfl, ?_⟩; replace BK660 := kb_ BK660 hk z20_5 NB660_665; replace BK661 := kb_ BK661 hk z20_10 NB661_665; have HO671 := Aside0.mk (Kd.R_lower ho0 (below_size z20_11)); replace HB := Aside0.mk (hb); replace HI665 := Aside0.mk (hi); (try clear ho0)) | ((with_reducible refine gate_dst (N := 5) rfl ?_); refine box_event ?hg (N := 5) ?hd (cs := #[.int .i64 0, .int .i64 0, .int .i64 0, .slice none 0 0, .int .i64 0, .string (⟨#[]⟩ : ByteArray), .string (⟨#[]⟩ : ByteArray), .int .i64 0, .int .i64 0, .int .i64 0]) (t := 31) ?hr ?_; (case hd => rfl); (case hg => rfl); (case hr => first | (go_simp; done) | (go_simp; rfl)); intro gb680 hg w9 hbox hb; replace HO671 := Aside0.mk (Kd.R_below z20_20 hb); have BK680 := Aside0.mk (hbox); have GW680 := gw_ w z20_11 hg; have GE680 := gw_ w z20_11 hg; replace HB := Aside0.mk (below_step z20_11 hb); have NB660_680 := nb_ BK660 z20_5 hg; have NB680_660 := nc_ BK660 z20_5 hg; replace BK660 := bb_ BK660 z20_5 hb; have NB661_680 := nb_ BK661 z20_10 hg; have NB680_661 := nc_ BK661 z20_10 hg; replace BK661 := bb_ BK661 z20_10 hb; have NB665_680 := Aside0.mk ((by rw [hg]; exact Nat.ne_of_lt (IsS74.lt (show IsS74 w _ g665 t662 t678 t679 from by repeat (first | (with_reducible first | exact HI665.out | apply IsS74.alloc | apply IsS74.drewN | apply IsS74.drew | apply IsS74.set_1 | apply IsS74.set_2 | refine IsS74.far ?_ NB665_660.out _ | refine IsS74.far ?_ NB665_661.out _) | exact HI665.out))) : g665 ≠ gb680)); have NB680_665 := Aside0.mk ((by rw [hg]; exact Nat.ne_of_gt (IsS74.lt (show IsS74 w _ g665 t662 t678 t679 from by repeat (first | (with_reducible first | exact HI665.out | apply IsS74.alloc | apply IsS74.drewN | apply IsS74.drew | apply IsS74.set_1 | apply IsS74.set_2 | refine IsS74.far ?_ NB665_660.out _ | refine IsS74.far ?_ NB665_661.out _) | exact HI665.out))) : gb680 ≠ g665)); replace HI665 := Aside0.mk (IsS74.below (by repeat (first | (with_reducible first | exact HI665.out | apply IsS74.alloc | apply IsS74.drewN | apply IsS74.drew | apply IsS74.set_1 | apply IsS74.set_2 | refine IsS74.far ?_ NB665_660.out _ | refine IsS74.far ?_ NB665_661.out _) | exact HI665.out)) hb); clear hb hbox hg; have hnb10 := NB680_660.out; have hnc10 := NB660_680.out; have hnb11 := NB680_661.out; have hnc11 := NB661_680.out; have hnb12 := NB680_665.out; have hnc12 := NB665_680.out; have hcz13 := bc10 BK680.out; obtain ⟨Ao14, co14, eo14⟩ := Kd.R_slice HO671.out; subst eo14))
 have n0_ : Aside0 (Kd.R (Kd.int .i64) 3 ((((((((((w9.setCell ⟨gb680, 0, none⟩ (.int .i64 t666)).setCell ⟨gb680, 1, none⟩ (.int .i64 t667)).setCell ⟨gb680, 2, none⟩ (.int .i64 t668)).setCell ⟨gb680, 3, none⟩ (.slice Ao14 t669.length co14)).setCell ⟨gb680, 4, none⟩ (.int .i64 t672)).setCell ⟨gb680, 5, none⟩ (.string t673)).setCell ⟨gb680, 6, none⟩ (.string t674)).setCell ⟨gb680, 7, none⟩ (.int .i64 t675)).setCell ⟨gb680, 8, none⟩ (.int .i64 t676)).setCell ⟨gb680, 9, none⟩ (.int .i64 t677)) w.heap.size (fun _ => True) (.slice Ao14 t669.length co14) t669) := ⟨by (with_reducible repeat (first | apply Kd.R_alloc | apply Kd.R_drewN | apply Kd.R_drew)); apply Kd.R_mono; (with_reducible repeat (first | apply Kd.R_far | apply Kd.R_alloc | apply Kd.R_drewN | apply Kd.R_drew)); exact Kd.R_types HO671.out BK680.out (by decide); all_goals (intro _ hk; first | exact trivial | exact hk.2 | trivial)⟩
 have n1_ : Aside0 (((((((((((w9.setCell ⟨gb680, 0, none⟩ (.int .i64 t666)).setCell ⟨gb680, 1, none⟩ (.int .i64 t667)).setCell ⟨gb680, 2, none⟩ (.int .i64 t668)).setCell ⟨gb680, 3, none⟩ (.slice Ao14 t669.length co14)).setCell ⟨gb680, 4, none⟩ (.int .i64 t672)).setCell ⟨gb680, 5, none⟩ (.string t673)).setCell ⟨gb680, 6, none⟩ (.string t674)).setCell ⟨gb680, 7, none⟩ (.int .i64 t675)).setCell ⟨gb680, 8, none⟩ (.int .i64 t676)).setCell ⟨gb680, 9, none⟩ (.int .i64 t677)).heap[gb660]? = some (.cells #[.int .i64 0, .int .i64 0, .int .i64 0, .slice none 0 0, .int .i64 0, .string (⟨#[]⟩ : ByteArray), .string (⟨#[]⟩ : ByteArray), .int .i64 0, .int .i64 0, .int .i64 0] 31 (0, 0))) := ⟨by (with_reducible repeat (first | apply blk_far (hp := NB660_680.out) | refine blk_drewN ?_ _ | refine blk_drew ?_ | refine blk_alloc ?_ _)); exact BK660.out⟩
 have n2_ : Aside0 (((((((((((w9.setCell ⟨gb680, 0, none⟩ (.int .i64 t666)).setCell ⟨gb680, 1, none⟩ (.int .i64 t667)).setCell ⟨gb680, 2, none⟩ (.int .i64 t668)).setCell ⟨gb680, 3, none⟩ (.slice Ao14 t669.length co14)).setCell ⟨gb680, 4, none⟩ (.int .i64 t672)).setCell ⟨gb680, 5, none⟩ (.string t673)).setCell ⟨gb680, 6, none⟩ (.string t674)).setCell ⟨gb680, 7, none⟩ (.int .i64 t675)).setCell ⟨gb680, 8, none⟩ (.int .i64 t676)).setCell ⟨gb680, 9, none⟩ (.int .i64 t677)).heap[gb661]? = some (.cells #[.int .i64 0, .int .i64 0, .int .i64 0, .slice none 0 0, .int .i64 0, .string (⟨#[]⟩ : ByteArray), .string (⟨#[]⟩ : ByteArray), .int .i64 0, .int .i64 0, .int .i64 0] 31 (0, 0))) := ⟨by (with_reducible repeat (first | apply blk_far (hp := NB661_680.out) | refine blk_drewN ?_ _ | refine blk_drew ?_ | refine blk_alloc ?_ _)); exact BK661.out⟩
 have n3_ : Aside0 (((((((((((w9.setCell ⟨gb680, 0, none⟩ (.int .i64 t666)).setCell ⟨gb680, 1, none⟩ (.int .i64 t667)).setCell ⟨gb680, 2, none⟩ (.int .i64 t668)).setCell ⟨gb680, 3, none⟩ (.slice Ao14 t669.length co14)).setCell ⟨gb680, 4, none⟩ (.int .i64 t672)).setCell ⟨gb680, 5, none⟩ (.string t673)).setCell ⟨gb680, 6, none⟩ (.string t674)).setCell ⟨gb680, 7, none⟩ (.int .i64 t675)).setCell ⟨gb680, 8, none⟩ (.int .i64 t676)).setCell ⟨gb680, 9, none⟩ (.int .i64 t677)).heap[gb680]? = some (.cells #[.int .i64 t666, .int .i64 t667, .int .i64 t668, .slice Ao14 t669.length co14, .int .i64 t672, .string t673, .string t674, .int .i64 t675, .int .i64 t676, .int .i64 t677] 31 (0, 0))) := ⟨by (with_reducible repeat (first | apply bpa10 | refine blk_drewN ?_ _ | refine blk_drew ?_ | refine blk_alloc ?_ _)); exact BK680.out⟩
 have n4_ : Aside0 (IsS74 w ((((((((((w9.setCell ⟨gb680, 0, none⟩ (.int .i64 t666)).setCell ⟨gb680, 1, none⟩ (.int .i64 t667)).setCell ⟨gb680, 2, none⟩ (.int .i64 t668)).setCell ⟨gb680, 3, none⟩ (.slice Ao14 t669.length co14)).setCell ⟨gb680, 4, none⟩ (.int .i64 t672)).setCell ⟨gb680, 5, none⟩ (.string t673)).setCell ⟨gb680, 6, none⟩ (.string t674)).setCell ⟨gb680, 7, none⟩ (.int .i64 t675)).setCell ⟨gb680, 8, none⟩ (.int .i64 t676)).setCell ⟨gb680, 9, none⟩ (.int .i64 t677)) g665 t662 t678 t679) := ⟨by repeat (first | (with_reducible first | exact HI665.out | apply IsS74.alloc | apply IsS74.drewN | apply IsS74.drew | apply IsS74.set_1 | apply IsS74.set_2 | refine IsS74.far ?_ NB665_660.out _ | refine IsS74.far ?_ NB665_661.out _ | refine IsS74.far ?_ NB665_680.out _) | exact HI665.out)⟩
 have n5_ : Aside0 (Below w.heap.size w ((((((((((w9.setCell ⟨gb680, 0, none⟩ (.int .i64 t666)).setCell ⟨gb680, 1, none⟩ (.int .i64 t667)).setCell ⟨gb680, 2, none⟩ (.int .i64 t668)).setCell ⟨gb680, 3, none⟩ (.slice Ao14 t669.length co14)).setCell ⟨gb680, 4, none⟩ (.int .i64 t672)).setCell ⟨gb680, 5, none⟩ (.string t673)).setCell ⟨gb680, 6, none⟩ (.string t674)).setCell ⟨gb680, 7, none⟩ (.int .i64 t675)).setCell ⟨gb680, 8, none⟩ (.int .i64 t676)).setCell ⟨gb680, 9, none⟩ (.int .i64 t677))) := ⟨z20_12⟩
 (try clear HO671)
 (try clear BK660)
 (try clear BK661)
 (try clear BK680)
 (try clear HI665)
 (try clear HB)
 generalize ((((((((((w9.setCell ⟨gb680, 0, none⟩ (.int .i64 t666)).setCell ⟨gb680, 1, none⟩ (.int .i64 t667)).setCell ⟨gb680, 2, none⟩ (.int .i64 t668)).setCell ⟨gb680, 3, none⟩ (.slice Ao14 t669.length co14)).setCell ⟨gb680, 4, none⟩ (.int .i64 t672)).setCell ⟨gb680, 5, none⟩ (.string t673)).setCell ⟨gb680, 6, none⟩ (.string t674)).setCell ⟨gb680, 7, none⟩ (.int .i64 t675)).setCell ⟨gb680, 8, none⟩ (.int .i64 t676)).setCell ⟨gb680, 9, none⟩ (.int .i64 t677)) = w15 at n0_ n1_ n2_ n3_ n4_ n5_ ⊢
 have HO671 := n0_
 have BK660 := n1_
 have BK661 := n2_
 have BK680 := n3_
 have HI665 := n4_
 have HB := n5_
 clear n0_ n1_ n2_ n3_ n4_ n5_
 replace HO671 := Aside0.mk (Kd.R_drew HO671.out)
 replace BK660 := Aside0.mk (blk_drew BK660.out)
 replace BK661 := Aside0.mk (blk_drew BK661.out)
 replace BK680 := Aside0.mk (blk_drew BK680.out)
 replace HI665 := Aside0.mk (IsS74.drew HI665.out)
 replace HB := Aside0.mk (below_drew1 HB.out)
 refine start_ (n := 5) (S := fun w' => w'.cell? ⟨gb680, 0, none⟩ = some (.int .i64 t666) ∧ w'.cell? ⟨gb680, 1, none⟩ = some (.int .i64 t667) ∧ w'.cell? ⟨gb680, 2, none⟩ = some (.int .i64 t668) ∧ w'.cell? ⟨gb680, 3, none⟩ = some (.slice Ao14 t669.length co14) ∧ w'.cell? ⟨gb680, 4, none⟩ = some (.int .i64 t672) ∧ w'.cell? ⟨gb680, 5, none⟩ = some (.string t673) ∧ w'.cell? ⟨gb680, 6, none⟩ = some (.string t674) ∧ w'.cell? ⟨gb680, 7, none⟩ = some (.int .i64 t675) ∧ w'.cell? ⟨gb680, 8, none⟩ = some (.int .i64 t676) ∧ w'.cell? ⟨gb680, 9, none⟩ = some (.int .i64 t677)) (ds := []) #[false, false, false, false, false] z20_15 rfl rfl (ln10 BK680) (fun hHeld => ?_)
 generalize w15.drew = w16 at HO671 BK660 BK661 BK680 HI665 HB hHeld ⊢
 refine pure_ (i := 1) (N := some 11) (v := ?_) (a' := ?_) #[false, true, false, false, false] rfl rfl z20_15 (fun _ _ _ h => h) (Or.inl ⟨by rfl, ?_⟩) ?_ ?_
 rotate_left
 ·
  exact (by intro w'; go_simp; with_reducible rfl)
 rotate_left
 ·
  exact z20_13
 refine take_ (i := 0) (N := some 10) (v := ?_) (a' := ?_) #[true, true, false, false, false] rfl rfl z20_15 (fun _ _ _ h => h) (Or.inl ⟨by rfl, ?_⟩) hHeld ?_ ?_
 rotate_left
 ·
  rintro w' ⟨s0, s1, s2, s3, s4, s5, s6, s7, s8, s9⟩
  go_simp
  with_reducible rfl
 rotate_left
 ·
  exact z20_13
 refine one_ (i := 2) (N := some 12) #[true, true, true, false, false] rfl rfl z20_15 (by decide) (fun K hK => ?_)
 refine goes_ Try.func26 z20_15 rfl #[.pointer (some ⟨g665, 0, none⟩)] (by rfl) rfl rfl z20_6 ?_
 with_reducible refine (spec_l05Any.calls k g665 t662 t678 t679 t681 t682 t683 t684 t687 t688 t689 t690 t691 t692 t693 t694 w _ ?side1 ?side2 A4.out).mono ?_
 (case side1 => repeat (first | (with_reducible first | exact HI665.out | apply IsS74.alloc | apply IsS74.drewN | apply IsS74.drew | apply IsS74.set_1 | apply IsS74.set_2 | refine IsS74.far ?_ NB665_660.out _ | refine IsS74.far ?_ NB665_661.out _ | refine IsS74.far ?_ NB665_680.out _) | exact HI665.out))
 (case side2 => repeat (first | (with_reducible first | exact HB.out | apply below_alloc | apply pw_below_drewN | apply below_drew1 | refine below_set ?_ (IsS74.ge HI665.out) | refine below_set ?_ GE660.out | refine below_set ?_ GE661.out | refine below_set ?_ GE680.out) | exact HB.out))
 rintro e w17 ⟨v685, rfl, ho0, hi, hb, hk⟩
 refine ⟨_, rfl, ?_⟩
 replace BK660 := kb_ BK660 hk z20_5 NB660_665
 replace BK661 := kb_ BK661 hk z20_10 NB661_665
 replace BK680 := kb_ BK680 hk (by (with_reducible repeat (first | refine blk_drewN ?_ _ | refine blk_drew ?_ | refine blk_alloc ?_ _)); exact BK680.out) NB680_665
 have HO686 := Aside0.mk (Kd.R_lower (Kd.R_new' ho0 (Kd.R_lt z20_20)) (below_size z20_12))
 replace HO671 := Aside0.mk (Kd.R_mono (Kd.R_told (Kd.R_oldK (IsS74.apart (show IsS74 w _ g665 t662 t678 t679 from by repeat (first | (with_reducible first | exact HI665.out | apply IsS74.alloc | apply IsS74.drewN | apply IsS74.drew | apply IsS74.set_1 | apply IsS74.set_2 | refine IsS74.far ?_ NB665_660.out _ | refine IsS74.far ?_ NB665_661.out _ | refine IsS74.far ?_ NB665_680.out _) | exact HI665.out)) z20_20 (by decide)) hk) (Kd.R_base ho0)) (fun _ h_ => h_.1))
 replace HB := Aside0.mk (hb)
 replace HI665 := Aside0.mk (hi)
 (try clear hb)
 (try clear hb2)
 (try clear hk)
 (try clear hi)
 (try clear ho0)
 obtain ⟨Ao31, co31, eo31⟩ := Kd.R_slice HO686.out
 (first | subst eo31 | (injection eo31 with f1_ f2_ f3_; have f4_ := f1_.symm; have f5_ := f3_.symm; clear f1_ f2_ f3_; subst f4_; subst f5_))
 refine hK.out _ _ (ln10 BK680) (fun hHeld => ?_)
 clear hK K
 refine n_ (N := some 12) ?_
 refine one_ (i := 3) (N := none) #[true, true, true, true, false] rfl rfl z20_15 (by decide) (fun K hK => ?_)
 have hs18 : w17.cell? ⟨gb660, 0, none⟩ = some (.int .i64 0) := bc_ BK660 0
 have hfs18 := blk_frozen BK660.out 0
 have hns18_1 := NB661_660.out
 have hns18_2 := NB680_660.out
 have hms18_1 := NB660_661.out
 have hms18_2 := NB660_680.out
 have hs19 : w17.cell? ⟨gb660, 1, none⟩ = some (.int .i64 0) := bc_ BK660 1
 have hfs19 := blk_frozen BK660.out 1
 have hns19_1 := NB661_660.out
 have hns19_2 := NB680_660.out
 have hms19_1 := NB660_661.out
 have hms19_2 := NB660_680.out
 have hs20 : w17.cell? ⟨gb660, 2, none⟩ = some (.int .i64 0) := bc_ BK660 2
 have hfs20 := blk_frozen BK660.out 2
 have hns20_1 := NB661_660.out
 have hns20_2 := NB680_660.out
 have hms20_1 := NB660_661.out
 have hms20_2 := NB660_680.out
 have hs21 : w17.cell? ⟨gb660, 3, none⟩ = some (.slice none 0 0) := bc_ BK660 3
 have hfs21 := blk_frozen BK660.out 3
 have hns21_1 := NB661_660.out
 have hns21_2 := NB680_660.out
 have hms21_1 := NB660_661.out
 have hms21_2 := NB660_680.out
 have hs22 : w17.cell? ⟨gb660, 4, none⟩ = some (.int .i64 0) := bc_ BK660 4
 have hfs22 := blk_frozen BK660.out 4
 have hns22_1 := NB661_660.out
 have hns22_2 := NB680_660.out
 have hms22_1 := NB660_661.out
 have hms22_2 := NB660_680.out
 have hs23 : w17.cell? ⟨gb660, 5, none⟩ = some (.string (⟨#[]⟩ : ByteArray)) := bc_ BK660 5
 have hfs23 := blk_frozen BK660.out 5
 have hns23_1 := NB661_660.out
 have hns23_2 := NB680_660.out
 have hms23_1 := NB660_661.out
 have hms23_2 := NB660_680.out
 have hs24 : w17.cell? ⟨gb660, 6, none⟩ = some (.string (⟨#[]⟩ : ByteArray)) := bc_ BK660 6
 have hfs24 := blk_frozen BK660.out 6
 have hns24_1 := NB661_660.out
 have hns24_2 := NB680_660.out
 have hms24_1 := NB660_661.out
 have hms24_2 := NB660_680.out
 have hs25 : w17.cell? ⟨gb660, 7, none⟩ = some (.int .i64 0) := bc_ BK660 7
 have hfs25 := blk_frozen BK660.out 7
 have hns25_1 := NB661_660.out
 have hns25_2 := NB680_660.out
 have hms25_1 := NB660_661.out
 have hms25_2 := NB660_680.out
 have hs26 : w17.cell? ⟨gb660, 8, none⟩ = some (.int .i64 0) := bc_ BK660 8
 have hfs26 := blk_frozen BK660.out 8
 have hns26_1 := NB661_660.out
 have hns26_2 := NB680_660.out
 have hms26_1 := NB660_661.out
 have hms26_2 := NB660_680.out
 have hs27 : w17.cell? ⟨gb660, 9, none⟩ = some (.int .i64 0) := bc_ BK660 9
 have hfs27 := blk_frozen BK660.out 9
 have hns27_1 := NB661_660.out
 have hns27_2 := NB680_660.out
 have hms27_1 := NB660_661.out
 have hms27_2 := NB660_680.out
 refine skip_ (w1 := ?_) ?p_ ?q_ ?_ ?_; (case p_ => rfl); (case q_ => rfl)
 rotate_left
 ·
  go_simp
  rfl
 refine hK.out _ _ (by obtain ⟨s0, s1, s2, s3, s4, s5, s6, s7, s8, s9⟩ := hHeld; (repeat' refine And.intro ?_ ?_) <;> (with_reducible repeat (first | assumption | refine (cell_far (p := ⟨gb660, _, none⟩) NB680_660.out _).trans ?_))) (fun hHeld => ?_)
 clear hK K
 refine one_ (i := 4) (N := none) #[true, true, true, true, true] rfl rfl z20_15 (by decide) (fun K hK => ?_)
 have hs28 : w17.cell? ⟨gb661, 0, none⟩ = some (.int .i64 0) := bc_ BK661 0
 have hfs28 := blk_frozen BK661.out 0
 have hns28_0 := NB660_661.out
 have hns28_2 := NB680_661.out
 have hms28_0 := NB661_660.out
 have hms28_2 := NB661_680.out
 have hs29 : w17.cell? ⟨gb661, 1, none⟩ = some (.int .i64 0) := bc_ BK661 1
 have hfs29 := blk_frozen BK661.out 1
 have hns29_0 := NB660_661.out
 have hns29_2 := NB680_661.out
 have hms29_0 := NB661_660.out
 have hms29_2 := NB661_680.out
 have hs30 : w17.cell? ⟨gb661, 2, none⟩ = some (.int .i64 0) := bc_ BK661 2
 have hfs30 := blk_frozen BK661.out 2
 have hns30_0 := NB660_661.out
 have hns30_2 := NB680_661.out
 have hms30_0 := NB661_660.out
 have hms30_2 := NB661_680.out
 have hs32 : w17.cell? ⟨gb661, 3, none⟩ = some (.slice none 0 0) := bc_ BK661 3
 have hfs32 := blk_frozen BK661.out 3
 have hns32_0 := NB660_661.out
 have hns32_2 := NB680_661.out
 have hms32_0 := NB661_660.out
 have hms32_2 := NB661_680.out
 have hs33 : w17.cell? ⟨gb661, 4, none⟩ = some (.int .i64 0) := bc_ BK661 4
 have hfs33 := blk_frozen BK661.out 4
 have hns33_0 := NB660_661.out
 have hns33_2 := NB680_661.out
 have hms33_0 := NB661_660.out
 have hms33_2 := NB661_680.out
 have hs34 : w17.cell? ⟨gb661, 5, none⟩ = some (.string (⟨#[]⟩ : ByteArray)) := bc_ BK661 5
 have hfs34 := blk_frozen BK661.out 5
 have hns34_0 := NB660_661.out
 have hns34_2 := NB680_661.out
 have hms34_0 := NB661_660.out
 have hms34_2 := NB661_680.out
 have hs35 : w17.cell? ⟨gb661, 6, none⟩ = some (.string (⟨#[]⟩ : ByteArray)) := bc_ BK661 6
 have hfs35 := blk_frozen BK661.out 6
 have hns35_0 := NB660_661.out
 have hns35_2 := NB680_661.out
 have hms35_0 := NB661_660.out
 have hms35_2 := NB661_680.out
 have hs36 : w17.cell? ⟨gb661, 7, none⟩ = some (.int .i64 0) := bc_ BK661 7
 have hfs36 := blk_frozen BK661.out 7
 have hns36_0 := NB660_661.out
 have hns36_2 := NB680_661.out
 have hms36_0 := NB661_660.out
 have hms36_2 := NB661_680.out
 have hs37 : w17.cell? ⟨gb661, 8, none⟩ = some (.int .i64 0) := bc_ BK661 8
 have hfs37 := blk_frozen BK661.out 8
 have hns37_0 := NB660_661.out
 have hns37_2 := NB680_661.out
 have hms37_0 := NB661_660.out
 have hms37_2 := NB661_680.out
 have hs38 : w17.cell? ⟨gb661, 9, none⟩ = some (.int .i64 0) := bc_ BK661 9
 have hfs38 := blk_frozen BK661.out 9
 have hns38_0 := NB660_661.out
 have hns38_2 := NB680_661.out
 have hms38_0 := NB661_660.out
 have hms38_2 := NB661_680.out
 refine skip_ (w1 := ?_) ?p_ ?q_ ?_ ?_; (case p_ => rfl); (case q_ => rfl)
 rotate_left
 ·
  go_simp
  rfl
 refine hK.out _ _ (by obtain ⟨s0, s1, s2, s3, s4, s5, s6, s7, s8, s9⟩ := hHeld; (repeat' refine And.intro ?_ ?_) <;> (with_reducible repeat (first | assumption | refine (cell_far (p := ⟨gb661, _, none⟩) NB680_661.out _).trans ?_))) (fun hHeld => ?_)
 clear hK K
 refine done_ z20_15 ?_
 try go_wp2
 refine bodyPost_ret (results_cc rfl _ _ gb660 gb661 31 31 #[.int .i64 t666, .int .i64 t667, .int .i64 t668, .slice Ao14 t669.length co14, .int .i64 t672, .string t673, .string t674, .int .i64 t675, .int .i64 t676, .int .i64 t677] #[.int .i64 t681, .int .i64 t682, .int .i64 t683, .slice Ao31 t684.length co31, .int .i64 t687, .string t688, .string t689, .int .i64 t690, .int .i64 t691, .int .i64 t692] (0, 0) (0, 0) _ _ ?h2 ?h3 Try.underlying31 ?h4 ?h5 ?h6 ?h7 Try.underlying31 ?h9 ?h10) ?h11 ?_
 (case h2 => rfl); (case h3 => exact (by (with_reducible repeat (first | apply bpa10 | apply blk_far (hp := NB660_661.out) | refine blk_drewN ?_ _ | refine blk_drew ?_ | refine blk_alloc ?_ _)); exact BK660.out)); (case h4 => rfl); (case h5 => exact z20_15); (case h6 => rfl); (case h7 => exact (by (with_reducible repeat (first | apply bpa10 | apply blk_far (hp := NB661_660.out) | refine blk_drewN ?_ _ | refine blk_drew ?_ | refine blk_alloc ?_ _)); exact BK661.out)); (case h9 => rfl); (case h10 => exact z20_15); (case h11 => rfl)
 exact ⟨_, _, z20_18, by (with_reducible repeat (first | apply Kd.R_alloc | apply Kd.R_drewN | apply Kd.R_drew)); apply Kd.R_mono; (with_reducible repeat (first | apply Kd.R_far | apply Kd.R_alloc | apply Kd.R_drewN | apply Kd.R_drew)); exact Kd.R_types (Kd.R_types HO671.out BK660.out (by decide)) BK661.out (by decide); all_goals (intro _ hk; first | exact hk.1.1.2 | exact hk.2 | trivial | exact hk.1.2), by (with_reducible repeat (first | apply Kd.R_alloc | apply Kd.R_drewN | apply Kd.R_drew)); apply Kd.R_mono; (with_reducible repeat (first | apply Kd.R_far | apply Kd.R_alloc | apply Kd.R_drewN | apply Kd.R_drew)); exact Kd.R_types (Kd.R_types HO686.out BK660.out (by decide)) BK661.out (by decide); all_goals (intro _ hk; first | exact hk.1.1.2 | exact hk.2 | trivial | exact hk.1.2), z20_12⟩
def spec_DrawNameOk.f (k : Nat) (l0 : List Int) : Option (ByteArray) := (spec_l01New.f k l0).bind fun bt695 => ((spec_l01Pick.f bt695.1 bt695.2.1 bt695.2.2 (([(⟨#[97]⟩ : ByteArray), (⟨#[]⟩ : ByteArray), (⟨#[97, 98, 99, 100, 101, 102, 103, 104]⟩ : ByteArray), (⟨#[97, 98, 99, 100, 101, 102, 103, 104, 105]⟩ : ByteArray), (⟨#[65]⟩ : ByteArray), (⟨#[97, 49]⟩ : ByteArray)] : List ByteArray))).bind fun bt702 => (some bt702.1))
set_option maxHeartbeats 8000000 in
set_option maxRecDepth 100000 in
theorem spec_DrawNameOk.calls (k : Nat) (A0 : Option Addr) (c0 : Nat) (l0 : List Int) (r : ByteArray) (w : World) (hr0 : Kd.C (Kd.int .u8) w A0 l0.length l0) (hc0 : l0.length ≤ c0) (h : spec_DrawNameOk.f k l0 = some r) :
  Calls Try.prog 15 #[.slice A0 l0.length c0] w fun e w' => e = .returned (.string r) ∧ Below w.heap.size w w' := by
 have HR0 := Aside0.mk hr0
 have HC0 := Aside0.mk hc0
 clear hr0 hc0
 have HB := Aside0.mk (Below.refl w.heap.size w)
 have H := h
 unfold spec_DrawNameOk.f at H
 clear h
 replace H := Option.bind_eq_some_iff.mp H
 obtain ⟨⟨t695, t696, t697⟩, A20, H⟩ := H
 (try dsimp only at H)
 have A2 := Aside0.mk A20
 clear A20
 obtain ⟨y699, hy699⟩ : ∃ y_ : List ByteArray, y_ = (([(⟨#[97]⟩ : ByteArray), (⟨#[]⟩ : ByteArray), (⟨#[97, 98, 99, 100, 101, 102, 103, 104]⟩ : ByteArray), (⟨#[97, 98, 99, 100, 101, 102, 103, 104, 105]⟩ : ByteArray), (⟨#[65]⟩ : ByteArray), (⟨#[97, 49]⟩ : ByteArray)] : List ByteArray)) := ⟨_, rfl⟩
 replace H : ((spec_l01Pick.f t695 t696 t697 y699).bind fun bt702 => (some bt702.1)) = some r := by first | (rw [hy699]; with_reducible exact H) | (have H2_ := (Option.bind_some _ _).symm.trans H; rw [hy699]; with_reducible exact H2_) | (have H2_ := (Option.bind_some _ _).symm.trans H; with_reducible exact H2_) | with_reducible exact H | (rw [hy699]; exact H) | exact H
 have Ny699 := Aside0.mk hy699
 clear hy699
 replace H := Option.bind_eq_some_iff.mp H
 obtain ⟨⟨t702, t703, t704⟩, A30, H⟩ := H
 (try dsimp only at H)
 have A3 := Aside0.mk A30
 clear A30
 obtain rfl := Option.some.inj H
 go_enter Try.func15, Try.ntmps15
 go_wp2_with (first | ((with_reducible refine gate_callee (f := 27) rfl ?_); refine goesL_ (some 5) rfl rfl Try.func27 z20_15 rfl #[.slice A0 l0.length c0] rfl z20_6 ?_; (with_reducible refine (spec_l01New.calls k _ _ l0 t695 t696 t697 w _ ?side1 ?side2 ?side3 A2.out).mono ?_); (case side1 => repeat (first | (with_reducible first | exact HB.out | apply below_alloc | apply pw_below_drewN | apply below_drew1) | exact HB.out)); (case side2 => exact HR0.out); (case side3 => exact HC0.out); rintro e w4 ⟨g698, rfl, hi, hb, hb2⟩; refine ⟨_, rfl, ?_⟩; replace HB := Aside0.mk (hb); have HI698 := Aside0.mk (hi)) | ((with_reducible refine gate_dst (N := 7) rfl ?_); refine Kd.R_lit Kd.string _ 9 ?hg (N := 7) ?hd (xs := ([(⟨#[97]⟩ : ByteArray), (⟨#[]⟩ : ByteArray), (⟨#[97, 98, 99, 100, 101, 102, 103, 104]⟩ : ByteArray), (⟨#[97, 98, 99, 100, 101, 102, 103, 104, 105]⟩ : ByteArray), (⟨#[65]⟩ : ByteArray), (⟨#[97, 49]⟩ : ByteArray)] : List ByteArray)) (inner := [.string (⟨#[97]⟩ : ByteArray), .string (⟨#[]⟩ : ByteArray), .string (⟨#[97, 98, 99, 100, 101, 102, 103, 104]⟩ : ByteArray), .string (⟨#[97, 98, 99, 100, 101, 102, 103, 104, 105]⟩ : ByteArray), .string (⟨#[65]⟩ : ByteArray), .string (⟨#[97, 49]⟩ : ByteArray)]) (ok := fun _ => True) (okp := fun _ => True) ?hr ?hp (fun _ hk => hk) trivial (Below.refl _ _) (Nat.le_refl _) (by simp) ?_; (case hd => rfl); (case hg => rfl); (case hr => first | (go_simp; done) | (go_simp; rfl)); (case hp => exact (Reps.one (show Kd.M Kd.string _ _ _ (⟨#[97]⟩ : ByteArray) [.string (⟨#[97]⟩ : ByteArray)] from rfl) (Reps.one (show Kd.M Kd.string _ _ _ (⟨#[]⟩ : ByteArray) [.string (⟨#[]⟩ : ByteArray)] from rfl) (Reps.one (show Kd.M Kd.string _ _ _ (⟨#[97, 98, 99, 100, 101, 102, 103, 104]⟩ : ByteArray) [.string (⟨#[97, 98, 99, 100, 101, 102, 103, 104]⟩ : ByteArray)] from rfl) (Reps.one (show Kd.M Kd.string _ _ _ (⟨#[97, 98, 99, 100, 101, 102, 103, 104, 105]⟩ : ByteArray) [.string (⟨#[97, 98, 99, 100, 101, 102, 103, 104, 105]⟩ : ByteArray)] from rfl) (Reps.one (show Kd.M Kd.string _ _ _ (⟨#[65]⟩ : ByteArray) [.string (⟨#[65]⟩ : ByteArray)] from rfl) (Reps.one (show Kd.M Kd.string _ _ _ (⟨#[97, 49]⟩ : ByteArray) [.string (⟨#[97, 49]⟩ : ByteArray)] from rfl) (Reps.none _ _)))))))); intro v700 w5 ho6 hb hg_ hnew_; clear hg_ hnew_; (first | rw [← Ny699.out] at ho6 | (simp only [Int.reduceToNat] at ho6; rw [← Ny699.out] at ho6)); have HO701 := Aside0.mk (Kd.R_lower ho6 (below_size z20_16)); replace HB := Aside0.mk (below_step z20_16 hb); replace HI698 := Aside0.mk (IsS74.below (by repeat (first | (with_reducible first | exact HI698.out | apply IsS74.alloc | apply IsS74.drewN | apply IsS74.drew | apply IsS74.set_1 | apply IsS74.set_2) | exact HI698.out)) hb); clear hb ho6; obtain ⟨Ao7, co7, eo7⟩ := Kd.R_slice HO701.out; subst eo7) | ((with_reducible refine gate_callee (f := 40) rfl ?_); refine goesL_ (some 8) rfl rfl Try.func40 z20_15 rfl #[.pointer (some ⟨g698, 0, none⟩), .slice Ao7 y699.length co7] rfl z20_6 ?_; (with_reducible refine (spec_l01Pick.calls g698 t695 t696 t697 _ _ y699 t702 t703 t704 w _ ?side1 ?side2 ?side3 ?side4 ?side5 A3.out).mono ?_); (case side1 => repeat (first | (with_reducible first | exact HI698.out | apply IsS74.alloc | apply IsS74.drewN | apply IsS74.drew | apply IsS74.set_1 | apply IsS74.set_2) | exact HI698.out)); (case side2 => repeat (first | (with_reducible first | exact HB.out | apply below_alloc | apply pw_below_drewN | apply below_drew1 | refine below_set ?_ (IsS74.ge HI698.out)) | exact HB.out)); (case side3 => repeat (first | exact (Kd.R_reads' HO701.out).2.2 | (with_reducible refine Kd.C_alloc ?_ _) | (with_reducible refine Kd.C_drewN ?_ _) | (with_reducible refine Kd.C_drew ?_))); (case side4 => exact (Kd.R_reads' HO701.out).2.1); (case side5 => exact far_slice (IsS74.own_ne HI698.out HO701.out (by decide))); rintro e w8 ⟨rfl, hi, hb, hk⟩; refine ⟨_, rfl, ?_⟩; replace HO701 := Aside0.mk (Kd.R_mono (Kd.R_keep (IsS74.apart (show IsS74 w _ g698 t695 t696 t697 from by repeat (first | (with_reducible first | exact HI698.out | apply IsS74.alloc | apply IsS74.drewN | apply IsS74.drew | apply IsS74.set_1 | apply IsS74.set_2) | exact HI698.out)) (by (with_reducible repeat (first | apply Kd.R_alloc | apply Kd.R_drewN | apply Kd.R_drew)); exact HO701.out) (by decide)) hk (fun _ h => h.2)) (fun _ h => h.1)); replace HB := Aside0.mk (hb); replace HI698 := Aside0.mk (hi)))
 go_ret
 exact ⟨z20_18, z20_16⟩
end Go.Proofs.Ythajpckfodhhpaa.QRA
