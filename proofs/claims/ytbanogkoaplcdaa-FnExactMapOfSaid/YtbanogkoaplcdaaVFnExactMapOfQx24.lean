/- What the functions behind FnExactMapOf compute, and that the program's calls come to just that. Written by a program of this session on the base of the kit's print. No condition. -/
import Derived.Test.YtbanogkoaplcdaaVFnExactMapOfQx0
import Derived.Test.YtbanogkoaplcdaaVFnExactMapOfQx2
import Derived.Test.YtbanogkoaplcdaaVFnExactMapOfQx4
import Derived.Test.YtbanogkoaplcdaaVFnExactMapOfQx10
import Derived.Test.YtbanogkoaplcdaaVFnExactMapOfQx11
import Derived.Test.YtbanogkoaplcdaaVFnExactMapOfQx13
import Derived.Test.YtbanogkoaplcdaaVFnExactMapOfQx23
namespace Go.Proofs.Ytbanogkoaplcdaa.QFnExactMapOf
open Go.RowKit Go.Proofs.YtbanogkoaplcdaaW.PrintWords Go.Proofs.YtbanogkoaplcdaaW.PrintLast Go.Proofs.YtbanogkoaplcdaaW.PrintMore
attribute [local go_sem] max2_int min2_int max_two min_two max_three min_three max_four min_four   -- for this text's walks alone
set_option linter.unusedVariables false
set_option linter.unusedSimpArgs false
theorem z24_43 {P : Prop} (h : P := by first | exact hk_.1.1.1.1.1.1.2 | simp_all) : P := h
theorem z24_42 {P : Prop} (h : P := by first | exact hk_.1.1.1.1.1.1.1.2 | simp_all) : P := h
theorem z24_41 {P : Prop} (h : P := by (with_reducible repeat (first | apply Kd.R_alloc | apply Kd.R_drewN | apply Kd.R_drew)); exact Kd.R_mono HO452.out (fun _ hk => trivial)) : P := h
theorem z24_40 {P : Prop} (h : P := by (with_reducible repeat (first | apply Kd.R_alloc | apply Kd.R_drewN | apply Kd.R_drew)); exact Kd.R_mono HO455.out (fun _ hk => trivial)) : P := h
theorem z24_39 {P : Prop} (h : P := by (with_reducible repeat (first | apply Kd.R_alloc | apply Kd.R_drewN | apply Kd.R_drew)); exact Kd.R_mono HO458.out (fun _ hk => trivial)) : P := h
theorem z24_38 {P : Prop} (h : P := by kernel_rfl) : P := h
theorem z24_37 {P : Prop} (h : P := by (with_reducible repeat (first | apply Kd.R_alloc | apply Kd.R_drewN | apply Kd.R_drew)); exact HO462.out) : P := h
theorem z24_36 {P : Prop} (h : P := by (with_reducible repeat (first | apply Kd.R_alloc | apply Kd.R_drewN | apply Kd.R_drew)); exact Kd.R_mono HO446.out (fun _ hk => ⟨(by first | exact hk.2.2.1 | simp_all), (by first | exact hk.2.1 | simp_all)⟩)) : P := h
theorem z24_35 {P : Prop} (h : P := by (with_reducible repeat (first | apply Kd.R_alloc | apply Kd.R_drewN | apply Kd.R_drew)); exact Kd.R_mono HO449.out (fun _ hk => ⟨(by first | exact hk.1.1.2 | simp_all), (by first | exact hk.1.2 | simp_all)⟩)) : P := h
theorem z24_34 {P : Prop} (h : P := by (with_reducible repeat (first | apply Kd.R_alloc | apply Kd.R_drewN | apply Kd.R_drew)); exact Kd.R_mono HO462.out (fun _ hk => ⟨(by first | exact hk.2.1 | simp_all), (by first | exact hk.2.2.1 | simp_all)⟩)) : P := h
theorem z24_33 {P : Prop} (h : P := by simp only [Act.put, List.setIfInBounds_toArray, List.set_cons_zero, List.set_cons_succ, i64_w, i32_w]; rfl) : P := h
theorem z24_32 {P : Prop} (h : P := by (with_reducible repeat (first | apply Kd.R_alloc | apply Kd.R_drewN | apply Kd.R_drew)); exact HO_460001.out) : P := h
theorem z24_31 {P : Prop} (h : P := by (with_reducible repeat (first | apply Kd.R_alloc | apply Kd.R_drewN | apply Kd.R_drew)); exact HO_460002.out) : P := h
theorem z24_30 {P : Prop} (h : P := by (with_reducible repeat (first | apply Kd.R_alloc | apply Kd.R_drewN | apply Kd.R_drew)); exact HO_460003.out) : P := h
theorem z24_29 {P : Prop} (h : P := by (try simp only [List.map_toArray, List.map_cons, List.map_nil]); first | done | (rw [show t484.length = t460.length from (Kd.R_reads' HO_10.out).1.symm] <;> rfl) | rfl | (simp only [List.length_drop, List.length_take]; rfl)) : P := h
theorem z24_28 {P : Prop} (h : P := by first | rfl | (simp [errW_none, errW_some] <;> rfl) | (simp [*, errW_none, errW_some] <;> rfl)) : P := h
theorem z24_27 {P : Prop} (h : P := by first | exact hk_.1.1.2 | simp_all) : P := h
theorem z24_26 {P : Prop} (h : P := by (with_reducible repeat (first | apply Kd.R_alloc | apply Kd.R_drewN | apply Kd.R_drew)); exact HO_8.out) : P := h
theorem z24_25 {P : Prop} (h : P := by (with_reducible repeat (first | apply Kd.R_alloc | apply Kd.R_drewN | apply Kd.R_drew)); exact HO449.out) : P := h
theorem z24_24 {P : Prop} (h : P := by (with_reducible repeat (first | apply Kd.R_alloc | apply Kd.R_drewN | apply Kd.R_drew)); exact HO452.out) : P := h
theorem z24_23 {P : Prop} (h : P := by (with_reducible repeat (first | apply Kd.R_alloc | apply Kd.R_drewN | apply Kd.R_drew)); exact HO455.out) : P := h
theorem z24_22 {P : Prop} (h : P := by (with_reducible repeat (first | apply Kd.R_alloc | apply Kd.R_drewN | apply Kd.R_drew)); exact HO458.out) : P := h
theorem z24_21 {P : Prop} (h : P := by (with_reducible repeat (first | apply Kd.R_alloc | apply Kd.R_drewN | apply Kd.R_drew)); exact HO_10.out) : P := h
theorem z24_20 {P : Prop} (h : P := by (with_reducible repeat (first | apply Kd.R_alloc | apply Kd.R_drewN | apply Kd.R_drew)); exact HO_460000.out) : P := h
theorem z24_19 {P : Prop} (h : P := by first | exact hk_.1.2 | simp_all) : P := h
theorem z24_18 {P : Prop} (h : P := by first | exact hk_.1.1.1.1.1.2 | simp_all) : P := h
theorem z24_17 {P : Prop} (h : P := by (with_reducible repeat (first | apply Kd.R_alloc | apply Kd.R_drewN | apply Kd.R_drew)); exact HO446.out) : P := h
theorem z24_16 {P : Prop} (h : P := by first | exact hk_.1.1.1.1.2 | simp_all) : P := h
theorem z24_15 {P : Prop} (h : P := by (with_reducible repeat (first | apply Kd.R_alloc | apply Kd.R_drewN | apply Kd.R_drew)); exact HO437.out) : P := h
theorem z24_14 {P : Prop} (h : P := by (with_reducible repeat (first | apply Kd.R_alloc | apply Kd.R_drewN | apply Kd.R_drew)); exact HO440.out) : P := h
theorem z24_13 {P : Prop} (h : P := by (with_reducible repeat (first | apply Kd.R_alloc | apply Kd.R_drewN | apply Kd.R_drew)); exact HO443.out) : P := h
theorem z24_12 {P : Prop} (h : P := by (with_reducible repeat (first | apply Kd.R_alloc | apply Kd.R_drewN | apply Kd.R_drew)); exact (Kd.R_mono (Kd.R_far (p := ⟨gb459, 3, none⟩) (Kd.R_far (p := ⟨gb459, 2, none⟩) (Kd.R_far (p := ⟨gb459, 1, none⟩) (Kd.R_far (p := ⟨gb459, 0, none⟩) (Kd.R_types HO434.out BK459.out (by decide)) (fun _ hk => by first | exact hk.2 | trivial) (.slice Ao37 t447.length co37)) (fun _ hk => by first | exact hk.2 | trivial) (.slice Ao40 t450.length co40)) (fun _ hk => by first | exact hk.2 | trivial) (.slice Ao41 t453.length co41)) (fun _ hk => by first | exact hk.2 | trivial) (.slice Ao42 t456.length co42)) (fun _ h_ => h_.1))) : P := h
theorem z24_11 {P : Prop} (h : P := by (with_reducible repeat (first | apply Kd.R_alloc | apply Kd.R_drewN | apply Kd.R_drew)); exact (Kd.R_mono (Kd.R_far (p := ⟨gb459, 3, none⟩) (Kd.R_far (p := ⟨gb459, 2, none⟩) (Kd.R_far (p := ⟨gb459, 1, none⟩) (Kd.R_far (p := ⟨gb459, 0, none⟩) (Kd.R_types HO446.out BK459.out (by decide)) (fun _ hk => by first | exact hk.2 | trivial) (.slice Ao37 t447.length co37)) (fun _ hk => by first | exact hk.2 | trivial) (.slice Ao40 t450.length co40)) (fun _ hk => by first | exact hk.2 | trivial) (.slice Ao41 t453.length co41)) (fun _ hk => by first | exact hk.2 | trivial) (.slice Ao42 t456.length co42)) (fun _ h_ => h_.1))) : P := h
theorem z24_10 {P : Prop} (h : P := by (with_reducible repeat (first | apply Kd.R_alloc | apply Kd.R_drewN | apply Kd.R_drew)); exact (Kd.R_mono (Kd.R_far (p := ⟨gb459, 3, none⟩) (Kd.R_far (p := ⟨gb459, 2, none⟩) (Kd.R_far (p := ⟨gb459, 1, none⟩) (Kd.R_far (p := ⟨gb459, 0, none⟩) (Kd.R_types HO452.out BK459.out (by decide)) (fun _ hk => by first | exact hk.2 | trivial) (.slice Ao37 t447.length co37)) (fun _ hk => by first | exact hk.2 | trivial) (.slice Ao40 t450.length co40)) (fun _ hk => by first | exact hk.2 | trivial) (.slice Ao41 t453.length co41)) (fun _ hk => by first | exact hk.2 | trivial) (.slice Ao42 t456.length co42)) (fun _ h_ => h_.1))) : P := h
theorem z24_9 {P : Prop} (h : P := by (with_reducible repeat (first | apply Kd.R_alloc | apply Kd.R_drewN | apply Kd.R_drew)); exact (Kd.R_mono (Kd.R_far (p := ⟨gb459, 3, none⟩) (Kd.R_far (p := ⟨gb459, 2, none⟩) (Kd.R_far (p := ⟨gb459, 1, none⟩) (Kd.R_far (p := ⟨gb459, 0, none⟩) (Kd.R_types HO455.out BK459.out (by decide)) (fun _ hk => by first | exact hk.2 | trivial) (.slice Ao37 t447.length co37)) (fun _ hk => by first | exact hk.2 | trivial) (.slice Ao40 t450.length co40)) (fun _ hk => by first | exact hk.2 | trivial) (.slice Ao41 t453.length co41)) (fun _ hk => by first | exact hk.2 | trivial) (.slice Ao42 t456.length co42)) (fun _ h_ => h_.1))) : P := h
theorem z24_8 {P : Prop} (h : P := by (with_reducible repeat (first | apply Kd.R_alloc | apply Kd.R_drewN | apply Kd.R_drew)); exact (Kd.R_mono (Kd.R_far (p := ⟨gb459, 3, none⟩) (Kd.R_far (p := ⟨gb459, 2, none⟩) (Kd.R_far (p := ⟨gb459, 1, none⟩) (Kd.R_far (p := ⟨gb459, 0, none⟩) (Kd.R_types HO458.out BK459.out (by decide)) (fun _ hk => by first | exact hk.2 | trivial) (.slice Ao37 t447.length co37)) (fun _ hk => by first | exact hk.2 | trivial) (.slice Ao40 t450.length co40)) (fun _ hk => by first | exact hk.2 | trivial) (.slice Ao41 t453.length co41)) (fun _ hk => by first | exact hk.2 | trivial) (.slice Ao42 t456.length co42)) (fun _ h_ => h_.1))) : P := h
theorem z24_7 {P : Prop} (h : P := by (with_reducible repeat (first | apply Kd.R_alloc | apply Kd.R_drewN | apply Kd.R_drew)); exact HO434.out) : P := h
theorem z24_6 {P : Prop} (h : P := by (with_reducible repeat (first | refine blk_drewN ?_ _ | refine blk_drew ?_ | refine blk_alloc ?_ _)); exact BK459.out) : P := h
theorem z24_5 {P : Prop} (h : P := by first | rfl | (simp only [List.map_toArray, List.map_cons, List.map_nil]; first | done | rfl)) : P := h
theorem z24_4 {P : Prop} (h : P := by (with_reducible repeat (first | apply Kd.R_alloc | apply Kd.R_drewN | apply Kd.R_drew)); exact (Kd.R_mono (Kd.R_far (p := ⟨gb459, 3, none⟩) (Kd.R_far (p := ⟨gb459, 2, none⟩) (Kd.R_far (p := ⟨gb459, 1, none⟩) (Kd.R_far (p := ⟨gb459, 0, none⟩) (Kd.R_types HO449.out BK459.out (by decide)) (fun _ hk => by first | exact hk.2 | trivial) (.slice Ao37 t447.length co37)) (fun _ hk => by first | exact hk.2 | trivial) (.slice Ao40 t450.length co40)) (fun _ hk => by first | exact hk.2 | trivial) (.slice Ao41 t453.length co41)) (fun _ hk => by first | exact hk.2 | trivial) (.slice Ao42 t456.length co42)) (fun _ h_ => h_.1))) : P := h
theorem z24_3 {P : Prop} (h : P := by repeat (first | (with_reducible first | exact HB.out | apply below_alloc | apply pw_below_drewN | apply below_drew1) | exact HB.out)) : P := h
theorem z24_2 {P : Prop} (h : P := by (with_reducible repeat (first | refine blk_drewN ?_ _ | refine blk_drew ?_ | refine blk_alloc ?_ _)); exact BK430.out) : P := h
theorem z24_1 {P : Prop} (h : P := by repeat (first | (with_reducible first | exact HB.out | apply below_alloc | apply pw_below_drewN | apply below_drew1 | refine below_set ?_ GE430.out) | exact HB.out)) : P := h
theorem z24_0 {P : Prop} (h : P := by repeat (first | (with_reducible first | exact HB.out | apply below_alloc | apply pw_below_drewN | apply below_drew1 | refine below_set ?_ GE430.out | refine below_set ?_ GE459.out) | exact HB.out)) : P := h
def laws_FnExactMapOf.j0 : Nat → ByteArray → ByteArray → List Int → List Int → Bool → List Int → List (S112) → List (S115) → List (S118) → Option (Bool)
  | 0, _, _, _, _, _, _, _, _, _ => none
  | k + 1, x1, x2, x8, x10, x56, x431000, x431001, x431002, x431003 => if x56 = true then (some false) else ((laws_markIntS.f k x10 1).bind fun bt483 => ((laws_heldIntS.f k bt483.2 1).bind fun t485 => (if t485 < 0 then (some false) else (if t485 = bt483.1 then ((laws_toState.f k x431000 x431001 x431002 x431003).bind fun bt486 => ((impl_MapOf.f k bt486.1 bt486.2.1 bt486.2.2.1 bt486.2.2.2 x1 x2).bind fun t498 => ((laws_eqIntS.f k t498 x8).bind fun t501 => (if t501 = true then ((laws_heldIntS.f k bt483.2 1).bind fun t502 => (if t502 < 0 then (some false) else (if t502 = bt483.1 then (some true) else (some false)))) else (some false))))) else (some false)))))
def laws_FnExactMapOf.f (k : Nat) (l0_0 : List Int) (l0_1 : List (S112)) (l0_2 : List (S115)) (l0_3 : List (S118)) (a1 : ByteArray) (a2 : ByteArray) : Option (Bool) := if (a1.size : Int) > 1048576 then (some true) else (if (a2.size : Int) > 1048576 then (some true) else ((laws_szState.f k l0_0 l0_1 l0_2 l0_3 1048576).bind fun t431 => (if t431 < 0 then (some true) else ((laws_toState.f k l0_0 l0_1 l0_2 l0_3).bind fun bt432 => ((spec_MapOf.f k bt432.1 bt432.2.1 bt432.2.2.1 bt432.2.2.2 a1 a2).bind fun t444 => ((laws_toState.f k l0_0 l0_1 l0_2 l0_3).bind fun bt447 => ((impl_MapOf.f k bt447.1 bt447.2.1 bt447.2.2.1 bt447.2.2.2 a1 a2).bind fun t460 => ((laws_eqIntS.f k t460 t444).bind fun t463 => (if t463 = true then ((laws_toState.f k l0_0 l0_1 l0_2 l0_3).bind fun bt464 => ((laws_eqState.f k bt447.1 bt447.2.1 bt447.2.2.1 bt447.2.2.2 bt464.1 bt464.2.1 bt464.2.2.1 bt464.2.2.2).bind fun t476 => (if t476 = true then ((laws_markState.f k bt447.1 bt447.2.1 bt447.2.2.1 bt447.2.2.2 1).bind fun bt477 => (if bt477.1 < 0 then (laws_FnExactMapOf.j0 k a1 a2 t444 t460 true l0_0 l0_1 l0_2 l0_3) else ((laws_eqIntS.f k t460 t444).bind fun t482 => (laws_FnExactMapOf.j0 k a1 a2 t444 t460 (!t482) l0_0 l0_1 l0_2 l0_3)))) else (some false)))) else (some false))))))))))
set_option maxHeartbeats 8000000 in
set_option maxRecDepth 100000 in
theorem laws_FnExactMapOf.calls_true (k : Nat) (A0_0 : Option Addr) (c0_0 : Nat) (l0_0 : List Int) (A0_1 : Option Addr) (c0_1 : Nat) (l0_1 : List (S112)) (A0_2 : Option Addr) (c0_2 : Nat) (l0_2 : List (S115)) (A0_3 : Option Addr) (c0_3 : Nat) (l0_3 : List (S118)) (a1 : ByteArray) (a2 : ByteArray) (w : World) (hr0_0 : Kd.C (Kd.int .i64) w A0_0 l0_0.length l0_0) (hc0_0 : l0_0.length ≤ c0_0) (hr0_1 : Kd.C k112 w A0_1 l0_1.length l0_1) (hc0_1 : l0_1.length ≤ c0_1) (hr0_2 : Kd.C k115 w A0_2 l0_2.length l0_2) (hc0_2 : l0_2.length ≤ c0_2) (hr0_3 : Kd.C k118 w A0_3 l0_3.length l0_3) (hc0_3 : l0_3.length ≤ c0_3) (h : laws_FnExactMapOf.f k l0_0 l0_1 l0_2 l0_3 a1 a2 = some true) :
  Calls Try.prog 8 #[.agg #[.slice A0_0 l0_0.length c0_0, .slice A0_1 l0_1.length c0_1, .slice A0_2 l0_2.length c0_2, .slice A0_3 l0_3.length c0_3], .string a1, .string a2] w fun e w' => e = .returned (.bool true) ∧ Below w.heap.size w w' := by
 have hu27 := Try.underlying27
 have hu36 := Try.underlying36
 have HR0_0 := Aside0.mk hr0_0
 have HC0_0 := Aside0.mk hc0_0
 clear hr0_0 hc0_0
 have HR0_1 := Aside0.mk hr0_1
 have HC0_1 := Aside0.mk hc0_1
 clear hr0_1 hc0_1
 have HR0_2 := Aside0.mk hr0_2
 have HC0_2 := Aside0.mk hc0_2
 clear hr0_2 hc0_2
 have HR0_3 := Aside0.mk hr0_3
 have HC0_3 := Aside0.mk hc0_3
 clear hr0_3 hc0_3
 have HB := Aside0.mk (Below.refl w.heap.size w)
 have H : (if (a1.size : Int) > 1048576 then (some true) else (if (a2.size : Int) > 1048576 then (some true) else ((laws_szState.f k l0_0 l0_1 l0_2 l0_3 1048576).bind fun t431 => (if t431 < 0 then (some true) else ((laws_toState.f k l0_0 l0_1 l0_2 l0_3).bind fun bt432 => ((spec_MapOf.f k bt432.1 bt432.2.1 bt432.2.2.1 bt432.2.2.2 a1 a2).bind fun t444 => ((laws_toState.f k l0_0 l0_1 l0_2 l0_3).bind fun bt447 => ((impl_MapOf.f k bt447.1 bt447.2.1 bt447.2.2.1 bt447.2.2.2 a1 a2).bind fun t460 => ((laws_eqIntS.f k t460 t444).bind fun t463 => (if t463 = true then ((laws_toState.f k l0_0 l0_1 l0_2 l0_3).bind fun bt464 => ((laws_eqState.f k bt447.1 bt447.2.1 bt447.2.2.1 bt447.2.2.2 bt464.1 bt464.2.1 bt464.2.2.1 bt464.2.2.2).bind fun t476 => (if t476 = true then ((laws_markState.f k bt447.1 bt447.2.1 bt447.2.2.1 bt447.2.2.2 1).bind fun bt477 => (if bt477.1 < 0 then (laws_FnExactMapOf.j0 k a1 a2 t444 t460 true l0_0 l0_1 l0_2 l0_3) else ((laws_eqIntS.f k t460 t444).bind fun t482 => (laws_FnExactMapOf.j0 k a1 a2 t444 t460 (!t482) l0_0 l0_1 l0_2 l0_3)))) else (some false)))) else (some false))))))))))) = some true := h
 clear h
 by_cases c4 : (a1.size : Int) > 1048576
 ·
  rw [if_pos c4] at H
  have c4b0 : decide (1048576 < (a1.size : Int)) = true := decide_eq_true c4
  have c4b1 : decide (1048576 < a1.size) = true := decide_eq_true (by omega)
  clear c4
  clear H
  go_enter Try.func8, Try.ntmps8
  go_wp2_with (first | ((with_reducible refine gate_dst (N := 3) rfl ?_); refine box_event ?hg (N := 3) ?hd (cs := #[.slice A0_0 l0_0.length c0_0, .slice A0_1 l0_1.length c0_1, .slice A0_2 l0_2.length c0_2, .slice A0_3 l0_3.length c0_3]) (t := 27) ?hr ?_; (case hd => rfl); (case hg => rfl); (case hr => first | (go_simp; done) | (go_simp; rfl)); intro gb430 hg w5 hbox hb; have n0_ := Aside0.mk (below_step z24_3 hb); have n1_ := Aside0.mk (hbox); have n2_ := Aside0.mk ((by rw [hg]; exact (below_size z24_3) : w.heap.size ≤ gb430)); have n3_ := Aside0.mk ((by rw [hg]; exact (below_size z24_3) : w.heap.size ≤ gb430)); clear HB; have HB := n0_; have BK430 := n1_; have GW430 := n2_; have GE430 := n3_; clear n0_ n1_ n2_ n3_; clear hb hbox hg))
  go_ret
  exact ⟨z24_28, z24_1⟩
 ·
  rw [if_neg c4] at H
  have c4b0 : decide (1048576 < (a1.size : Int)) = false := decide_eq_false c4
  have c4b1 : decide (1048576 < a1.size) = false := decide_eq_false (by omega)
  clear c4
  by_cases c6 : (a2.size : Int) > 1048576
  ·
   rw [if_pos c6] at H
   have c6b0 : decide (1048576 < (a2.size : Int)) = true := decide_eq_true c6
   have c6b1 : decide (1048576 < a2.size) = true := decide_eq_true (by omega)
   clear c6
   clear H
   go_enter Try.func8, Try.ntmps8
   go_wp2_with (first | ((with_reducible refine gate_dst (N := 3) rfl ?_); refine box_event ?hg (N := 3) ?hd (cs := #[.slice A0_0 l0_0.length c0_0, .slice A0_1 l0_1.length c0_1, .slice A0_2 l0_2.length c0_2, .slice A0_3 l0_3.length c0_3]) (t := 27) ?hr ?_; (case hd => rfl); (case hg => rfl); (case hr => first | (go_simp; done) | (go_simp; rfl)); intro gb430 hg w7 hbox hb; have n0_ := Aside0.mk (below_step z24_3 hb); have n1_ := Aside0.mk (hbox); have n2_ := Aside0.mk ((by rw [hg]; exact (below_size z24_3) : w.heap.size ≤ gb430)); have n3_ := Aside0.mk ((by rw [hg]; exact (below_size z24_3) : w.heap.size ≤ gb430)); clear HB; have HB := n0_; have BK430 := n1_; have GW430 := n2_; have GE430 := n3_; clear n0_ n1_ n2_ n3_; clear hb hbox hg))
   go_ret
   exact ⟨z24_28, z24_1⟩
  ·
   rw [if_neg c6] at H
   have c6b0 : decide (1048576 < (a2.size : Int)) = false := decide_eq_false c6
   have c6b1 : decide (1048576 < a2.size) = false := decide_eq_false (by omega)
   clear c6
   replace H := Option.bind_eq_some_iff.mp H
   obtain ⟨t431, A80, H⟩ := H
   (try dsimp only at H)
   have A8 := Aside0.mk A80
   clear A80
   by_cases c9 : t431 < 0
   ·
    rw [if_pos c9] at H
    have c9b0 : decide (t431 < 0) = true := decide_eq_true c9
    clear c9
    clear H
    go_enter Try.func8, Try.ntmps8
    go_wp2_with (first | ((with_reducible refine gate_dst (N := 3) rfl ?_); refine box_event ?hg (N := 3) ?hd (cs := #[.slice A0_0 l0_0.length c0_0, .slice A0_1 l0_1.length c0_1, .slice A0_2 l0_2.length c0_2, .slice A0_3 l0_3.length c0_3]) (t := 27) ?hr ?_; (case hd => rfl); (case hg => rfl); (case hr => first | (go_simp; done) | (go_simp; rfl)); intro gb430 hg w10 hbox hb; have n0_ := Aside0.mk (below_step z24_3 hb); have n1_ := Aside0.mk (hbox); have n2_ := Aside0.mk ((by rw [hg]; exact (below_size z24_3) : w.heap.size ≤ gb430)); have n3_ := Aside0.mk ((by rw [hg]; exact (below_size z24_3) : w.heap.size ≤ gb430)); clear HB; have HB := n0_; have BK430 := n1_; have GW430 := n2_; have GE430 := n3_; clear n0_ n1_ n2_ n3_; clear hb hbox hg; have hcz11_0 : w10.cell? ⟨gb430, 0, none⟩ = some (.slice A0_0 l0_0.length c0_0) := (blk_cell BK430.out 0).trans rfl; have hcz11_1 : w10.cell? ⟨gb430, 1, none⟩ = some (.slice A0_1 l0_1.length c0_1) := (blk_cell BK430.out 1).trans rfl; have hcz11_2 : w10.cell? ⟨gb430, 2, none⟩ = some (.slice A0_2 l0_2.length c0_2) := (blk_cell BK430.out 2).trans rfl; have hcz11_3 : w10.cell? ⟨gb430, 3, none⟩ = some (.slice A0_3 l0_3.length c0_3) := (blk_cell BK430.out 3).trans rfl; have hfz11_0 := blk_frozen BK430.out 0; have hfz11_1 := blk_frozen BK430.out 1; have hfz11_2 := blk_frozen BK430.out 2; have hfz11_3 := blk_frozen BK430.out 3) | ((with_reducible refine gate_callee (f := 9) rfl ?_); refine goesL_ (some 23) rfl rfl Try.func9 z24_38 rfl #[.agg #[.slice A0_0 l0_0.length c0_0, .slice A0_1 l0_1.length c0_1, .slice A0_2 l0_2.length c0_2, .slice A0_3 l0_3.length c0_3], .int .i64 1048576] rfl z24_5 ?_; (with_reducible refine (laws_szState.calls k _ _ l0_0 _ _ l0_1 _ _ l0_2 _ _ l0_3 1048576 t431 _ ?side1 ?side2 ?side3 ?side4 ?side5 ?side6 ?side7 ?side8 A8.out).mono ?_); (case side1 => repeat (first | exact (Kd.C_below HR0_0.out HB.out) | (with_reducible refine Kd.C_alloc ?_ _) | (with_reducible refine Kd.C_drewN ?_ _) | (with_reducible refine Kd.C_drew ?_))); (case side2 => exact HC0_0.out); (case side3 => repeat (first | exact (Kd.C_below HR0_1.out HB.out) | (with_reducible refine Kd.C_alloc ?_ _) | (with_reducible refine Kd.C_drewN ?_ _) | (with_reducible refine Kd.C_drew ?_))); (case side4 => exact HC0_1.out); (case side5 => repeat (first | exact (Kd.C_below HR0_2.out HB.out) | (with_reducible refine Kd.C_alloc ?_ _) | (with_reducible refine Kd.C_drewN ?_ _) | (with_reducible refine Kd.C_drew ?_))); (case side6 => exact HC0_2.out); (case side7 => repeat (first | exact (Kd.C_below HR0_3.out HB.out) | (with_reducible refine Kd.C_alloc ?_ _) | (with_reducible refine Kd.C_drewN ?_ _) | (with_reducible refine Kd.C_drew ?_))); (case side8 => exact HC0_3.out); rintro e w12 ⟨rfl, hb⟩; refine ⟨_, rfl, ?_⟩; have n0_ := Aside0.mk (blk_below (g := gb430) (o := .cells #[.slice A0_0 l0_0.length c0_0, .slice A0_1 l0_1.length c0_1, .slice A0_2 l0_2.length c0_2, .slice A0_3 l0_3.length c0_3] 27 (0, 0)) z24_2 hb); have n1_ := Aside0.mk (below_step z24_1 hb); clear BK430; clear HB; have BK430 := n0_; have HB := n1_; clear n0_ n1_))
    go_ret
    exact ⟨z24_28, z24_1⟩
   ·
    rw [if_neg c9] at H
    have c9b0 : decide (t431 < 0) = false := decide_eq_false c9
    clear c9
    replace H := Option.bind_eq_some_iff.mp H
    obtain ⟨⟨t432, t435, t438, t441⟩, A130, H⟩ := H
    (try dsimp only at H)
    have A13 := Aside0.mk A130
    clear A130
    replace H := Option.bind_eq_some_iff.mp H
    obtain ⟨t444, A140, H⟩ := H
    (try dsimp only at H)
    have A14 := Aside0.mk A140
    clear A140
    replace H := Option.bind_eq_some_iff.mp H
    obtain ⟨⟨t447, t450, t453, t456⟩, A150, H⟩ := H
    (try dsimp only at H)
    have A15 := Aside0.mk A150
    clear A150
    replace H := Option.bind_eq_some_iff.mp H
    obtain ⟨t460, A160, H⟩ := H
    (try dsimp only at H)
    have A16 := Aside0.mk A160
    clear A160
    replace H := Option.bind_eq_some_iff.mp H
    obtain ⟨t463, A170, H⟩ := H
    (try dsimp only at H)
    have A17 := Aside0.mk A170
    clear A170
    by_cases c18 : t463 = true
    ·
     subst c18
     rw [if_pos rfl] at H
     replace H := Option.bind_eq_some_iff.mp H
     obtain ⟨⟨t464, t467, t470, t473⟩, A190, H⟩ := H
     (try dsimp only at H)
     have A19 := Aside0.mk A190
     clear A190
     replace H := Option.bind_eq_some_iff.mp H
     obtain ⟨t476, A200, H⟩ := H
     (try dsimp only at H)
     have A20 := Aside0.mk A200
     clear A200
     by_cases c21 : t476 = true
     ·
      subst c21
      rw [if_pos rfl] at H
      replace H := Option.bind_eq_some_iff.mp H
      obtain ⟨⟨t477, t478, t479, t480, t481⟩, A220, H⟩ := H
      (try dsimp only at H)
      have A22 := Aside0.mk A220
      clear A220
      have HC23 := Aside0.mk H
      clear H
      go_enter Try.func8, Try.ntmps8
      try go_wp2_with (first | ((with_reducible refine gate_dst (N := 3) rfl ?_); refine box_event ?hg (N := 3) ?hd (cs := #[.slice A0_0 l0_0.length c0_0, .slice A0_1 l0_1.length c0_1, .slice A0_2 l0_2.length c0_2, .slice A0_3 l0_3.length c0_3]) (t := 27) ?hr ?_; (case hd => rfl); (case hg => rfl); (case hr => first | (go_simp; done) | (go_simp; rfl)); intro gb430 hg w24 hbox hb; have n0_ := Aside0.mk (below_step z24_3 hb); have n1_ := Aside0.mk (hbox); have n2_ := Aside0.mk ((by rw [hg]; exact (below_size z24_3) : w.heap.size ≤ gb430)); have n3_ := Aside0.mk ((by rw [hg]; exact (below_size z24_3) : w.heap.size ≤ gb430)); clear HB; have HB := n0_; have BK430 := n1_; have GW430 := n2_; have GE430 := n3_; clear n0_ n1_ n2_ n3_; clear hb hbox hg; have hcz25_0 : w24.cell? ⟨gb430, 0, none⟩ = some (.slice A0_0 l0_0.length c0_0) := (blk_cell BK430.out 0).trans rfl; have hcz25_1 : w24.cell? ⟨gb430, 1, none⟩ = some (.slice A0_1 l0_1.length c0_1) := (blk_cell BK430.out 1).trans rfl; have hcz25_2 : w24.cell? ⟨gb430, 2, none⟩ = some (.slice A0_2 l0_2.length c0_2) := (blk_cell BK430.out 2).trans rfl; have hcz25_3 : w24.cell? ⟨gb430, 3, none⟩ = some (.slice A0_3 l0_3.length c0_3) := (blk_cell BK430.out 3).trans rfl; have hfz25_0 := blk_frozen BK430.out 0; have hfz25_1 := blk_frozen BK430.out 1; have hfz25_2 := blk_frozen BK430.out 2; have hfz25_3 := blk_frozen BK430.out 3) | ((with_reducible refine gate_callee (f := 9) rfl ?_); refine goesL_ (some 23) rfl rfl Try.func9 z24_38 rfl #[.agg #[.slice A0_0 l0_0.length c0_0, .slice A0_1 l0_1.length c0_1, .slice A0_2 l0_2.length c0_2, .slice A0_3 l0_3.length c0_3], .int .i64 1048576] rfl z24_5 ?_; (with_reducible refine (laws_szState.calls k _ _ l0_0 _ _ l0_1 _ _ l0_2 _ _ l0_3 1048576 t431 _ ?side1 ?side2 ?side3 ?side4 ?side5 ?side6 ?side7 ?side8 A8.out).mono ?_); (case side1 => repeat (first | exact (Kd.C_below HR0_0.out HB.out) | (with_reducible refine Kd.C_alloc ?_ _) | (with_reducible refine Kd.C_drewN ?_ _) | (with_reducible refine Kd.C_drew ?_))); (case side2 => exact HC0_0.out); (case side3 => repeat (first | exact (Kd.C_below HR0_1.out HB.out) | (with_reducible refine Kd.C_alloc ?_ _) | (with_reducible refine Kd.C_drewN ?_ _) | (with_reducible refine Kd.C_drew ?_))); (case side4 => exact HC0_1.out); (case side5 => repeat (first | exact (Kd.C_below HR0_2.out HB.out) | (with_reducible refine Kd.C_alloc ?_ _) | (with_reducible refine Kd.C_drewN ?_ _) | (with_reducible refine Kd.C_drew ?_))); (case side6 => exact HC0_2.out); (case side7 => repeat (first | exact (Kd.C_below HR0_3.out HB.out) | (with_reducible refine Kd.C_alloc ?_ _) | (with_reducible refine Kd.C_drewN ?_ _) | (with_reducible refine Kd.C_drew ?_))); (case side8 => exact HC0_3.out); rintro e w26 ⟨rfl, hb⟩; refine ⟨_, rfl, ?_⟩; have n0_ := Aside0.mk (blk_below (g := gb430) (o := .cells #[.slice A0_0 l0_0.length c0_0, .slice A0_1 l0_1.length c0_1, .slice A0_2 l0_2.length c0_2, .slice A0_3 l0_3.length c0_3] 27 (0, 0)) z24_2 hb); have n1_ := Aside0.mk (below_step z24_1 hb); clear BK430; clear HB; have BK430 := n0_; have HB := n1_; clear n0_ n1_; have hcz27_0 : w26.cell? ⟨gb430, 0, none⟩ = some (.slice A0_0 l0_0.length c0_0) := (blk_cell BK430.out 0).trans rfl; have hcz27_1 : w26.cell? ⟨gb430, 1, none⟩ = some (.slice A0_1 l0_1.length c0_1) := (blk_cell BK430.out 1).trans rfl; have hcz27_2 : w26.cell? ⟨gb430, 2, none⟩ = some (.slice A0_2 l0_2.length c0_2) := (blk_cell BK430.out 2).trans rfl; have hcz27_3 : w26.cell? ⟨gb430, 3, none⟩ = some (.slice A0_3 l0_3.length c0_3) := (blk_cell BK430.out 3).trans rfl; have hfz27_0 := blk_frozen BK430.out 0; have hfz27_1 := blk_frozen BK430.out 1; have hfz27_2 := blk_frozen BK430.out 2; have hfz27_3 := blk_frozen BK430.out 3) | ((with_reducible refine gate_callee (f := 11) rfl ?_); refine goesL_ (some 27) rfl rfl Try.func11 z24_38 rfl #[.agg #[.slice A0_0 l0_0.length c0_0, .slice A0_1 l0_1.length c0_1, .slice A0_2 l0_2.length c0_2, .slice A0_3 l0_3.length c0_3]] rfl z24_5 ?_; (with_reducible refine (laws_toState.calls k _ _ l0_0 _ _ l0_1 _ _ l0_2 _ _ l0_3 t432 t435 t438 t441 _ ?side1 ?side2 ?side3 ?side4 ?side5 ?side6 ?side7 ?side8 A13.out).mono ?_); (case side1 => repeat (first | exact (Kd.C_below HR0_0.out HB.out) | (with_reducible refine Kd.C_alloc ?_ _) | (with_reducible refine Kd.C_drewN ?_ _) | (with_reducible refine Kd.C_drew ?_))); (case side2 => exact HC0_0.out); (case side3 => repeat (first | exact (Kd.C_below HR0_1.out HB.out) | (with_reducible refine Kd.C_alloc ?_ _) | (with_reducible refine Kd.C_drewN ?_ _) | (with_reducible refine Kd.C_drew ?_))); (case side4 => exact HC0_1.out); (case side5 => repeat (first | exact (Kd.C_below HR0_2.out HB.out) | (with_reducible refine Kd.C_alloc ?_ _) | (with_reducible refine Kd.C_drewN ?_ _) | (with_reducible refine Kd.C_drew ?_))); (case side6 => exact HC0_2.out); (case side7 => repeat (first | exact (Kd.C_below HR0_3.out HB.out) | (with_reducible refine Kd.C_alloc ?_ _) | (with_reducible refine Kd.C_drewN ?_ _) | (with_reducible refine Kd.C_drew ?_))); (case side8 => exact HC0_3.out); rintro e w28 ⟨v433, v436, v439, v442, rfl, ho0, ho1, ho2, ho3, hb⟩; refine ⟨_, rfl, ?_⟩; have n0_ := Aside0.mk (Kd.R_lower ho0 (below_size z24_1)); have n1_ := Aside0.mk (Kd.R_lower ho1 (below_size z24_1)); have n2_ := Aside0.mk (Kd.R_lower ho2 (below_size z24_1)); have n3_ := Aside0.mk (Kd.R_lower ho3 (below_size z24_1)); have n4_ := Aside0.mk (blk_below (g := gb430) (o := .cells #[.slice A0_0 l0_0.length c0_0, .slice A0_1 l0_1.length c0_1, .slice A0_2 l0_2.length c0_2, .slice A0_3 l0_3.length c0_3] 27 (0, 0)) z24_2 hb); have n5_ := Aside0.mk (below_step z24_1 hb); clear BK430; clear HB; have HO434 := n0_; have HO437 := n1_; have HO440 := n2_; have HO443 := n3_; have BK430 := n4_; have HB := n5_; clear n0_ n1_ n2_ n3_ n4_ n5_; (try clear ho0); (try clear ho1); (try clear ho2); (try clear ho3); obtain ⟨Ao29, co29, eo29⟩ := Kd.R_slice HO434.out; subst eo29; obtain ⟨Ao30, co30, eo30⟩ := Kd.R_slice HO437.out; subst eo30; obtain ⟨Ao31, co31, eo31⟩ := Kd.R_slice HO440.out; subst eo31; obtain ⟨Ao32, co32, eo32⟩ := Kd.R_slice HO443.out; subst eo32) | ((with_reducible refine gate_callee (f := 33) rfl ?_); refine goesL_ (some 30) rfl rfl Try.func33 z24_38 rfl #[.agg #[.slice Ao29 t432.length co29, .slice Ao30 t435.length co30, .slice Ao31 t438.length co31, .slice Ao32 t441.length co32], .string a1, .string a2] rfl z24_5 ?_; (with_reducible refine (spec_MapOf.calls k _ _ t432 _ _ t435 _ _ t438 _ _ t441 a1 a2 t444 _ ?side1 ?side2 ?side3 ?side4 ?side5 ?side6 ?side7 ?side8 A14.out).mono ?_); (case side1 => repeat (first | exact (Kd.R_reads' HO434.out).2.2 | (with_reducible refine Kd.C_alloc ?_ _) | (with_reducible refine Kd.C_drewN ?_ _) | (with_reducible refine Kd.C_drew ?_))); (case side2 => exact (Kd.R_reads' HO434.out).2.1); (case side3 => repeat (first | exact (Kd.R_reads' HO437.out).2.2 | (with_reducible refine Kd.C_alloc ?_ _) | (with_reducible refine Kd.C_drewN ?_ _) | (with_reducible refine Kd.C_drew ?_))); (case side4 => exact (Kd.R_reads' HO437.out).2.1); (case side5 => repeat (first | exact (Kd.R_reads' HO440.out).2.2 | (with_reducible refine Kd.C_alloc ?_ _) | (with_reducible refine Kd.C_drewN ?_ _) | (with_reducible refine Kd.C_drew ?_))); (case side6 => exact (Kd.R_reads' HO440.out).2.1); (case side7 => repeat (first | exact (Kd.R_reads' HO443.out).2.2 | (with_reducible refine Kd.C_alloc ?_ _) | (with_reducible refine Kd.C_drewN ?_ _) | (with_reducible refine Kd.C_drew ?_))); (case side8 => exact (Kd.R_reads' HO443.out).2.1); rintro e w33 ⟨v445, rfl, ho0, hb⟩; refine ⟨_, rfl, ?_⟩; have n0_ := Aside0.mk (Kd.R_elder' z24_7 (Kd.R_base ho0) hb); have n1_ := Aside0.mk (Kd.R_below z24_15 hb); have n2_ := Aside0.mk (Kd.R_below z24_14 hb); have n3_ := Aside0.mk (Kd.R_below z24_13 hb); have n4_ := Aside0.mk (Kd.R_lower (Kd.R_new' ho0 (Kd.R_lt z24_7)) (below_size z24_1)); have n5_ := Aside0.mk (blk_below (g := gb430) (o := .cells #[.slice A0_0 l0_0.length c0_0, .slice A0_1 l0_1.length c0_1, .slice A0_2 l0_2.length c0_2, .slice A0_3 l0_3.length c0_3] 27 (0, 0)) z24_2 hb); have n6_ := Aside0.mk (below_step z24_1 hb); clear HO434; clear HO437; clear HO440; clear HO443; clear BK430; clear HB; have HO434 := n0_; have HO437 := n1_; have HO440 := n2_; have HO443 := n3_; have HO446 := n4_; have BK430 := n5_; have HB := n6_; clear n0_ n1_ n2_ n3_ n4_ n5_ n6_; (try clear ho0); have hcz34_0 : w33.cell? ⟨gb430, 0, none⟩ = some (.slice A0_0 l0_0.length c0_0) := (blk_cell BK430.out 0).trans rfl; have hcz34_1 : w33.cell? ⟨gb430, 1, none⟩ = some (.slice A0_1 l0_1.length c0_1) := (blk_cell BK430.out 1).trans rfl; have hcz34_2 : w33.cell? ⟨gb430, 2, none⟩ = some (.slice A0_2 l0_2.length c0_2) := (blk_cell BK430.out 2).trans rfl; have hcz34_3 : w33.cell? ⟨gb430, 3, none⟩ = some (.slice A0_3 l0_3.length c0_3) := (blk_cell BK430.out 3).trans rfl; have hfz34_0 := blk_frozen BK430.out 0; have hfz34_1 := blk_frozen BK430.out 1; have hfz34_2 := blk_frozen BK430.out 2; have hfz34_3 := blk_frozen BK430.out 3) | ((with_reducible refine gate_callee (f := 11) rfl ?_); refine goesL_ (some 32) rfl rfl Try.func11 z24_38 rfl #[.agg #[.slice A0_0 l0_0.length c0_0, .slice A0_1 l0_1.length c0_1, .slice A0_2 l0_2.length c0_2, .slice A0_3 l0_3.length c0_3]] rfl z24_5 ?_; (with_reducible refine (laws_toState.calls k _ _ l0_0 _ _ l0_1 _ _ l0_2 _ _ l0_3 t447 t450 t453 t456 _ ?side1 ?side2 ?side3 ?side4 ?side5 ?side6 ?side7 ?side8 A15.out).mono ?_); (case side1 => repeat (first | exact (Kd.C_below HR0_0.out HB.out) | (with_reducible refine Kd.C_alloc ?_ _) | (with_reducible refine Kd.C_drewN ?_ _) | (with_reducible refine Kd.C_drew ?_))); (case side2 => exact HC0_0.out); (case side3 => repeat (first | exact (Kd.C_below HR0_1.out HB.out) | (with_reducible refine Kd.C_alloc ?_ _) | (with_reducible refine Kd.C_drewN ?_ _) | (with_reducible refine Kd.C_drew ?_))); (case side4 => exact HC0_1.out); (case side5 => repeat (first | exact (Kd.C_below HR0_2.out HB.out) | (with_reducible refine Kd.C_alloc ?_ _) | (with_reducible refine Kd.C_drewN ?_ _) | (with_reducible refine Kd.C_drew ?_))); (case side6 => exact HC0_2.out); (case side7 => repeat (first | exact (Kd.C_below HR0_3.out HB.out) | (with_reducible refine Kd.C_alloc ?_ _) | (with_reducible refine Kd.C_drewN ?_ _) | (with_reducible refine Kd.C_drew ?_))); (case side8 => exact HC0_3.out); rintro e w35 ⟨v448, v451, v454, v457, rfl, ho0, ho1, ho2, ho3, hb⟩; refine ⟨_, rfl, ?_⟩; have n0_ := Aside0.mk (Kd.R_elder' z24_7 (Kd.R_base ho0) hb); have n1_ := Aside0.mk (Kd.R_elder' z24_15 (Kd.R_base ho1) hb); have n2_ := Aside0.mk (Kd.R_elder' z24_14 (Kd.R_base ho2) hb); have n3_ := Aside0.mk (Kd.R_elder' z24_13 (Kd.R_base ho3) hb); have n4_ := Aside0.mk (Kd.R_elder' z24_17 (Kd.R_base ho0) hb); have n5_ := Aside0.mk (Kd.R_lower (Kd.R_new' (Kd.R_new' ho0 (Kd.R_lt z24_7)) (Kd.R_lt z24_17)) (below_size z24_1)); have n6_ := Aside0.mk (Kd.R_lower (Kd.R_new' ho1 (Kd.R_lt z24_15)) (below_size z24_1)); have n7_ := Aside0.mk (Kd.R_lower (Kd.R_new' ho2 (Kd.R_lt z24_14)) (below_size z24_1)); have n8_ := Aside0.mk (Kd.R_lower (Kd.R_new' ho3 (Kd.R_lt z24_13)) (below_size z24_1)); have n9_ := Aside0.mk (blk_below (g := gb430) (o := .cells #[.slice A0_0 l0_0.length c0_0, .slice A0_1 l0_1.length c0_1, .slice A0_2 l0_2.length c0_2, .slice A0_3 l0_3.length c0_3] 27 (0, 0)) z24_2 hb); have n10_ := Aside0.mk (below_step z24_1 hb); clear HO434; clear HO437; clear HO440; clear HO443; clear HO446; clear BK430; clear HB; have HO434 := n0_; have HO437 := n1_; have HO440 := n2_; have HO443 := n3_; have HO446 := n4_; have HO449 := n5_; have HO452 := n6_; have HO455 := n7_; have HO458 := n8_; have BK430 := n9_; have HB := n10_; clear n0_ n1_ n2_ n3_ n4_ n5_ n6_ n7_ n8_ n9_ n10_; (try clear ho0); (try clear ho1); (try clear ho2); (try clear ho3)) | ((with_reducible refine gate_dst (N := 9) rfl ?_); refine box_event ?hg (N := 9) ?hd (cs := #[.slice none 0 0, .slice none 0 0, .slice none 0 0, .slice none 0 0]) (t := 36) ?hr ?_; (case hd => rfl); (case hg => rfl); (case hr => first | (go_simp; done) | (go_simp; rfl)); intro gb459 hg w36 hbox hb; have n0_ := Aside0.mk (Kd.R_below z24_7 hb); have n1_ := Aside0.mk (Kd.R_below z24_15 hb); have n2_ := Aside0.mk (Kd.R_below z24_14 hb); have n3_ := Aside0.mk (Kd.R_below z24_13 hb); have n4_ := Aside0.mk (Kd.R_below z24_17 hb); have n5_ := Aside0.mk (Kd.R_below z24_25 hb); have n6_ := Aside0.mk (Kd.R_below z24_24 hb); have n7_ := Aside0.mk (Kd.R_below z24_23 hb); have n8_ := Aside0.mk (Kd.R_below z24_22 hb); have n9_ := Aside0.mk (blk_below (g := gb430) (o := .cells #[.slice A0_0 l0_0.length c0_0, .slice A0_1 l0_1.length c0_1, .slice A0_2 l0_2.length c0_2, .slice A0_3 l0_3.length c0_3] 27 (0, 0)) z24_2 hb); have n10_ := Aside0.mk (below_step z24_1 hb); have n11_ := Aside0.mk (hbox); have n12_ := Aside0.mk ((by rw [hg]; exact (below_size z24_1) : w.heap.size ≤ gb459)); have n13_ := Aside0.mk ((by rw [hg]; exact (below_size z24_1) : w.heap.size ≤ gb459)); have n14_ := Aside0.mk ((by rw [hg]; exact Nat.ne_of_lt (blk_lt (g := gb430) (o := .cells #[.slice A0_0 l0_0.length c0_0, .slice A0_1 l0_1.length c0_1, .slice A0_2 l0_2.length c0_2, .slice A0_3 l0_3.length c0_3] 27 (0, 0)) z24_2) : gb430 ≠ gb459)); have n15_ := Aside0.mk ((by rw [hg]; exact Nat.ne_of_gt (blk_lt (g := gb430) (o := .cells #[.slice A0_0 l0_0.length c0_0, .slice A0_1 l0_1.length c0_1, .slice A0_2 l0_2.length c0_2, .slice A0_3 l0_3.length c0_3] 27 (0, 0)) z24_2) : gb459 ≠ gb430)); clear HO434; clear HO437; clear HO440; clear HO443; clear HO446; clear HO449; clear HO452; clear HO455; clear HO458; clear BK430; clear HB; have HO434 := n0_; have HO437 := n1_; have HO440 := n2_; have HO443 := n3_; have HO446 := n4_; have HO449 := n5_; have HO452 := n6_; have HO455 := n7_; have HO458 := n8_; have BK430 := n9_; have HB := n10_; have BK459 := n11_; have GW459 := n12_; have GE459 := n13_; have NB430_459 := n14_; have NB459_430 := n15_; clear n0_ n1_ n2_ n3_ n4_ n5_ n6_ n7_ n8_ n9_ n10_ n11_ n12_ n13_ n14_ n15_; clear hb hbox hg; obtain ⟨Ao37, co37, eo37⟩ := Kd.R_slice HO449.out; subst eo37; have hnb38 := NB459_430.out; have hnc38 := NB430_459.out; have hcz39_0 : w36.cell? ⟨gb459, 0, none⟩ = some (.slice none 0 0) := (blk_cell BK459.out 0).trans rfl; have hcz39_1 : w36.cell? ⟨gb459, 1, none⟩ = some (.slice none 0 0) := (blk_cell BK459.out 1).trans rfl; have hcz39_2 : w36.cell? ⟨gb459, 2, none⟩ = some (.slice none 0 0) := (blk_cell BK459.out 2).trans rfl; have hcz39_3 : w36.cell? ⟨gb459, 3, none⟩ = some (.slice none 0 0) := (blk_cell BK459.out 3).trans rfl; have hfz39_0 := blk_frozen BK459.out 0; have hfz39_1 := blk_frozen BK459.out 1; have hfz39_2 := blk_frozen BK459.out 2; have hfz39_3 := blk_frozen BK459.out 3; obtain ⟨Ao40, co40, eo40⟩ := Kd.R_slice HO452.out; subst eo40; obtain ⟨Ao41, co41, eo41⟩ := Kd.R_slice HO455.out; subst eo41; obtain ⟨Ao42, co42, eo42⟩ := Kd.R_slice HO458.out; subst eo42) | ((with_reducible refine gate_callee (f := 34) rfl ?_); refine goesL_ (some 36) rfl rfl Try.func34 z24_38 rfl #[.agg #[.slice Ao37 t447.length co37, .slice Ao40 t450.length co40, .slice Ao41 t453.length co41, .slice Ao42 t456.length co42], .string a1, .string a2] rfl z24_5 ?_; (with_reducible refine (impl_MapOf.calls k _ _ t447 _ _ t450 _ _ t453 _ _ t456 a1 a2 t460 _ ?side1 ?side2 ?side3 ?side4 ?side5 ?side6 ?side7 ?side8 A16.out).mono ?_); (case side1 => refine (Kd.R_reads' (e := 3) (base := w.heap.size) (ok := fun k_ => ((True ∧ some k_ ≠ (.slice Ao29 t432.length co29 : Value).ownBlock) ∧ some k_ ≠ (v445 : Value).ownBlock)) (n := t447.length) (c := co37) ?_).2.2; exact z24_4); (case side2 => exact (Kd.R_reads' HO449.out).2.1); (case side3 => refine (Kd.R_reads' (e := 84) (base := w.heap.size) (ok := fun k_ => (True ∧ some k_ ≠ (.slice Ao30 t435.length co30 : Value).ownBlock)) (n := t450.length) (c := co40) ?_).2.2; exact z24_10); (case side4 => exact (Kd.R_reads' HO452.out).2.1); (case side5 => refine (Kd.R_reads' (e := 86) (base := w.heap.size) (ok := fun k_ => (True ∧ some k_ ≠ (.slice Ao31 t438.length co31 : Value).ownBlock)) (n := t453.length) (c := co41) ?_).2.2; exact z24_9); (case side6 => exact (Kd.R_reads' HO455.out).2.1); (case side7 => refine (Kd.R_reads' (e := 73) (base := w.heap.size) (ok := fun k_ => (True ∧ some k_ ≠ (.slice Ao32 t441.length co32 : Value).ownBlock)) (n := t456.length) (c := co42) ?_).2.2; exact z24_8); (case side8 => exact (Kd.R_reads' HO458.out).2.1); rintro e w43 ⟨v461, rfl, ho0, hb⟩; refine ⟨_, rfl, ?_⟩; have n0_ := Aside0.mk (Kd.R_elder' z24_12 (Kd.R_base ho0) hb); have n1_ := Aside0.mk (Kd.R_below (by (with_reducible repeat (first | apply Kd.R_alloc | apply Kd.R_drewN | apply Kd.R_drew)); exact (Kd.R_mono (Kd.R_far (p := ⟨gb459, 3, none⟩) (Kd.R_far (p := ⟨gb459, 2, none⟩) (Kd.R_far (p := ⟨gb459, 1, none⟩) (Kd.R_far (p := ⟨gb459, 0, none⟩) (Kd.R_types HO437.out BK459.out (by decide)) (fun _ hk => by first | exact hk.2 | trivial) (.slice Ao37 t447.length co37)) (fun _ hk => by first | exact hk.2 | trivial) (.slice Ao40 t450.length co40)) (fun _ hk => by first | exact hk.2 | trivial) (.slice Ao41 t453.length co41)) (fun _ hk => by first | exact hk.2 | trivial) (.slice Ao42 t456.length co42)) (fun _ h_ => h_.1))) hb); have n2_ := Aside0.mk (Kd.R_below (by (with_reducible repeat (first | apply Kd.R_alloc | apply Kd.R_drewN | apply Kd.R_drew)); exact (Kd.R_mono (Kd.R_far (p := ⟨gb459, 3, none⟩) (Kd.R_far (p := ⟨gb459, 2, none⟩) (Kd.R_far (p := ⟨gb459, 1, none⟩) (Kd.R_far (p := ⟨gb459, 0, none⟩) (Kd.R_types HO440.out BK459.out (by decide)) (fun _ hk => by first | exact hk.2 | trivial) (.slice Ao37 t447.length co37)) (fun _ hk => by first | exact hk.2 | trivial) (.slice Ao40 t450.length co40)) (fun _ hk => by first | exact hk.2 | trivial) (.slice Ao41 t453.length co41)) (fun _ hk => by first | exact hk.2 | trivial) (.slice Ao42 t456.length co42)) (fun _ h_ => h_.1))) hb); have n3_ := Aside0.mk (Kd.R_below (by (with_reducible repeat (first | apply Kd.R_alloc | apply Kd.R_drewN | apply Kd.R_drew)); exact (Kd.R_mono (Kd.R_far (p := ⟨gb459, 3, none⟩) (Kd.R_far (p := ⟨gb459, 2, none⟩) (Kd.R_far (p := ⟨gb459, 1, none⟩) (Kd.R_far (p := ⟨gb459, 0, none⟩) (Kd.R_types HO443.out BK459.out (by decide)) (fun _ hk => by first | exact hk.2 | trivial) (.slice Ao37 t447.length co37)) (fun _ hk => by first | exact hk.2 | trivial) (.slice Ao40 t450.length co40)) (fun _ hk => by first | exact hk.2 | trivial) (.slice Ao41 t453.length co41)) (fun _ hk => by first | exact hk.2 | trivial) (.slice Ao42 t456.length co42)) (fun _ h_ => h_.1))) hb); have n4_ := Aside0.mk (Kd.R_elder' z24_11 (Kd.R_base ho0) hb); have n5_ := Aside0.mk (Kd.R_elder' z24_4 (Kd.R_base ho0) hb); have n6_ := Aside0.mk (Kd.R_below z24_10 hb); have n7_ := Aside0.mk (Kd.R_below z24_9 hb); have n8_ := Aside0.mk (Kd.R_below z24_8 hb); have n9_ := Aside0.mk (Kd.R_lower (Kd.R_new' (Kd.R_new' (Kd.R_new' ho0 (Kd.R_lt z24_12)) (Kd.R_lt z24_11)) (Kd.R_lt z24_4)) (below_size z24_0)); have n10_ := Aside0.mk (blk_below (g := gb430) (o := .cells #[.slice A0_0 l0_0.length c0_0, .slice A0_1 l0_1.length c0_1, .slice A0_2 l0_2.length c0_2, .slice A0_3 l0_3.length c0_3] 27 (0, 0)) (by (with_reducible repeat (first | refine blk_drewN ?_ _ | refine blk_drew ?_ | refine blk_alloc ?_ _)); refine blk_far ?_ NB430_459.out _; (with_reducible repeat (first | refine blk_drewN ?_ _ | refine blk_drew ?_ | refine blk_alloc ?_ _)); refine blk_far ?_ NB430_459.out _; (with_reducible repeat (first | refine blk_drewN ?_ _ | refine blk_drew ?_ | refine blk_alloc ?_ _)); refine blk_far ?_ NB430_459.out _; (with_reducible repeat (first | refine blk_drewN ?_ _ | refine blk_drew ?_ | refine blk_alloc ?_ _)); refine blk_far ?_ NB430_459.out _; (with_reducible repeat (first | refine blk_drewN ?_ _ | refine blk_drew ?_ | refine blk_alloc ?_ _)); exact BK430.out) hb); have n11_ := Aside0.mk (blk_below (g := gb459) (o := .cells #[.slice Ao37 t447.length co37, .slice Ao40 t450.length co40, .slice Ao41 t453.length co41, .slice Ao42 t456.length co42] 36 (0, 0)) (by (with_reducible repeat (first | refine blk_drewN ?_ _ | refine blk_drew ?_ | refine blk_alloc ?_ _)); refine blk_put (cs := #[.slice Ao37 t447.length co37, .slice Ao40 t450.length co40, .slice Ao41 t453.length co41, .slice none 0 0]) ?_ 3 _ rfl; (with_reducible repeat (first | refine blk_drewN ?_ _ | refine blk_drew ?_ | refine blk_alloc ?_ _)); refine blk_put (cs := #[.slice Ao37 t447.length co37, .slice Ao40 t450.length co40, .slice none 0 0, .slice none 0 0]) ?_ 2 _ rfl; (with_reducible repeat (first | refine blk_drewN ?_ _ | refine blk_drew ?_ | refine blk_alloc ?_ _)); refine blk_put (cs := #[.slice Ao37 t447.length co37, .slice none 0 0, .slice none 0 0, .slice none 0 0]) ?_ 1 _ rfl; (with_reducible repeat (first | refine blk_drewN ?_ _ | refine blk_drew ?_ | refine blk_alloc ?_ _)); refine blk_put (cs := #[.slice none 0 0, .slice none 0 0, .slice none 0 0, .slice none 0 0]) ?_ 0 _ rfl; (with_reducible repeat (first | refine blk_drewN ?_ _ | refine blk_drew ?_ | refine blk_alloc ?_ _)); exact BK459.out) hb); have n12_ := Aside0.mk (below_step z24_0 hb); clear HO434; clear HO437; clear HO440; clear HO443; clear HO446; clear HO449; clear HO452; clear HO455; clear HO458; clear BK430; clear BK459; clear HB; have HO434 := n0_; have HO437 := n1_; have HO440 := n2_; have HO443 := n3_; have HO446 := n4_; have HO449 := n5_; have HO452 := n6_; have HO455 := n7_; have HO458 := n8_; have HO462 := n9_; have BK430 := n10_; have BK459 := n11_; have HB := n12_; clear n0_ n1_ n2_ n3_ n4_ n5_ n6_ n7_ n8_ n9_ n10_ n11_ n12_; (try clear ho0); obtain ⟨Ao44, co44, eo44⟩ := Kd.R_slice HO462.out; subst eo44; obtain ⟨Ao45, co45, eo45⟩ := Kd.R_slice HO446.out; subst eo45) | ((with_reducible refine gate_callee (f := 35) rfl ?_); refine goesL_ (some 39) rfl rfl Try.func35 z24_38 rfl #[.slice Ao44 t460.length co44, .slice Ao45 t444.length co45] rfl z24_5 ?_; (with_reducible refine (laws_eqIntS.calls k _ _ t460 _ _ t444 true _ ?side1 ?side2 ?side3 ?side4 A17.out).mono ?_); (case side1 => repeat (first | exact (Kd.R_reads' HO462.out).2.2 | (with_reducible refine Kd.C_alloc ?_ _) | (with_reducible refine Kd.C_drewN ?_ _) | (with_reducible refine Kd.C_drew ?_))); (case side2 => exact (Kd.R_reads' HO462.out).2.1); (case side3 => repeat (first | exact (Kd.R_reads' HO446.out).2.2 | (with_reducible refine Kd.C_alloc ?_ _) | (with_reducible refine Kd.C_drewN ?_ _) | (with_reducible refine Kd.C_drew ?_))); (case side4 => exact (Kd.R_reads' HO446.out).2.1); rintro e w' ⟨rfl, ⟨nd, rfl⟩⟩; refine ⟨_, rfl, ?_⟩))
      (try (rw [drewN_self w43]; generalize hq_ : World.drewN w43 _ = w43; have n0_ : Aside0 (Kd.R (Kd.int .i64) 3 w43 w.heap.size (fun k_ => some k_ ≠ (.slice Ao45 t444.length co45 : Value).ownBlock ∧ some k_ ≠ (.slice Ao37 t447.length co37 : Value).ownBlock ∧ some k_ ≠ (.slice Ao44 t460.length co44 : Value).ownBlock) (.slice Ao29 t432.length co29) t432) := ⟨by rw [← hq_]; exact (by (with_reducible repeat (first | apply Kd.R_alloc | apply Kd.R_drewN | apply Kd.R_drew)); exact Kd.R_mono HO434.out (fun _ hk => ⟨(by first | exact hk.1.1.2 | simp_all), ⟨(by first | exact hk.1.2 | simp_all), hk.2⟩⟩))⟩; have n1_ : Aside0 (Kd.R k84 84 w43 w.heap.size (fun k_ => some k_ ≠ (.slice Ao40 t450.length co40 : Value).ownBlock) (.slice Ao30 t435.length co30) t435) := ⟨by rw [← hq_]; exact (by (with_reducible repeat (first | apply Kd.R_alloc | apply Kd.R_drewN | apply Kd.R_drew)); exact Kd.R_mono HO437.out (fun _ hk => by first | exact hk.2 | trivial))⟩; have n2_ : Aside0 (Kd.R k86 86 w43 w.heap.size (fun k_ => some k_ ≠ (.slice Ao41 t453.length co41 : Value).ownBlock) (.slice Ao31 t438.length co31) t438) := ⟨by rw [← hq_]; exact (by (with_reducible repeat (first | apply Kd.R_alloc | apply Kd.R_drewN | apply Kd.R_drew)); exact Kd.R_mono HO440.out (fun _ hk => by first | exact hk.2 | trivial))⟩; have n3_ : Aside0 (Kd.R k73 73 w43 w.heap.size (fun k_ => some k_ ≠ (.slice Ao42 t456.length co42 : Value).ownBlock) (.slice Ao32 t441.length co32) t441) := ⟨by rw [← hq_]; exact (by (with_reducible repeat (first | apply Kd.R_alloc | apply Kd.R_drewN | apply Kd.R_drew)); exact Kd.R_mono HO443.out (fun _ hk => by first | exact hk.2 | trivial))⟩; have n4_ : Aside0 (Kd.R (Kd.int .i64) 3 w43 w.heap.size (fun k_ => some k_ ≠ (.slice Ao29 t432.length co29 : Value).ownBlock ∧ some k_ ≠ (.slice Ao37 t447.length co37 : Value).ownBlock ∧ some k_ ≠ (.slice Ao44 t460.length co44 : Value).ownBlock) (.slice Ao45 t444.length co45) t444) := ⟨by rw [← hq_]; exact (by (with_reducible repeat (first | apply Kd.R_alloc | apply Kd.R_drewN | apply Kd.R_drew)); exact Kd.R_mono HO446.out (fun _ hk => ⟨(by first | exact hk.1.1.2 | simp_all), ⟨(by first | exact hk.1.2 | simp_all), hk.2⟩⟩))⟩; have n5_ : Aside0 (Kd.R (Kd.int .i64) 3 w43 w.heap.size (fun k_ => some k_ ≠ (.slice Ao29 t432.length co29 : Value).ownBlock ∧ some k_ ≠ (.slice Ao45 t444.length co45 : Value).ownBlock ∧ some k_ ≠ (.slice Ao44 t460.length co44 : Value).ownBlock) (.slice Ao37 t447.length co37) t447) := ⟨by rw [← hq_]; exact (by (with_reducible repeat (first | apply Kd.R_alloc | apply Kd.R_drewN | apply Kd.R_drew)); exact Kd.R_mono HO449.out (fun _ hk => ⟨(by first | exact hk.1.1.2 | simp_all), ⟨(by first | exact hk.1.2 | simp_all), hk.2⟩⟩))⟩; have n6_ : Aside0 (Kd.R k84 84 w43 w.heap.size (fun k_ => some k_ ≠ (.slice Ao30 t435.length co30 : Value).ownBlock) (.slice Ao40 t450.length co40) t450) := ⟨by rw [← hq_]; exact (by (with_reducible repeat (first | apply Kd.R_alloc | apply Kd.R_drewN | apply Kd.R_drew)); exact Kd.R_mono HO452.out (fun _ hk => by first | exact hk.2 | trivial))⟩; have n7_ : Aside0 (Kd.R k86 86 w43 w.heap.size (fun k_ => some k_ ≠ (.slice Ao31 t438.length co31 : Value).ownBlock) (.slice Ao41 t453.length co41) t453) := ⟨by rw [← hq_]; exact (by (with_reducible repeat (first | apply Kd.R_alloc | apply Kd.R_drewN | apply Kd.R_drew)); exact Kd.R_mono HO455.out (fun _ hk => by first | exact hk.2 | trivial))⟩; have n8_ : Aside0 (Kd.R k73 73 w43 w.heap.size (fun k_ => some k_ ≠ (.slice Ao32 t441.length co32 : Value).ownBlock) (.slice Ao42 t456.length co42) t456) := ⟨by rw [← hq_]; exact (by (with_reducible repeat (first | apply Kd.R_alloc | apply Kd.R_drewN | apply Kd.R_drew)); exact Kd.R_mono HO458.out (fun _ hk => by first | exact hk.2 | trivial))⟩; have n9_ : Aside0 (Kd.R (Kd.int .i64) 3 w43 w.heap.size (fun k_ => some k_ ≠ (.slice Ao29 t432.length co29 : Value).ownBlock ∧ some k_ ≠ (.slice Ao45 t444.length co45 : Value).ownBlock ∧ some k_ ≠ (.slice Ao37 t447.length co37 : Value).ownBlock) (.slice Ao44 t460.length co44) t460) := ⟨by rw [← hq_]; exact (by (with_reducible repeat (first | apply Kd.R_alloc | apply Kd.R_drewN | apply Kd.R_drew)); exact Kd.R_mono HO462.out (fun _ hk => ⟨(by first | exact hk.1.1.2 | simp_all), ⟨(by first | exact hk.1.2 | simp_all), hk.2⟩⟩))⟩; have n10_ : Aside0 (w43.heap[gb430]? = some (.cells #[.slice A0_0 l0_0.length c0_0, .slice A0_1 l0_1.length c0_1, .slice A0_2 l0_2.length c0_2, .slice A0_3 l0_3.length c0_3] 27 (0, 0))) := ⟨by rw [← hq_]; exact z24_2⟩; have n11_ : Aside0 (w43.heap[gb459]? = some (.cells #[.slice Ao37 t447.length co37, .slice Ao40 t450.length co40, .slice Ao41 t453.length co41, .slice Ao42 t456.length co42] 36 (0, 0))) := ⟨by rw [← hq_]; exact z24_6⟩; have n12_ : Aside0 (Below w.heap.size w w43) := ⟨by rw [← hq_]; exact z24_0⟩; clear HO434 HO437 HO440 HO443 HO446 HO449 HO452 HO455 HO458 HO462 BK430 BK459 HB hq_; have HO434 := n0_; have HO437 := n1_; have HO440 := n2_; have HO443 := n3_; have HO446 := n4_; have HO449 := n5_; have HO452 := n6_; have HO455 := n7_; have HO458 := n8_; have HO462 := n9_; have BK430 := n10_; have BK459 := n11_; have HB := n12_; clear n0_ n1_ n2_ n3_ n4_ n5_ n6_ n7_ n8_ n9_ n10_ n11_ n12_))
      have n0_ := Aside0.mk (Kd.R_drew HO434.out)
      have n1_ := Aside0.mk (Kd.R_drew HO437.out)
      have n2_ := Aside0.mk (Kd.R_drew HO440.out)
      have n3_ := Aside0.mk (Kd.R_drew HO443.out)
      have n4_ := Aside0.mk (Kd.R_drew HO446.out)
      have n5_ := Aside0.mk (Kd.R_drew HO449.out)
      have n6_ := Aside0.mk (Kd.R_drew HO452.out)
      have n7_ := Aside0.mk (Kd.R_drew HO455.out)
      have n8_ := Aside0.mk (Kd.R_drew HO458.out)
      have n9_ := Aside0.mk (Kd.R_drew HO462.out)
      have n10_ := Aside0.mk (blk_drew BK430.out)
      have n11_ := Aside0.mk (blk_drew BK459.out)
      have n12_ := Aside0.mk (below_drew1 HB.out)
      clear HO434
      clear HO437
      clear HO440
      clear HO443
      clear HO446
      clear HO449
      clear HO452
      clear HO455
      clear HO458
      clear HO462
      clear BK430
      clear BK459
      clear HB
      have HO434 := n0_
      have HO437 := n1_
      have HO440 := n2_
      have HO443 := n3_
      have HO446 := n4_
      have HO449 := n5_
      have HO452 := n6_
      have HO455 := n7_
      have HO458 := n8_
      have HO462 := n9_
      have BK430 := n10_
      have BK459 := n11_
      have HB := n12_
      clear n0_ n1_ n2_ n3_ n4_ n5_ n6_ n7_ n8_ n9_ n10_ n11_ n12_
      refine start_ (n := 5) (S := fun w' => w'.cell? ⟨gb459, 0, none⟩ = some (.slice Ao37 t447.length co37) ∧ w'.cell? ⟨gb459, 1, none⟩ = some (.slice Ao40 t450.length co40) ∧ w'.cell? ⟨gb459, 2, none⟩ = some (.slice Ao41 t453.length co41) ∧ w'.cell? ⟨gb459, 3, none⟩ = some (.slice Ao42 t456.length co42) ∧ w'.cell? ⟨gb430, 0, none⟩ = some (.slice A0_0 l0_0.length c0_0) ∧ w'.cell? ⟨gb430, 1, none⟩ = some (.slice A0_1 l0_1.length c0_1) ∧ w'.cell? ⟨gb430, 2, none⟩ = some (.slice A0_2 l0_2.length c0_2) ∧ w'.cell? ⟨gb430, 3, none⟩ = some (.slice A0_3 l0_3.length c0_3)) (ds := []) #[false, false, false, false, false] z24_38 rfl rfl ⟨(blk_cell BK459.out 0).trans rfl, (blk_cell BK459.out 1).trans rfl, (blk_cell BK459.out 2).trans rfl, (blk_cell BK459.out 3).trans rfl, (blk_cell BK430.out 0).trans rfl, (blk_cell BK430.out 1).trans rfl, (blk_cell BK430.out 2).trans rfl, (blk_cell BK430.out 3).trans rfl⟩ (fun hHeld => ?_)
      generalize w43.drew = w46 at HO434 HO437 HO440 HO443 HO446 HO449 HO452 HO455 HO458 HO462 BK430 BK459 HB hHeld ⊢
      refine take_ (i := 0) (N := some 41) (v := ?_) (a' := ?_) #[true, false, false, false, false] rfl rfl z24_38 (fun _ _ _ h => h) (Or.inl ⟨by rfl, ?_⟩) hHeld ?_ ?_
      rotate_left
      ·
       rintro w' ⟨s0, s1, s2, s3, s4, s5, s6, s7⟩
       go_simp
       with_reducible rfl
      rotate_left
      ·
       exact z24_33
      refine take_ (i := 1) (N := some 42) (v := ?_) (a' := ?_) #[true, true, false, false, false] rfl rfl z24_38 (fun _ _ _ h => h) (Or.inl ⟨by rfl, ?_⟩) hHeld ?_ ?_
      rotate_left
      ·
       rintro w' ⟨s0, s1, s2, s3, s4, s5, s6, s7⟩
       go_simp
       with_reducible rfl
      rotate_left
      ·
       exact z24_33
      refine one_ (i := 2) (N := some 43) #[true, true, true, false, false] rfl rfl z24_38 (by decide) (fun K hK => ?_)
      refine goes_ Try.func11 z24_38 rfl #[.agg #[.slice A0_0 l0_0.length c0_0, .slice A0_1 l0_1.length c0_1, .slice A0_2 l0_2.length c0_2, .slice A0_3 l0_3.length c0_3]] (by rfl) rfl rfl z24_5 ?_
      with_reducible refine (laws_toState.calls k _ _ l0_0 _ _ l0_1 _ _ l0_2 _ _ l0_3 t464 t467 t470 t473 _ ?side1 ?side2 ?side3 ?side4 ?side5 ?side6 ?side7 ?side8 A19.out).mono ?_
      (case side1 => repeat (first | exact (Kd.C_below HR0_0.out HB.out) | (with_reducible refine Kd.C_alloc ?_ _) | (with_reducible refine Kd.C_drewN ?_ _) | (with_reducible refine Kd.C_drew ?_)))
      (case side2 => exact HC0_0.out)
      (case side3 => repeat (first | exact (Kd.C_below HR0_1.out HB.out) | (with_reducible refine Kd.C_alloc ?_ _) | (with_reducible refine Kd.C_drewN ?_ _) | (with_reducible refine Kd.C_drew ?_)))
      (case side4 => exact HC0_1.out)
      (case side5 => repeat (first | exact (Kd.C_below HR0_2.out HB.out) | (with_reducible refine Kd.C_alloc ?_ _) | (with_reducible refine Kd.C_drewN ?_ _) | (with_reducible refine Kd.C_drew ?_)))
      (case side6 => exact HC0_2.out)
      (case side7 => repeat (first | exact (Kd.C_below HR0_3.out HB.out) | (with_reducible refine Kd.C_alloc ?_ _) | (with_reducible refine Kd.C_drewN ?_ _) | (with_reducible refine Kd.C_drew ?_)))
      (case side8 => exact HC0_3.out)
      rintro e w47 ⟨v465, v468, v471, v474, rfl, ho0, ho1, ho2, ho3, hb⟩
      refine ⟨_, rfl, ?_⟩
      have n0_ := Aside0.mk (Kd.R_elder' z24_7 (Kd.R_base ho0) hb)
      have n1_ := Aside0.mk (Kd.R_elder' z24_15 (Kd.R_base ho1) hb)
      have n2_ := Aside0.mk (Kd.R_elder' z24_14 (Kd.R_base ho2) hb)
      have n3_ := Aside0.mk (Kd.R_elder' z24_13 (Kd.R_base ho3) hb)
      have n4_ := Aside0.mk (Kd.R_elder' z24_17 (Kd.R_base ho0) hb)
      have n5_ := Aside0.mk (Kd.R_elder' z24_25 (Kd.R_base ho0) hb)
      have n6_ := Aside0.mk (Kd.R_elder' z24_24 (Kd.R_base ho1) hb)
      have n7_ := Aside0.mk (Kd.R_elder' z24_23 (Kd.R_base ho2) hb)
      have n8_ := Aside0.mk (Kd.R_elder' z24_22 (Kd.R_base ho3) hb)
      have n9_ := Aside0.mk (Kd.R_elder' z24_37 (Kd.R_base ho0) hb)
      have n10_ := Aside0.mk (Kd.R_lower (Kd.R_new' (Kd.R_new' (Kd.R_new' (Kd.R_new' ho0 (Kd.R_lt z24_7)) (Kd.R_lt z24_17)) (Kd.R_lt z24_25)) (Kd.R_lt z24_37)) (below_size z24_0))
      have n11_ := Aside0.mk (Kd.R_lower (Kd.R_new' (Kd.R_new' ho1 (Kd.R_lt z24_15)) (Kd.R_lt z24_24)) (below_size z24_0))
      have n12_ := Aside0.mk (Kd.R_lower (Kd.R_new' (Kd.R_new' ho2 (Kd.R_lt z24_14)) (Kd.R_lt z24_23)) (below_size z24_0))
      have n13_ := Aside0.mk (Kd.R_lower (Kd.R_new' (Kd.R_new' ho3 (Kd.R_lt z24_13)) (Kd.R_lt z24_22)) (below_size z24_0))
      have n14_ := Aside0.mk (blk_below (g := gb430) (o := .cells #[.slice A0_0 l0_0.length c0_0, .slice A0_1 l0_1.length c0_1, .slice A0_2 l0_2.length c0_2, .slice A0_3 l0_3.length c0_3] 27 (0, 0)) z24_2 hb)
      have n15_ := Aside0.mk (blk_below (g := gb459) (o := .cells #[.slice Ao37 t447.length co37, .slice Ao40 t450.length co40, .slice Ao41 t453.length co41, .slice Ao42 t456.length co42] 36 (0, 0)) z24_6 hb)
      have n16_ := Aside0.mk (below_step z24_0 hb)
      clear HO434
      clear HO437
      clear HO440
      clear HO443
      clear HO446
      clear HO449
      clear HO452
      clear HO455
      clear HO458
      clear HO462
      clear BK430
      clear BK459
      clear HB
      have HO434 := n0_
      have HO437 := n1_
      have HO440 := n2_
      have HO443 := n3_
      have HO446 := n4_
      have HO449 := n5_
      have HO452 := n6_
      have HO455 := n7_
      have HO458 := n8_
      have HO462 := n9_
      have HO466 := n10_
      have HO469 := n11_
      have HO472 := n12_
      have HO475 := n13_
      have BK430 := n14_
      have BK459 := n15_
      have HB := n16_
      clear n0_ n1_ n2_ n3_ n4_ n5_ n6_ n7_ n8_ n9_ n10_ n11_ n12_ n13_ n14_ n15_ n16_
      (try clear hb)
      (try clear hb2)
      (try clear hk)
      (try clear hi)
      (try clear ho0)
      (try clear ho1)
      (try clear ho2)
      (try clear ho3)
      obtain ⟨Ao48, co48, eo48⟩ := Kd.R_slice HO466.out
      (first | subst eo48 | (injection eo48 with f1_ f2_ f3_; have f4_ := f1_.symm; have f5_ := f3_.symm; clear f1_ f2_ f3_; subst f4_; subst f5_))
      obtain ⟨Ao49, co49, eo49⟩ := Kd.R_slice HO469.out
      (first | subst eo49 | (injection eo49 with f1_ f2_ f3_; have f4_ := f1_.symm; have f5_ := f3_.symm; clear f1_ f2_ f3_; subst f4_; subst f5_))
      obtain ⟨Ao50, co50, eo50⟩ := Kd.R_slice HO472.out
      (first | subst eo50 | (injection eo50 with f1_ f2_ f3_; have f4_ := f1_.symm; have f5_ := f3_.symm; clear f1_ f2_ f3_; subst f4_; subst f5_))
      obtain ⟨Ao51, co51, eo51⟩ := Kd.R_slice HO475.out
      (first | subst eo51 | (injection eo51 with f1_ f2_ f3_; have f4_ := f1_.symm; have f5_ := f3_.symm; clear f1_ f2_ f3_; subst f4_; subst f5_))
      refine hK.out _ _ ⟨(blk_cell BK459.out 0).trans rfl, (blk_cell BK459.out 1).trans rfl, (blk_cell BK459.out 2).trans rfl, (blk_cell BK459.out 3).trans rfl, (blk_cell BK430.out 0).trans rfl, (blk_cell BK430.out 1).trans rfl, (blk_cell BK430.out 2).trans rfl, (blk_cell BK430.out 3).trans rfl⟩ (fun hHeld => ?_)
      clear hK K
      refine norm_ (a' := ?_) ?_ ?_
      rotate_left
      ·
       show Act.put _ (some 43) _ = _
       simp only [Act.put, List.setIfInBounds_toArray, List.set_cons_zero, List.set_cons_succ, i64_w, i32_w]
       rfl
      refine one_ (i := 3) (N := some 44) #[true, true, true, true, false] rfl rfl z24_38 (by decide) (fun K hK => ?_)
      refine goes_ Try.func14 z24_38 rfl #[.agg #[.slice Ao37 t447.length co37, .slice Ao40 t450.length co40, .slice Ao41 t453.length co41, .slice Ao42 t456.length co42], .agg #[.slice Ao48 t464.length co48, .slice Ao49 t467.length co49, .slice Ao50 t470.length co50, .slice Ao51 t473.length co51]] (by rfl) rfl rfl z24_5 ?_
      with_reducible refine (laws_eqState.calls k _ _ t447 _ _ t450 _ _ t453 _ _ t456 _ _ t464 _ _ t467 _ _ t470 _ _ t473 true _ ?side1 ?side2 ?side3 ?side4 ?side5 ?side6 ?side7 ?side8 ?side9 ?side10 ?side11 ?side12 ?side13 ?side14 ?side15 ?side16 A20.out).mono ?_
      (case side1 => repeat (first | exact (Kd.R_reads' HO449.out).2.2 | (with_reducible refine Kd.C_alloc ?_ _) | (with_reducible refine Kd.C_drewN ?_ _) | (with_reducible refine Kd.C_drew ?_)))
      (case side2 => exact (Kd.R_reads' HO449.out).2.1)
      (case side3 => repeat (first | exact (Kd.R_reads' HO452.out).2.2 | (with_reducible refine Kd.C_alloc ?_ _) | (with_reducible refine Kd.C_drewN ?_ _) | (with_reducible refine Kd.C_drew ?_)))
      (case side4 => exact (Kd.R_reads' HO452.out).2.1)
      (case side5 => repeat (first | exact (Kd.R_reads' HO455.out).2.2 | (with_reducible refine Kd.C_alloc ?_ _) | (with_reducible refine Kd.C_drewN ?_ _) | (with_reducible refine Kd.C_drew ?_)))
      (case side6 => exact (Kd.R_reads' HO455.out).2.1)
      (case side7 => repeat (first | exact (Kd.R_reads' HO458.out).2.2 | (with_reducible refine Kd.C_alloc ?_ _) | (with_reducible refine Kd.C_drewN ?_ _) | (with_reducible refine Kd.C_drew ?_)))
      (case side8 => exact (Kd.R_reads' HO458.out).2.1)
      (case side9 => repeat (first | exact (Kd.R_reads' HO466.out).2.2 | (with_reducible refine Kd.C_alloc ?_ _) | (with_reducible refine Kd.C_drewN ?_ _) | (with_reducible refine Kd.C_drew ?_)))
      (case side10 => exact (Kd.R_reads' HO466.out).2.1)
      (case side11 => repeat (first | exact (Kd.R_reads' HO469.out).2.2 | (with_reducible refine Kd.C_alloc ?_ _) | (with_reducible refine Kd.C_drewN ?_ _) | (with_reducible refine Kd.C_drew ?_)))
      (case side12 => exact (Kd.R_reads' HO469.out).2.1)
      (case side13 => repeat (first | exact (Kd.R_reads' HO472.out).2.2 | (with_reducible refine Kd.C_alloc ?_ _) | (with_reducible refine Kd.C_drewN ?_ _) | (with_reducible refine Kd.C_drew ?_)))
      (case side14 => exact (Kd.R_reads' HO472.out).2.1)
      (case side15 => repeat (first | exact (Kd.R_reads' HO475.out).2.2 | (with_reducible refine Kd.C_alloc ?_ _) | (with_reducible refine Kd.C_drewN ?_ _) | (with_reducible refine Kd.C_drew ?_)))
      (case side16 => exact (Kd.R_reads' HO475.out).2.1)
      rintro e w52 ⟨rfl, hb⟩
      refine ⟨_, rfl, ?_⟩
      have n0_ := Aside0.mk (Kd.R_below z24_7 hb)
      have n1_ := Aside0.mk (Kd.R_below z24_15 hb)
      have n2_ := Aside0.mk (Kd.R_below z24_14 hb)
      have n3_ := Aside0.mk (Kd.R_below z24_13 hb)
      have n4_ := Aside0.mk (Kd.R_below z24_17 hb)
      have n5_ := Aside0.mk (Kd.R_below z24_25 hb)
      have n6_ := Aside0.mk (Kd.R_below z24_24 hb)
      have n7_ := Aside0.mk (Kd.R_below z24_23 hb)
      have n8_ := Aside0.mk (Kd.R_below z24_22 hb)
      have n9_ := Aside0.mk (Kd.R_below z24_37 hb)
      have n10_ := Aside0.mk (Kd.R_below (by (with_reducible repeat (first | apply Kd.R_alloc | apply Kd.R_drewN | apply Kd.R_drew)); exact HO466.out) hb)
      have n11_ := Aside0.mk (Kd.R_below (by (with_reducible repeat (first | apply Kd.R_alloc | apply Kd.R_drewN | apply Kd.R_drew)); exact HO469.out) hb)
      have n12_ := Aside0.mk (Kd.R_below (by (with_reducible repeat (first | apply Kd.R_alloc | apply Kd.R_drewN | apply Kd.R_drew)); exact HO472.out) hb)
      have n13_ := Aside0.mk (Kd.R_below (by (with_reducible repeat (first | apply Kd.R_alloc | apply Kd.R_drewN | apply Kd.R_drew)); exact HO475.out) hb)
      have n14_ := Aside0.mk (blk_below (g := gb430) (o := .cells #[.slice A0_0 l0_0.length c0_0, .slice A0_1 l0_1.length c0_1, .slice A0_2 l0_2.length c0_2, .slice A0_3 l0_3.length c0_3] 27 (0, 0)) z24_2 hb)
      have n15_ := Aside0.mk (blk_below (g := gb459) (o := .cells #[.slice Ao37 t447.length co37, .slice Ao40 t450.length co40, .slice Ao41 t453.length co41, .slice Ao42 t456.length co42] 36 (0, 0)) z24_6 hb)
      have n16_ := Aside0.mk (below_step z24_0 hb)
      clear HO434
      clear HO437
      clear HO440
      clear HO443
      clear HO446
      clear HO449
      clear HO452
      clear HO455
      clear HO458
      clear HO462
      clear HO466
      clear HO469
      clear HO472
      clear HO475
      clear BK430
      clear BK459
      clear HB
      have HO434 := n0_
      have HO437 := n1_
      have HO440 := n2_
      have HO443 := n3_
      have HO446 := n4_
      have HO449 := n5_
      have HO452 := n6_
      have HO455 := n7_
      have HO458 := n8_
      have HO462 := n9_
      have HO466 := n10_
      have HO469 := n11_
      have HO472 := n12_
      have HO475 := n13_
      have BK430 := n14_
      have BK459 := n15_
      have HB := n16_
      clear n0_ n1_ n2_ n3_ n4_ n5_ n6_ n7_ n8_ n9_ n10_ n11_ n12_ n13_ n14_ n15_ n16_
      (try clear hb)
      (try clear hb2)
      (try clear hk)
      (try clear hi)
      refine hK.out _ _ ⟨(blk_cell BK459.out 0).trans rfl, (blk_cell BK459.out 1).trans rfl, (blk_cell BK459.out 2).trans rfl, (blk_cell BK459.out 3).trans rfl, (blk_cell BK430.out 0).trans rfl, (blk_cell BK430.out 1).trans rfl, (blk_cell BK430.out 2).trans rfl, (blk_cell BK430.out 3).trans rfl⟩ (fun hHeld => ?_)
      clear hK K
      refine norm_ (a' := ?_) ?_ ?_
      rotate_left
      ·
       show Act.put _ (some 44) _ = _
       simp only [Act.put, List.setIfInBounds_toArray, List.set_cons_zero, List.set_cons_succ, i64_w, i32_w]
       rfl
      refine pure_ (i := 4) (N := some 45) (v := ?_) (a' := ?_) #[true, true, true, true, true] rfl rfl z24_38 (fun _ _ _ h => h) (Or.inl ⟨by rfl, ?_⟩) ?_ ?_
      rotate_left
      ·
       exact (by intro w'; go_simp; with_reducible rfl)
      rotate_left
      ·
       exact z24_33
      refine done_ z24_38 ?_
      have hcz53_0 : w52.cell? ⟨gb459, 0, none⟩ = some (.slice Ao37 t447.length co37) := (blk_cell BK459.out 0).trans rfl
      have hcz53_1 : w52.cell? ⟨gb459, 1, none⟩ = some (.slice Ao40 t450.length co40) := (blk_cell BK459.out 1).trans rfl
      have hcz53_2 : w52.cell? ⟨gb459, 2, none⟩ = some (.slice Ao41 t453.length co41) := (blk_cell BK459.out 2).trans rfl
      have hcz53_3 : w52.cell? ⟨gb459, 3, none⟩ = some (.slice Ao42 t456.length co42) := (blk_cell BK459.out 3).trans rfl
      have hfz53_0 := blk_frozen BK459.out 0
      have hfz53_1 := blk_frozen BK459.out 1
      have hfz53_2 := blk_frozen BK459.out 2
      have hfz53_3 := blk_frozen BK459.out 3
      go_upto_region 18 with (first | ((with_reducible refine gate_callee (f := 24) rfl ?_); refine goesL_ (some 48) rfl rfl Try.func24 z24_38 rfl #[.agg #[.slice Ao37 t447.length co37, .slice Ao40 t450.length co40, .slice Ao41 t453.length co41, .slice Ao42 t456.length co42], .int .i64 1] rfl z24_5 ?_; (with_reducible refine (laws_markState.calls k (fun k_ => some k_ = (.slice Ao37 t447.length co37 : Value).ownBlock) (.slice Ao37 t447.length co37) t447 (fun k_ => some k_ = (.slice Ao40 t450.length co40 : Value).ownBlock) (.slice Ao40 t450.length co40) t450 (fun k_ => some k_ = (.slice Ao41 t453.length co41 : Value).ownBlock) (.slice Ao41 t453.length co41) t453 (fun k_ => some k_ = (.slice Ao42 t456.length co42 : Value).ownBlock) (.slice Ao42 t456.length co42) t456 1 t477 t478 t479 t480 t481 w _ ?side1 ?side2 ?side3 ?side4 ?side5 A22.out).mono ?_); (case side1 => repeat (first | (with_reducible first | exact HB.out | apply below_alloc | apply pw_below_drewN | apply below_drew1 | refine below_set ?_ GE430.out | refine below_set ?_ GE459.out) | exact HB.out)); (case side2 => exact Kd.R_tight rfl HO449.out); (case side3 => exact Kd.R_tight rfl HO452.out); (case side4 => exact Kd.R_tight rfl HO455.out); (case side5 => exact Kd.R_tight rfl HO458.out); rintro e w54 ⟨rfl, hy0, hy1, hy2, hy3, hb, hkp⟩; refine ⟨_, rfl, ?_⟩; have n0_ := Aside0.mk (blk_kept z24_2 hkp (fun hs_ => Or.elim hs_ (fun e_ => (fun e_ => (Kd.R_ne HO449.out BK430.out (by decide)) e_) e_) (fun e_ => Or.elim e_ (fun e_ => (fun e_ => (Kd.R_ne HO452.out BK430.out (by decide)) e_) e_) (fun e_ => Or.elim e_ (fun e_ => (fun e_ => (Kd.R_ne HO455.out BK430.out (by decide)) e_) e_) (fun e_ => (fun e_ => (Kd.R_ne HO458.out BK430.out (by decide)) e_) e_))))); have n1_ := Aside0.mk (Kd.R_mono (ok' := fun k_ => some k_ ≠ (.slice Ao45 t444.length co45 : Value).ownBlock ∧ some k_ ≠ (.slice Ao37 t447.length co37 : Value).ownBlock ∧ some k_ ≠ (.slice Ao44 t460.length co44 : Value).ownBlock ∧ some k_ ≠ (.slice Ao48 t464.length co48 : Value).ownBlock) (Kd.R_keptB ((Kd.R_apart' (Kd.R_apart' (Kd.R_apart' HO434.out (Kd.R_typed HO452.out) (by decide)) (Kd.R_typed HO455.out) (by decide)) (Kd.R_typed HO458.out) (by decide))) hkp (fun k_ hk_ hs_ => Or.elim hs_ (fun e_ => absurd e_ z24_18) (fun e_ => Or.elim e_ (fun e_ => absurd e_ z24_27) (fun e_ => Or.elim e_ (fun e_ => absurd e_ z24_19) (fun e_ => (hk_.2) e_))))) (fun k_ hk_ => ⟨z24_42, z24_43, z24_18, z24_16⟩)); have n2_ := Aside0.mk (Kd.R_mono (ok' := fun k_ => some k_ ≠ (.slice Ao40 t450.length co40 : Value).ownBlock ∧ some k_ ≠ (.slice Ao49 t467.length co49 : Value).ownBlock) (Kd.R_keptB ((Kd.R_apart' (Kd.R_apart' (Kd.R_apart' HO437.out (Kd.R_typed HO449.out) (by decide)) (Kd.R_typed HO455.out) (by decide)) (Kd.R_typed HO458.out) (by decide))) hkp (fun k_ hk_ hs_ => Or.elim hs_ (fun e_ => absurd e_ z24_27) (fun e_ => Or.elim e_ (fun e_ => absurd e_ z24_16) (fun e_ => Or.elim e_ (fun e_ => absurd e_ z24_19) (fun e_ => (hk_.2) e_))))) (fun k_ hk_ => ⟨z24_18, z24_16⟩)); have n3_ := Aside0.mk (Kd.R_mono (ok' := fun k_ => some k_ ≠ (.slice Ao41 t453.length co41 : Value).ownBlock ∧ some k_ ≠ (.slice Ao50 t470.length co50 : Value).ownBlock) (Kd.R_keptB ((Kd.R_apart' (Kd.R_apart' (Kd.R_apart' HO440.out (Kd.R_typed HO449.out) (by decide)) (Kd.R_typed HO452.out) (by decide)) (Kd.R_typed HO458.out) (by decide))) hkp (fun k_ hk_ hs_ => Or.elim hs_ (fun e_ => absurd e_ z24_27) (fun e_ => Or.elim e_ (fun e_ => absurd e_ z24_19) (fun e_ => Or.elim e_ (fun e_ => absurd e_ z24_16) (fun e_ => (hk_.2) e_))))) (fun k_ hk_ => ⟨z24_18, z24_16⟩)); have n4_ := Aside0.mk (Kd.R_mono (ok' := fun k_ => some k_ ≠ (.slice Ao42 t456.length co42 : Value).ownBlock ∧ some k_ ≠ (.slice Ao51 t473.length co51 : Value).ownBlock) (Kd.R_keptB ((Kd.R_apart' (Kd.R_apart' (Kd.R_apart' HO443.out (Kd.R_typed HO449.out) (by decide)) (Kd.R_typed HO452.out) (by decide)) (Kd.R_typed HO455.out) (by decide))) hkp (fun k_ hk_ hs_ => Or.elim hs_ (fun e_ => absurd e_ z24_27) (fun e_ => Or.elim e_ (fun e_ => absurd e_ z24_19) (fun e_ => Or.elim e_ (fun e_ => (hk_.2) e_) (fun e_ => absurd e_ z24_16))))) (fun k_ hk_ => ⟨z24_18, z24_16⟩)); have n5_ := Aside0.mk (Kd.R_mono (ok' := fun k_ => some k_ ≠ (.slice Ao29 t432.length co29 : Value).ownBlock ∧ some k_ ≠ (.slice Ao37 t447.length co37 : Value).ownBlock ∧ some k_ ≠ (.slice Ao44 t460.length co44 : Value).ownBlock ∧ some k_ ≠ (.slice Ao48 t464.length co48 : Value).ownBlock) (Kd.R_keptB ((Kd.R_apart' (Kd.R_apart' (Kd.R_apart' HO446.out (Kd.R_typed HO452.out) (by decide)) (Kd.R_typed HO455.out) (by decide)) (Kd.R_typed HO458.out) (by decide))) hkp (fun k_ hk_ hs_ => Or.elim hs_ (fun e_ => absurd e_ z24_18) (fun e_ => Or.elim e_ (fun e_ => absurd e_ z24_27) (fun e_ => Or.elim e_ (fun e_ => absurd e_ z24_19) (fun e_ => (hk_.2) e_))))) (fun k_ hk_ => ⟨z24_42, z24_43, z24_18, z24_16⟩)); have n6_ := Aside0.mk (Kd.R_reok rfl hy0 (fun k_ e_ => HO449.out.1 k_ e_)); have n7_ := Aside0.mk (Kd.R_reok rfl hy1 (fun k_ e_ => HO452.out.1 k_ e_)); have n8_ := Aside0.mk (Kd.R_reok rfl hy2 (fun k_ e_ => HO455.out.1 k_ e_)); have n9_ := Aside0.mk (Kd.R_reok rfl hy3 (fun k_ e_ => HO458.out.1 k_ e_)); have n10_ := Aside0.mk (blk_kept z24_6 hkp (fun hs_ => Or.elim hs_ (fun e_ => (fun e_ => (Kd.R_ne HO449.out BK459.out (by decide)) e_) e_) (fun e_ => Or.elim e_ (fun e_ => (fun e_ => (Kd.R_ne HO452.out BK459.out (by decide)) e_) e_) (fun e_ => Or.elim e_ (fun e_ => (fun e_ => (Kd.R_ne HO455.out BK459.out (by decide)) e_) e_) (fun e_ => (fun e_ => (Kd.R_ne HO458.out BK459.out (by decide)) e_) e_))))); have n11_ := Aside0.mk (Kd.R_mono (ok' := fun k_ => some k_ ≠ (.slice Ao29 t432.length co29 : Value).ownBlock ∧ some k_ ≠ (.slice Ao45 t444.length co45 : Value).ownBlock ∧ some k_ ≠ (.slice Ao37 t447.length co37 : Value).ownBlock ∧ some k_ ≠ (.slice Ao48 t464.length co48 : Value).ownBlock) (Kd.R_keptB ((Kd.R_apart' (Kd.R_apart' (Kd.R_apart' HO462.out (Kd.R_typed HO452.out) (by decide)) (Kd.R_typed HO455.out) (by decide)) (Kd.R_typed HO458.out) (by decide))) hkp (fun k_ hk_ hs_ => Or.elim hs_ (fun e_ => absurd e_ z24_16) (fun e_ => Or.elim e_ (fun e_ => absurd e_ z24_27) (fun e_ => Or.elim e_ (fun e_ => absurd e_ z24_19) (fun e_ => (hk_.2) e_))))) (fun k_ hk_ => ⟨z24_42, z24_43, z24_18, z24_16⟩)); have n12_ := Aside0.mk (Kd.R_mono (ok' := fun k_ => some k_ ≠ (.slice Ao29 t432.length co29 : Value).ownBlock ∧ some k_ ≠ (.slice Ao45 t444.length co45 : Value).ownBlock ∧ some k_ ≠ (.slice Ao37 t447.length co37 : Value).ownBlock ∧ some k_ ≠ (.slice Ao44 t460.length co44 : Value).ownBlock) (Kd.R_keptB ((Kd.R_apart' (Kd.R_apart' (Kd.R_apart' HO466.out (Kd.R_typed HO452.out) (by decide)) (Kd.R_typed HO455.out) (by decide)) (Kd.R_typed HO458.out) (by decide))) hkp (fun k_ hk_ hs_ => Or.elim hs_ (fun e_ => absurd e_ z24_16) (fun e_ => Or.elim e_ (fun e_ => absurd e_ z24_27) (fun e_ => Or.elim e_ (fun e_ => absurd e_ z24_19) (fun e_ => (hk_.2) e_))))) (fun k_ hk_ => ⟨z24_42, z24_43, z24_18, z24_16⟩)); have n13_ := Aside0.mk (Kd.R_mono (ok' := fun k_ => some k_ ≠ (.slice Ao30 t435.length co30 : Value).ownBlock ∧ some k_ ≠ (.slice Ao40 t450.length co40 : Value).ownBlock) (Kd.R_keptB ((Kd.R_apart' (Kd.R_apart' (Kd.R_apart' HO469.out (Kd.R_typed HO449.out) (by decide)) (Kd.R_typed HO455.out) (by decide)) (Kd.R_typed HO458.out) (by decide))) hkp (fun k_ hk_ hs_ => Or.elim hs_ (fun e_ => absurd e_ z24_27) (fun e_ => Or.elim e_ (fun e_ => absurd e_ (by first | exact hk_.1.1.1.2 | simp_all)) (fun e_ => Or.elim e_ (fun e_ => absurd e_ z24_19) (fun e_ => (hk_.2) e_))))) (fun k_ hk_ => ⟨z24_18, z24_16⟩)); have n14_ := Aside0.mk (Kd.R_mono (ok' := fun k_ => some k_ ≠ (.slice Ao31 t438.length co31 : Value).ownBlock ∧ some k_ ≠ (.slice Ao41 t453.length co41 : Value).ownBlock) (Kd.R_keptB ((Kd.R_apart' (Kd.R_apart' (Kd.R_apart' HO472.out (Kd.R_typed HO449.out) (by decide)) (Kd.R_typed HO452.out) (by decide)) (Kd.R_typed HO458.out) (by decide))) hkp (fun k_ hk_ hs_ => Or.elim hs_ (fun e_ => absurd e_ z24_27) (fun e_ => Or.elim e_ (fun e_ => absurd e_ z24_19) (fun e_ => Or.elim e_ (fun e_ => absurd e_ (by first | exact hk_.1.1.1.2 | simp_all)) (fun e_ => (hk_.2) e_))))) (fun k_ hk_ => ⟨z24_18, z24_16⟩)); have n15_ := Aside0.mk (Kd.R_mono (ok' := fun k_ => some k_ ≠ (.slice Ao32 t441.length co32 : Value).ownBlock ∧ some k_ ≠ (.slice Ao42 t456.length co42 : Value).ownBlock) (Kd.R_keptB ((Kd.R_apart' (Kd.R_apart' (Kd.R_apart' HO475.out (Kd.R_typed HO449.out) (by decide)) (Kd.R_typed HO452.out) (by decide)) (Kd.R_typed HO455.out) (by decide))) hkp (fun k_ hk_ hs_ => Or.elim hs_ (fun e_ => absurd e_ z24_27) (fun e_ => Or.elim e_ (fun e_ => absurd e_ z24_19) (fun e_ => Or.elim e_ (fun e_ => (hk_.2) e_) (fun e_ => absurd e_ (by first | exact hk_.1.1.1.2 | simp_all)))))) (fun k_ hk_ => ⟨z24_18, z24_16⟩)); have n16_ := Aside0.mk (hb); clear BK430; clear HO434; clear HO437; clear HO440; clear HO443; clear HO446; clear HO449; clear HO452; clear HO455; clear HO458; clear BK459; clear HO462; clear HO466; clear HO469; clear HO472; clear HO475; clear HB; have BK430 := n0_; have HO434 := n1_; have HO437 := n2_; have HO440 := n3_; have HO443 := n4_; have HO446 := n5_; have HO449 := n6_; have HO452 := n7_; have HO455 := n8_; have HO458 := n9_; have BK459 := n10_; have HO462 := n11_; have HO466 := n12_; have HO469 := n13_; have HO472 := n14_; have HO475 := n15_; have HB := n16_; clear n0_ n1_ n2_ n3_ n4_ n5_ n6_ n7_ n8_ n9_ n10_ n11_ n12_ n13_ n14_ n15_ n16_; (try clear hb); (try clear hkp); (try clear hy0); (try clear hy1); (try clear hy2); (try clear hy3)))
      (try simp only [Act.put, List.setIfInBounds_toArray, List.set_cons_zero, List.set_cons_succ])
      go_cut [56] (fun v56 wc => ∃ (kq : Nat) (x56_22 : Bool), v56 = .bool x56_22 ∧ Aside0 (laws_FnExactMapOf.j0 kq a1 a2 t444 t460 x56_22 l0_0 l0_1 l0_2 l0_3 = some true) ∧ Aside0 (kq ≤ k) ∧ Aside0 (Kd.R (Kd.int .i64) 3 wc w.heap.size (fun k_ => some k_ ≠ ((.slice Ao44 t460.length co44) : Value).ownBlock ∧ some k_ ≠ ((.slice Ao37 t447.length co37) : Value).ownBlock) (.slice Ao45 t444.length co45) t444) ∧ Aside0 (Kd.R (Kd.int .i64) 3 wc w.heap.size (fun k_ => some k_ ≠ ((.slice Ao45 t444.length co45) : Value).ownBlock ∧ some k_ ≠ ((.slice Ao37 t447.length co37) : Value).ownBlock) (.slice Ao44 t460.length co44) t460) ∧ Aside0 (Kd.R (Kd.int .i64) 3 wc w.heap.size (fun k_ => some k_ ≠ ((.slice Ao45 t444.length co45) : Value).ownBlock ∧ some k_ ≠ ((.slice Ao44 t460.length co44) : Value).ownBlock) (.slice Ao37 t447.length co37) t478) ∧ Aside0 (Kd.R k84 84 wc w.heap.size (fun _ => True) (.slice Ao40 t450.length co40) t479) ∧ Aside0 (Kd.R k86 86 wc w.heap.size (fun _ => True) (.slice Ao41 t453.length co41) t480) ∧ Aside0 (Kd.R k73 73 wc w.heap.size (fun _ => True) (.slice Ao42 t456.length co42) t481) ∧ Aside0 (wc.heap[gb430]? = some (.cells #[(.slice A0_0 l0_0.length c0_0), (.slice A0_1 l0_1.length c0_1), (.slice A0_2 l0_2.length c0_2), (.slice A0_3 l0_3.length c0_3)] 27 (0, 0))) ∧ Aside0 (wc.heap[gb459]? = some (.cells #[(.slice Ao37 t447.length co37), (.slice Ao40 t450.length co40), (.slice Ao41 t453.length co41), (.slice Ao42 t456.length co42)] 36 (0, 0))) ∧ Aside0 (Below w.heap.size w wc))
      case first =>
       have H := HC23.out
       clear HC23
       by_cases c55 : t477 < 0
       ·
        rw [if_pos c55] at H
        have c55b0 : decide (t477 < 0) = true := decide_eq_true c55
        clear c55
        (first | rw [c55b0] | (simp only [i64_w, i32_w]; rw [c55b0]) | skip)
        have H' := Aside0.mk H
        clear H
        go_wp2
        go_meet
        case rel => exact ⟨_, (true), (by first | rfl | (simp; done) | (simp [*]; done)), H', ⟨by first | omega | exact Nat.le_refl _⟩, ⟨z24_36⟩, ⟨z24_34⟩, ⟨z24_35⟩, ⟨z24_41⟩, ⟨z24_40⟩, ⟨z24_39⟩, ⟨z24_2⟩, ⟨z24_6⟩, ⟨z24_0⟩⟩
       ·
        rw [if_neg c55] at H
        have c55b0 : decide (t477 < 0) = false := decide_eq_false c55
        clear c55
        (first | rw [c55b0] | (simp only [i64_w, i32_w]; rw [c55b0]) | skip)
        replace H := Option.bind_eq_some_iff.mp H
        obtain ⟨t482, A560, H⟩ := H
        (try dsimp only at H)
        have A56 := Aside0.mk A560
        clear A560
        have H' := Aside0.mk H
        clear H
        go_wp2_with (first | (go_at_call 35; (with_reducible refine (laws_eqIntS.calls k _ _ t460 _ _ t444 t482 _ ?side1 ?side2 ?side3 ?side4 A56.out).mono ?_); (case side1 => repeat (first | exact (Kd.R_reads' HO462.out).2.2 | (with_reducible refine Kd.C_alloc ?_ _) | (with_reducible refine Kd.C_drewN ?_ _) | (with_reducible refine Kd.C_drew ?_))); (case side2 => exact (Kd.R_reads' HO462.out).2.1); (case side3 => repeat (first | exact (Kd.R_reads' HO446.out).2.2 | (with_reducible refine Kd.C_alloc ?_ _) | (with_reducible refine Kd.C_drewN ?_ _) | (with_reducible refine Kd.C_drew ?_))); (case side4 => exact (Kd.R_reads' HO446.out).2.1); rintro e w' ⟨rfl, ⟨nd, rfl⟩⟩))
        go_meet
        case rel => exact ⟨_, (!t482), (by first | rfl | (simp; done) | (simp [*]; done)), H', ⟨by first | omega | exact Nat.le_refl _⟩, ⟨z24_36⟩, ⟨z24_34⟩, ⟨z24_35⟩, ⟨z24_41⟩, ⟨z24_40⟩, ⟨z24_39⟩, ⟨z24_2⟩, ⟨z24_6⟩, ⟨z24_0⟩⟩
      case rest =>
       clear HC23
       try clear c1
       try clear c2
       try clear p2
       try clear c3
       try clear c4
       try clear c4b0
       try clear c4b1
       try clear c5
       try clear c6
       try clear c6b0
       try clear c6b1
       try clear c8
       try clear c9
       try clear c9b0
       try clear c11
       try clear c14
       try clear c18
       try clear c21
       try clear c24
       try clear c33
       try clear c34
       try clear c35
       try clear c38
       try clear c55
       try clear c55b0
       try clear hcz11_0
       try clear hcz11_1
       try clear hcz11_2
       try clear hcz11_3
       try clear hcz25_0
       try clear hcz25_1
       try clear hcz25_2
       try clear hcz25_3
       try clear hcz27_0
       try clear hcz27_1
       try clear hcz27_2
       try clear hcz27_3
       try clear hcz34_0
       try clear hcz34_1
       try clear hcz34_2
       try clear hcz34_3
       try clear hcz39_0
       try clear hcz39_1
       try clear hcz39_2
       try clear hcz39_3
       try clear hcz53_0
       try clear hcz53_1
       try clear hcz53_2
       try clear hcz53_3
       try clear hfz11_0
       try clear hfz11_1
       try clear hfz11_2
       try clear hfz11_3
       try clear hfz25_0
       try clear hfz25_1
       try clear hfz25_2
       try clear hfz25_3
       try clear hfz27_0
       try clear hfz27_1
       try clear hfz27_2
       try clear hfz27_3
       try clear hfz34_0
       try clear hfz34_1
       try clear hfz34_2
       try clear hfz34_3
       try clear hfz39_0
       try clear hfz39_1
       try clear hfz39_2
       try clear hfz39_3
       try clear hfz53_0
       try clear hfz53_1
       try clear hfz53_2
       try clear hfz53_3
       obtain ⟨kq, x56_22, rfl, HA, HJ22, HO_8, HO_10, HO_460000, HO_460001, HO_460002, HO_460003, BK430, BK459, HB⟩ := hcut
       have hl460000_22 := (Kd.R_reads' HO_460000.out).1
       rw [hl460000_22] at HO_460000
       (try simp only [hl460000_22])
       (try simp only [hl460000_22] at BK430)
       (try simp only [hl460000_22] at BK459)
       (try simp only [hl460000_22] at HO_8)
       (try simp only [hl460000_22] at HO_10)
       (try simp only [hl460000_22] at HO_460001)
       (try simp only [hl460000_22] at HO_460002)
       (try simp only [hl460000_22] at HO_460003)
       have hl460001_22 := (Kd.R_reads' HO_460001.out).1
       rw [hl460001_22] at HO_460001
       (try simp only [hl460001_22])
       (try simp only [hl460001_22] at BK430)
       (try simp only [hl460001_22] at BK459)
       (try simp only [hl460001_22] at HO_8)
       (try simp only [hl460001_22] at HO_10)
       (try simp only [hl460001_22] at HO_460000)
       (try simp only [hl460001_22] at HO_460002)
       (try simp only [hl460001_22] at HO_460003)
       have hl460002_22 := (Kd.R_reads' HO_460002.out).1
       rw [hl460002_22] at HO_460002
       (try simp only [hl460002_22])
       (try simp only [hl460002_22] at BK430)
       (try simp only [hl460002_22] at BK459)
       (try simp only [hl460002_22] at HO_8)
       (try simp only [hl460002_22] at HO_10)
       (try simp only [hl460002_22] at HO_460000)
       (try simp only [hl460002_22] at HO_460001)
       (try simp only [hl460002_22] at HO_460003)
       have hl460003_22 := (Kd.R_reads' HO_460003.out).1
       rw [hl460003_22] at HO_460003
       (try simp only [hl460003_22])
       (try simp only [hl460003_22] at BK430)
       (try simp only [hl460003_22] at BK459)
       (try simp only [hl460003_22] at HO_8)
       (try simp only [hl460003_22] at HO_10)
       (try simp only [hl460003_22] at HO_460000)
       (try simp only [hl460003_22] at HO_460001)
       (try simp only [hl460003_22] at HO_460002)
       cases kq with
       | zero => exact absurd HA.out (by simp [laws_FnExactMapOf.j0])
       | succ kj22 =>
        have H := HA.out
        clear HA
        simp only [laws_FnExactMapOf.j0] at H
        by_cases c57 : x56_22 = true
        ·
         subst c57
         rw [if_pos rfl] at H
         exact absurd H (by simp)
        ·
         replace c57 := Bool.eq_false_iff.mpr c57
         subst c57
         rw [if_neg (show ¬ (false = true) by decide)] at H
         replace H := Option.bind_eq_some_iff.mp H
         obtain ⟨⟨t483, t484⟩, A580, H⟩ := H
         (try dsimp only at H)
         have A58 := Aside0.mk A580
         clear A580
         replace H := Option.bind_eq_some_iff.mp H
         obtain ⟨t485, A590, H⟩ := H
         (try dsimp only at H)
         have A59 := Aside0.mk A590
         clear A590
         by_cases c60 : t485 < 0
         ·
          rw [if_pos c60] at H
          have c60b0 : decide (t485 < 0) = true := decide_eq_true c60
          clear c60
          exact absurd H (by simp)
         ·
          rw [if_neg c60] at H
          have c60b0 : decide (t485 < 0) = false := decide_eq_false c60
          clear c60
          by_cases c61 : t485 = t483
          ·
           rw [if_pos c61] at H
           have c61b0 : (t485 == t483) = true := beq_iff_eq.mpr c61
           have c61b1 : (t485 != t483) = false := bne_eq_false_iff_eq.mpr c61
           clear c61
           replace H := Option.bind_eq_some_iff.mp H
           obtain ⟨⟨t486, t489, t492, t495⟩, A620, H⟩ := H
           (try dsimp only at H)
           have A62 := Aside0.mk A620
           clear A620
           replace H := Option.bind_eq_some_iff.mp H
           obtain ⟨t498, A630, H⟩ := H
           (try dsimp only at H)
           have A63 := Aside0.mk A630
           clear A630
           replace H := Option.bind_eq_some_iff.mp H
           obtain ⟨t501, A640, H⟩ := H
           (try dsimp only at H)
           have A64 := Aside0.mk A640
           clear A640
           by_cases c65 : t501 = true
           ·
            subst c65
            rw [if_pos rfl] at H
            replace H := Option.bind_eq_some_iff.mp H
            obtain ⟨t502, A660, H⟩ := H
            (try dsimp only at H)
            have A66 := Aside0.mk A660
            clear A660
            by_cases c67 : t502 < 0
            ·
             rw [if_pos c67] at H
             have c67b0 : decide (t502 < 0) = true := decide_eq_true c67
             clear c67
             exact absurd H (by simp)
            ·
             rw [if_neg c67] at H
             have c67b0 : decide (t502 < 0) = false := decide_eq_false c67
             clear c67
             by_cases c68 : t502 = t483
             ·
              rw [if_pos c68] at H
              have c68b0 : (t502 == t483) = true := beq_iff_eq.mpr c68
              have c68b1 : (t502 != t483) = false := bne_eq_false_iff_eq.mpr c68
              clear c68
              clear H
              go_wp2_with (first | ((with_reducible refine gate_callee (f := 36) rfl ?_); refine goesL_ (some 59) rfl rfl Try.func36 z24_38 rfl #[.slice Ao44 t460.length co44, .int .i64 1] rfl z24_5 ?_; (with_reducible refine (laws_markIntS.calls kj22 (fun k_ => some k_ = (.slice Ao44 t460.length co44 : Value).ownBlock) (.slice Ao44 t460.length co44) t460 1 t483 t484 w _ ?side1 ?side2 A58.out).mono ?_); (case side1 => repeat (first | (with_reducible first | exact HB.out | apply below_alloc | apply pw_below_drewN | apply below_drew1 | refine below_set ?_ GE430.out | refine below_set ?_ GE459.out) | exact HB.out)); (case side2 => exact Kd.R_tight rfl HO_10.out); rintro e w69 ⟨rfl, hy0, hb, hkp⟩; refine ⟨_, rfl, ?_⟩; have n0_ := Aside0.mk (Kd.R_mono (ok' := fun k_ => some k_ ≠ (.slice Ao44 t460.length co44 : Value).ownBlock ∧ some k_ ≠ (.slice Ao37 t478.length co37 : Value).ownBlock) (Kd.R_keptB (HO_8.out) hkp (fun k_ hk_ hs_ => (hk_.1) hs_)) (fun k_ hk_ => ⟨(by first | exact hk_.1.1 | simp_all), z24_19⟩)); have n1_ := Aside0.mk (Kd.R_reok rfl hy0 (fun k_ e_ => HO_10.out.1 k_ e_)); have n2_ := Aside0.mk (Kd.R_mono (ok' := fun k_ => some k_ ≠ (.slice Ao45 t444.length co45 : Value).ownBlock ∧ some k_ ≠ (.slice Ao44 t460.length co44 : Value).ownBlock) (Kd.R_keptB (HO_460000.out) hkp (fun k_ hk_ hs_ => (hk_.2) hs_)) (fun k_ hk_ => ⟨(by first | exact hk_.1.1 | simp_all), z24_19⟩)); have n3_ := Aside0.mk (Kd.R_mono (ok' := fun k_ => True) (Kd.R_keptB ((Kd.R_apart' HO_460001.out (Kd.R_typed HO_10.out) (by decide))) hkp (fun k_ hk_ hs_ => (hk_.2) hs_)) (fun k_ hk_ => trivial)); have n4_ := Aside0.mk (Kd.R_mono (ok' := fun k_ => True) (Kd.R_keptB ((Kd.R_apart' HO_460002.out (Kd.R_typed HO_10.out) (by decide))) hkp (fun k_ hk_ hs_ => (hk_.2) hs_)) (fun k_ hk_ => trivial)); have n5_ := Aside0.mk (Kd.R_mono (ok' := fun k_ => True) (Kd.R_keptB ((Kd.R_apart' HO_460003.out (Kd.R_typed HO_10.out) (by decide))) hkp (fun k_ hk_ hs_ => (hk_.2) hs_)) (fun k_ hk_ => trivial)); have n6_ := Aside0.mk (blk_kept z24_2 hkp (fun hs_ => (fun e_ => (Kd.R_ne HO_10.out BK430.out (by decide)) e_) hs_)); have n7_ := Aside0.mk (blk_kept z24_6 hkp (fun hs_ => (fun e_ => (Kd.R_ne HO_10.out BK459.out (by decide)) e_) hs_)); have n8_ := Aside0.mk (hb); clear HO_8; clear HO_10; clear HO_460000; clear HO_460001; clear HO_460002; clear HO_460003; clear BK430; clear BK459; clear HB; have HO_8 := n0_; have HO_10 := n1_; have HO_460000 := n2_; have HO_460001 := n3_; have HO_460002 := n4_; have HO_460003 := n5_; have BK430 := n6_; have BK459 := n7_; have HB := n8_; clear n0_ n1_ n2_ n3_ n4_ n5_ n6_ n7_ n8_; (try clear hb); (try clear hkp); (try clear hy0)) | ((with_reducible refine gate_callee (f := 37) rfl ?_); refine goesL_ (some 62) rfl rfl Try.func37 z24_38 rfl #[.slice Ao44 t484.length co44, .int .i64 1] rfl z24_29 ?_; (with_reducible refine (laws_heldIntS.calls kj22 _ _ t484 1 t485 _ ?side1 ?side2 A59.out).mono ?_); (case side1 => repeat (first | exact (Kd.R_reads' HO_10.out).2.2 | (with_reducible refine Kd.C_alloc ?_ _) | (with_reducible refine Kd.C_drewN ?_ _) | (with_reducible refine Kd.C_drew ?_))); (case side2 => rw [show t484.length = t460.length from (Kd.R_reads' HO_10.out).1.symm]; exact (Kd.R_reads' HO_10.out).2.1); rintro e w' ⟨rfl, ⟨nd, rfl⟩⟩; refine ⟨_, rfl, ?_⟩; have hnb70 := NB430_459.out; have hnc70 := NB459_430.out; have hcz71_0 : w69.cell? ⟨gb430, 0, none⟩ = some (.slice A0_0 l0_0.length c0_0) := (blk_cell BK430.out 0).trans rfl; have hcz71_1 : w69.cell? ⟨gb430, 1, none⟩ = some (.slice A0_1 l0_1.length c0_1) := (blk_cell BK430.out 1).trans rfl; have hcz71_2 : w69.cell? ⟨gb430, 2, none⟩ = some (.slice A0_2 l0_2.length c0_2) := (blk_cell BK430.out 2).trans rfl; have hcz71_3 : w69.cell? ⟨gb430, 3, none⟩ = some (.slice A0_3 l0_3.length c0_3) := (blk_cell BK430.out 3).trans rfl; have hfz71_0 := blk_frozen BK430.out 0; have hfz71_1 := blk_frozen BK430.out 1; have hfz71_2 := blk_frozen BK430.out 2; have hfz71_3 := blk_frozen BK430.out 3) | ((with_reducible refine gate_callee (f := 11) rfl ?_); refine goesL_ (some 69) rfl rfl Try.func11 z24_38 rfl #[.agg #[.slice A0_0 l0_0.length c0_0, .slice A0_1 l0_1.length c0_1, .slice A0_2 l0_2.length c0_2, .slice A0_3 l0_3.length c0_3]] rfl z24_5 ?_; (with_reducible refine (laws_toState.calls kj22 _ _ l0_0 _ _ l0_1 _ _ l0_2 _ _ l0_3 t486 t489 t492 t495 _ ?side1 ?side2 ?side3 ?side4 ?side5 ?side6 ?side7 ?side8 A62.out).mono ?_); (case side1 => repeat (first | exact (Kd.C_below HR0_0.out z24_0) | (with_reducible refine Kd.C_alloc ?_ _) | (with_reducible refine Kd.C_drewN ?_ _) | (with_reducible refine Kd.C_drew ?_))); (case side2 => exact HC0_0.out); (case side3 => repeat (first | exact (Kd.C_below HR0_1.out z24_0) | (with_reducible refine Kd.C_alloc ?_ _) | (with_reducible refine Kd.C_drewN ?_ _) | (with_reducible refine Kd.C_drew ?_))); (case side4 => exact HC0_1.out); (case side5 => repeat (first | exact (Kd.C_below HR0_2.out z24_0) | (with_reducible refine Kd.C_alloc ?_ _) | (with_reducible refine Kd.C_drewN ?_ _) | (with_reducible refine Kd.C_drew ?_))); (case side6 => exact HC0_2.out); (case side7 => repeat (first | exact (Kd.C_below HR0_3.out z24_0) | (with_reducible refine Kd.C_alloc ?_ _) | (with_reducible refine Kd.C_drewN ?_ _) | (with_reducible refine Kd.C_drew ?_))); (case side8 => exact HC0_3.out); rintro e w72 ⟨v487, v490, v493, v496, rfl, ho0, ho1, ho2, ho3, hb⟩; refine ⟨_, rfl, ?_⟩; have n0_ := Aside0.mk (Kd.R_elder' z24_26 (Kd.R_base ho0) hb); have n1_ := Aside0.mk (Kd.R_elder' z24_21 (Kd.R_base ho0) hb); have n2_ := Aside0.mk (Kd.R_elder' z24_20 (Kd.R_base ho0) hb); have n3_ := Aside0.mk (Kd.R_elder' z24_32 (Kd.R_base ho1) hb); have n4_ := Aside0.mk (Kd.R_elder' z24_31 (Kd.R_base ho2) hb); have n5_ := Aside0.mk (Kd.R_elder' z24_30 (Kd.R_base ho3) hb); have n6_ := Aside0.mk (Kd.R_lower (Kd.R_new' (Kd.R_new' (Kd.R_new' ho0 (Kd.R_lt z24_26)) (Kd.R_lt z24_21)) (Kd.R_lt z24_20)) (below_size z24_0)); have n7_ := Aside0.mk (Kd.R_lower (Kd.R_new' ho1 (Kd.R_lt z24_32)) (below_size z24_0)); have n8_ := Aside0.mk (Kd.R_lower (Kd.R_new' ho2 (Kd.R_lt z24_31)) (below_size z24_0)); have n9_ := Aside0.mk (Kd.R_lower (Kd.R_new' ho3 (Kd.R_lt z24_30)) (below_size z24_0)); have n10_ := Aside0.mk (blk_below (g := gb430) (o := .cells #[.slice A0_0 l0_0.length c0_0, .slice A0_1 l0_1.length c0_1, .slice A0_2 l0_2.length c0_2, .slice A0_3 l0_3.length c0_3] 27 (0, 0)) z24_2 hb); have n11_ := Aside0.mk (blk_below (g := gb459) (o := .cells #[.slice Ao37 t478.length co37, .slice Ao40 t479.length co40, .slice Ao41 t480.length co41, .slice Ao42 t481.length co42] 36 (0, 0)) z24_6 hb); have n12_ := Aside0.mk (below_step z24_0 hb); clear HO_8; clear HO_10; clear HO_460000; clear HO_460001; clear HO_460002; clear HO_460003; clear BK430; clear BK459; clear HB; have HO_8 := n0_; have HO_10 := n1_; have HO_460000 := n2_; have HO_460001 := n3_; have HO_460002 := n4_; have HO_460003 := n5_; have HO488 := n6_; have HO491 := n7_; have HO494 := n8_; have HO497 := n9_; have BK430 := n10_; have BK459 := n11_; have HB := n12_; clear n0_ n1_ n2_ n3_ n4_ n5_ n6_ n7_ n8_ n9_ n10_ n11_ n12_; (try clear ho0); (try clear ho1); (try clear ho2); (try clear ho3); obtain ⟨Ao73, co73, eo73⟩ := Kd.R_slice HO488.out; subst eo73; obtain ⟨Ao74, co74, eo74⟩ := Kd.R_slice HO491.out; subst eo74; obtain ⟨Ao75, co75, eo75⟩ := Kd.R_slice HO494.out; subst eo75; obtain ⟨Ao76, co76, eo76⟩ := Kd.R_slice HO497.out; subst eo76) | ((with_reducible refine gate_callee (f := 34) rfl ?_); refine goesL_ (some 72) rfl rfl Try.func34 z24_38 rfl #[.agg #[.slice Ao73 t486.length co73, .slice Ao74 t489.length co74, .slice Ao75 t492.length co75, .slice Ao76 t495.length co76], .string a1, .string a2] rfl z24_5 ?_; (with_reducible refine (impl_MapOf.calls kj22 _ _ t486 _ _ t489 _ _ t492 _ _ t495 a1 a2 t498 _ ?side1 ?side2 ?side3 ?side4 ?side5 ?side6 ?side7 ?side8 A63.out).mono ?_); (case side1 => repeat (first | exact (Kd.R_reads' HO488.out).2.2 | (with_reducible refine Kd.C_alloc ?_ _) | (with_reducible refine Kd.C_drewN ?_ _) | (with_reducible refine Kd.C_drew ?_))); (case side2 => exact (Kd.R_reads' HO488.out).2.1); (case side3 => repeat (first | exact (Kd.R_reads' HO491.out).2.2 | (with_reducible refine Kd.C_alloc ?_ _) | (with_reducible refine Kd.C_drewN ?_ _) | (with_reducible refine Kd.C_drew ?_))); (case side4 => exact (Kd.R_reads' HO491.out).2.1); (case side5 => repeat (first | exact (Kd.R_reads' HO494.out).2.2 | (with_reducible refine Kd.C_alloc ?_ _) | (with_reducible refine Kd.C_drewN ?_ _) | (with_reducible refine Kd.C_drew ?_))); (case side6 => exact (Kd.R_reads' HO494.out).2.1); (case side7 => repeat (first | exact (Kd.R_reads' HO497.out).2.2 | (with_reducible refine Kd.C_alloc ?_ _) | (with_reducible refine Kd.C_drewN ?_ _) | (with_reducible refine Kd.C_drew ?_))); (case side8 => exact (Kd.R_reads' HO497.out).2.1); rintro e w77 ⟨v499, rfl, ho0, hb⟩; refine ⟨_, rfl, ?_⟩; have n0_ := Aside0.mk (Kd.R_elder' z24_26 (Kd.R_base ho0) hb); have n1_ := Aside0.mk (Kd.R_elder' z24_21 (Kd.R_base ho0) hb); have n2_ := Aside0.mk (Kd.R_elder' z24_20 (Kd.R_base ho0) hb); have n3_ := Aside0.mk (Kd.R_below z24_32 hb); have n4_ := Aside0.mk (Kd.R_below z24_31 hb); have n5_ := Aside0.mk (Kd.R_below z24_30 hb); have n6_ := Aside0.mk (Kd.R_elder' (by (with_reducible repeat (first | apply Kd.R_alloc | apply Kd.R_drewN | apply Kd.R_drew)); exact HO488.out) (Kd.R_base ho0) hb); have n7_ := Aside0.mk (Kd.R_below (by (with_reducible repeat (first | apply Kd.R_alloc | apply Kd.R_drewN | apply Kd.R_drew)); exact HO491.out) hb); have n8_ := Aside0.mk (Kd.R_below (by (with_reducible repeat (first | apply Kd.R_alloc | apply Kd.R_drewN | apply Kd.R_drew)); exact HO494.out) hb); have n9_ := Aside0.mk (Kd.R_below (by (with_reducible repeat (first | apply Kd.R_alloc | apply Kd.R_drewN | apply Kd.R_drew)); exact HO497.out) hb); have n10_ := Aside0.mk (Kd.R_lower (Kd.R_new' (Kd.R_new' (Kd.R_new' (Kd.R_new' ho0 (Kd.R_lt z24_26)) (Kd.R_lt z24_21)) (Kd.R_lt z24_20)) (Kd.R_lt (by (with_reducible repeat (first | apply Kd.R_alloc | apply Kd.R_drewN | apply Kd.R_drew)); exact HO488.out))) (below_size z24_0)); have n11_ := Aside0.mk (blk_below (g := gb430) (o := .cells #[.slice A0_0 l0_0.length c0_0, .slice A0_1 l0_1.length c0_1, .slice A0_2 l0_2.length c0_2, .slice A0_3 l0_3.length c0_3] 27 (0, 0)) z24_2 hb); have n12_ := Aside0.mk (blk_below (g := gb459) (o := .cells #[.slice Ao37 t478.length co37, .slice Ao40 t479.length co40, .slice Ao41 t480.length co41, .slice Ao42 t481.length co42] 36 (0, 0)) z24_6 hb); have n13_ := Aside0.mk (below_step z24_0 hb); clear HO_8; clear HO_10; clear HO_460000; clear HO_460001; clear HO_460002; clear HO_460003; clear HO488; clear HO491; clear HO494; clear HO497; clear BK430; clear BK459; clear HB; have HO_8 := n0_; have HO_10 := n1_; have HO_460000 := n2_; have HO_460001 := n3_; have HO_460002 := n4_; have HO_460003 := n5_; have HO488 := n6_; have HO491 := n7_; have HO494 := n8_; have HO497 := n9_; have HO500 := n10_; have BK430 := n11_; have BK459 := n12_; have HB := n13_; clear n0_ n1_ n2_ n3_ n4_ n5_ n6_ n7_ n8_ n9_ n10_ n11_ n12_ n13_; (try clear ho0); obtain ⟨Ao78, co78, eo78⟩ := Kd.R_slice HO500.out; subst eo78) | ((with_reducible refine gate_callee (f := 35) rfl ?_); refine goesL_ (some 75) rfl rfl Try.func35 z24_38 rfl #[.slice Ao78 t498.length co78, .slice Ao45 t444.length co45] rfl z24_5 ?_; (with_reducible refine (laws_eqIntS.calls kj22 _ _ t498 _ _ t444 true _ ?side1 ?side2 ?side3 ?side4 A64.out).mono ?_); (case side1 => repeat (first | exact (Kd.R_reads' HO500.out).2.2 | (with_reducible refine Kd.C_alloc ?_ _) | (with_reducible refine Kd.C_drewN ?_ _) | (with_reducible refine Kd.C_drew ?_))); (case side2 => exact (Kd.R_reads' HO500.out).2.1); (case side3 => repeat (first | exact (Kd.R_reads' HO_8.out).2.2 | (with_reducible refine Kd.C_alloc ?_ _) | (with_reducible refine Kd.C_drewN ?_ _) | (with_reducible refine Kd.C_drew ?_))); (case side4 => exact (Kd.R_reads' HO_8.out).2.1); rintro e w' ⟨rfl, ⟨nd, rfl⟩⟩; refine ⟨_, rfl, ?_⟩) | ((with_reducible refine gate_callee (f := 37) rfl ?_); refine goesL_ (some 79) rfl rfl Try.func37 z24_38 rfl #[.slice Ao44 t484.length co44, .int .i64 1] rfl z24_29 ?_; (with_reducible refine (laws_heldIntS.calls kj22 _ _ t484 1 t502 _ ?side1 ?side2 A66.out).mono ?_); (case side1 => repeat (first | exact (Kd.R_reads' HO_10.out).2.2 | (with_reducible refine Kd.C_alloc ?_ _) | (with_reducible refine Kd.C_drewN ?_ _) | (with_reducible refine Kd.C_drew ?_))); (case side2 => rw [show t484.length = t460.length from (Kd.R_reads' HO_10.out).1.symm]; exact (Kd.R_reads' HO_10.out).2.1); rintro e w' ⟨rfl, ⟨nd, rfl⟩⟩; refine ⟨_, rfl, ?_⟩))
              go_ret
              exact ⟨z24_28, z24_0⟩
             ·
              rw [if_neg c68] at H
              have c68b0 : (t502 == t483) = false := beq_eq_false_iff_ne.mpr c68
              have c68b1 : (t502 != t483) = true := bne_iff_ne.mpr c68
              exact absurd H (by simp)
           ·
            replace c65 := Bool.eq_false_iff.mpr c65
            subst c65
            rw [if_neg (show ¬ (false = true) by decide)] at H
            exact absurd H (by simp)
          ·
           rw [if_neg c61] at H
           have c61b0 : (t485 == t483) = false := beq_eq_false_iff_ne.mpr c61
           have c61b1 : (t485 != t483) = true := bne_iff_ne.mpr c61
           exact absurd H (by simp)
     ·
      replace c21 := Bool.eq_false_iff.mpr c21
      subst c21
      rw [if_neg (show ¬ (false = true) by decide)] at H
      exact absurd H (by simp)
    ·
     replace c18 := Bool.eq_false_iff.mpr c18
     subst c18
     rw [if_neg (show ¬ (false = true) by decide)] at H
     exact absurd H (by simp)
end Go.Proofs.Ytbanogkoaplcdaa.QFnExactMapOf
