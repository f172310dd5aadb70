/- What the functions behind Act compute, and that the program's calls come to just that. Written by a program of this session on the base of the kit's print. No condition. -/
import Derived.Test.YtmohbiagcbfkpaaVFnExactLivesOfQActx0
import Derived.Test.YtmohbiagcbfkpaaVFnExactLivesOfQActx19
import Derived.Test.YtmohbiagcbfkpaaVFnExactLivesOfQActx20
import Derived.Test.YtmohbiagcbfkpaaVFnExactLivesOfQActx21
import Derived.Test.YtmohbiagcbfkpaaVFnExactLivesOfQActx22
import Derived.Test.YtmohbiagcbfkpaaVFnExactLivesOfQActx23
import Derived.Test.YtmohbiagcbfkpaaVFnExactLivesOfQActx24
namespace Go.Proofs.Ytmohbiagcbfkpaa.QAct
open Go.RowKit Go.Proofs.YtmohbiagcbfkpaaW.PrintWords Go.Proofs.YtmohbiagcbfkpaaW.PrintLast Go.Proofs.YtmohbiagcbfkpaaW.PrintMore
attribute [local go_sem] max2_int min2_int max_two min_two max_three min_three max_four min_four   -- for this text's walks alone
set_option linter.unusedVariables false
set_option linter.unusedSimpArgs false
theorem z25_44 {P : Prop} (h : P := by (with_reducible repeat (first | apply Kd.R_alloc | apply Kd.R_drewN | apply Kd.R_drew)); exact Kd.R_mono HO706.out (fun _ hk => trivial)) : P := h
theorem z25_43 {P : Prop} (h : P := by (with_reducible repeat (first | apply Kd.R_alloc | apply Kd.R_drewN | apply Kd.R_drew)); exact Kd.R_mono HO709.out (fun _ hk => trivial)) : P := h
theorem z25_42 {P : Prop} (h : P := by (with_reducible repeat (first | apply Kd.R_alloc | apply Kd.R_drewN | apply Kd.R_drew)); exact Kd.R_mono HO715.out (fun _ hk => trivial)) : P := h
theorem z25_41 {P : Prop} (h : P := by (with_reducible repeat (first | apply Kd.R_alloc | apply Kd.R_drewN | apply Kd.R_drew)); exact Kd.R_mono HO703.out (fun _ hk => ⟨hk.2.2.1, hk.2.1⟩)) : P := h
theorem z25_40 {P : Prop} (h : P := by (with_reducible repeat (first | apply Kd.R_alloc | apply Kd.R_drewN | apply Kd.R_drew)); exact Kd.R_mono HO712.out (fun _ hk => ⟨hk.1.1.2, hk.1.2⟩)) : P := h
theorem z25_39 {P : Prop} (h : P := by (with_reducible repeat (first | apply Kd.R_alloc | apply Kd.R_drewN | apply Kd.R_drew)); exact Kd.R_mono HO719.out (fun _ hk => ⟨hk.2.1, hk.2.2.1⟩)) : P := h
theorem z25_38 {P : Prop} (h : P := by (with_reducible repeat (first | apply Kd.R_alloc | apply Kd.R_drewN | apply Kd.R_drew)); exact HO745.out) : P := h
theorem z25_37 {P : Prop} (h : P := by (with_reducible repeat (first | apply Kd.R_alloc | apply Kd.R_drewN | apply Kd.R_drew)); exact HO748.out) : P := h
theorem z25_36 {P : Prop} (h : P := by (with_reducible repeat (first | apply Kd.R_alloc | apply Kd.R_drewN | apply Kd.R_drew)); exact HO754.out) : P := h
theorem z25_35 {P : Prop} (h : P := by simp only [Act.put, List.setIfInBounds_toArray, List.set_cons_zero, List.set_cons_succ, i64_w, i32_w]; rfl) : P := h
theorem z25_34 {P : Prop} (h : P := by (try simp only [List.map_toArray, List.map_cons, List.map_nil]); first | done | (rw [show t741.length = t717.length from (Kd.R_reads' HO_12.out).1.symm] <;> rfl) | rfl | (simp only [List.length_drop, List.length_take]; rfl)) : P := h
theorem z25_33 {P : Prop} (h : P := by kernel_rfl) : P := h
theorem z25_32 {P : Prop} (h : P := by (with_reducible repeat (first | apply Kd.R_alloc | apply Kd.R_drewN | apply Kd.R_drew)); exact HO751.out) : P := h
theorem z25_29 {P : Prop} (h : P := by (with_reducible repeat (first | apply Kd.R_alloc | apply Kd.R_drewN | apply Kd.R_drew)); exact HO719.out) : P := h
theorem z25_28 {P : Prop} (h : P := by (with_reducible repeat (first | apply Kd.R_alloc | apply Kd.R_drewN | apply Kd.R_drew)); exact HO706.out) : P := h
theorem z25_27 {P : Prop} (h : P := by (with_reducible repeat (first | apply Kd.R_alloc | apply Kd.R_drewN | apply Kd.R_drew)); exact HO709.out) : P := h
theorem z25_26 {P : Prop} (h : P := by (with_reducible repeat (first | apply Kd.R_alloc | apply Kd.R_drewN | apply Kd.R_drew)); exact HO712.out) : P := h
theorem z25_25 {P : Prop} (h : P := by (with_reducible repeat (first | apply Kd.R_alloc | apply Kd.R_drewN | apply Kd.R_drew)); exact HO715.out) : P := h
theorem z25_24 {P : Prop} (h : P := by (with_reducible repeat (first | apply Kd.R_alloc | apply Kd.R_drewN | apply Kd.R_drew)); exact (Kd.R_mono (Kd.R_far (p := ⟨gb716, 3, none⟩) (Kd.R_far (p := ⟨gb716, 2, none⟩) (Kd.R_far (p := ⟨gb716, 1, none⟩) (Kd.R_far (p := ⟨gb716, 0, none⟩) (Kd.R_types HO697.out BK716.out (by decide)) (fun _ hk => hk.2) (.slice Ao38 t704.length co38)) (fun _ hk => hk.2) (.slice Ao41 t707.length co41)) (fun _ hk => hk.2) (.slice Ao42 t710.length co42)) (fun _ hk => hk.2) (.slice Ao43 t713.length co43)) (fun _ h_ => h_.1))) : P := h
theorem z25_23 {P : Prop} (h : P := by (with_reducible repeat (first | apply Kd.R_alloc | apply Kd.R_drewN | apply Kd.R_drew)); exact (Kd.R_mono (Kd.R_far (p := ⟨gb716, 3, none⟩) (Kd.R_far (p := ⟨gb716, 2, none⟩) (Kd.R_far (p := ⟨gb716, 1, none⟩) (Kd.R_far (p := ⟨gb716, 0, none⟩) (Kd.R_types HO703.out BK716.out (by decide)) (fun _ hk => hk.2) (.slice Ao38 t704.length co38)) (fun _ hk => hk.2) (.slice Ao41 t707.length co41)) (fun _ hk => hk.2) (.slice Ao42 t710.length co42)) (fun _ hk => hk.2) (.slice Ao43 t713.length co43)) (fun _ h_ => h_.1))) : P := h
theorem z25_22 {P : Prop} (h : P := by (with_reducible repeat (first | apply Kd.R_alloc | apply Kd.R_drewN | apply Kd.R_drew)); exact (Kd.R_mono (Kd.R_far (p := ⟨gb716, 3, none⟩) (Kd.R_far (p := ⟨gb716, 2, none⟩) (Kd.R_far (p := ⟨gb716, 1, none⟩) (Kd.R_far (p := ⟨gb716, 0, none⟩) (Kd.R_types HO706.out BK716.out (by decide)) (fun _ hk => hk.2) (.slice Ao38 t704.length co38)) (fun _ hk => hk.2) (.slice Ao41 t707.length co41)) (fun _ hk => hk.2) (.slice Ao42 t710.length co42)) (fun _ hk => hk.2) (.slice Ao43 t713.length co43)) (fun _ h_ => h_.1))) : P := h
theorem z25_21 {P : Prop} (h : P := by (with_reducible repeat (first | apply Kd.R_alloc | apply Kd.R_drewN | apply Kd.R_drew)); exact (Kd.R_mono (Kd.R_far (p := ⟨gb716, 3, none⟩) (Kd.R_far (p := ⟨gb716, 2, none⟩) (Kd.R_far (p := ⟨gb716, 1, none⟩) (Kd.R_far (p := ⟨gb716, 0, none⟩) (Kd.R_types HO709.out BK716.out (by decide)) (fun _ hk => hk.2) (.slice Ao38 t704.length co38)) (fun _ hk => hk.2) (.slice Ao41 t707.length co41)) (fun _ hk => hk.2) (.slice Ao42 t710.length co42)) (fun _ hk => hk.2) (.slice Ao43 t713.length co43)) (fun _ h_ => h_.1))) : P := h
theorem z25_20 {P : Prop} (h : P := by (with_reducible repeat (first | apply Kd.R_alloc | apply Kd.R_drewN | apply Kd.R_drew)); exact (Kd.R_mono (Kd.R_far (p := ⟨gb716, 3, none⟩) (Kd.R_far (p := ⟨gb716, 2, none⟩) (Kd.R_far (p := ⟨gb716, 1, none⟩) (Kd.R_far (p := ⟨gb716, 0, none⟩) (Kd.R_types HO715.out BK716.out (by decide)) (fun _ hk => hk.2) (.slice Ao38 t704.length co38)) (fun _ hk => hk.2) (.slice Ao41 t707.length co41)) (fun _ hk => hk.2) (.slice Ao42 t710.length co42)) (fun _ hk => hk.2) (.slice Ao43 t713.length co43)) (fun _ h_ => h_.1))) : P := h
theorem z25_19 {P : Prop} (h : P := by (with_reducible repeat (first | apply Kd.R_alloc | apply Kd.R_drewN | apply Kd.R_drew)); exact HO_717000.out) : P := h
theorem z25_18 {P : Prop} (h : P := by (with_reducible repeat (first | apply Kd.R_alloc | apply Kd.R_drewN | apply Kd.R_drew)); exact HO_717001.out) : P := h
theorem z25_17 {P : Prop} (h : P := by (with_reducible repeat (first | apply Kd.R_alloc | apply Kd.R_drewN | apply Kd.R_drew)); exact HO_717003.out) : P := h
theorem z25_16 {P : Prop} (h : P := by (with_reducible repeat (first | apply Kd.R_alloc | apply Kd.R_drewN | apply Kd.R_drew)); exact HO_10.out) : P := h
theorem z25_15 {P : Prop} (h : P := by (with_reducible repeat (first | apply Kd.R_alloc | apply Kd.R_drewN | apply Kd.R_drew)); exact HO_12.out) : P := h
theorem z25_14 {P : Prop} (h : P := by (with_reducible repeat (first | apply Kd.R_alloc | apply Kd.R_drewN | apply Kd.R_drew)); exact HO_717002.out) : P := h
theorem z25_13 {P : Prop} (h : P := by first | rfl | (simp [errW_none, errW_some] <;> rfl) | (simp [*, errW_none, errW_some] <;> rfl)) : P := h
theorem z25_11 {P : Prop} (h : P := by (with_reducible repeat (first | apply Kd.R_alloc | apply Kd.R_drewN | apply Kd.R_drew)); exact HO703.out) : P := h
theorem z25_10 {P : Prop} (h : P := by (with_reducible repeat (first | apply Kd.R_alloc | apply Kd.R_drewN | apply Kd.R_drew)); exact HO691.out) : P := h
theorem z25_9 {P : Prop} (h : P := by (with_reducible repeat (first | apply Kd.R_alloc | apply Kd.R_drewN | apply Kd.R_drew)); exact HO694.out) : P := h
theorem z25_8 {P : Prop} (h : P := by (with_reducible repeat (first | apply Kd.R_alloc | apply Kd.R_drewN | apply Kd.R_drew)); exact HO700.out) : P := h
theorem z25_7 {P : Prop} (h : P := by (with_reducible repeat (first | apply Kd.R_alloc | apply Kd.R_drewN | apply Kd.R_drew)); exact HO697.out) : P := h
theorem z25_6 {P : Prop} (h : P := by (with_reducible repeat (first | apply Kd.R_alloc | apply Kd.R_drewN | apply Kd.R_drew)); exact (Kd.R_mono (Kd.R_far (p := ⟨gb716, 3, none⟩) (Kd.R_far (p := ⟨gb716, 2, none⟩) (Kd.R_far (p := ⟨gb716, 1, none⟩) (Kd.R_far (p := ⟨gb716, 0, none⟩) (Kd.R_types HO712.out BK716.out (by decide)) (fun _ hk => hk.2) (.slice Ao38 t704.length co38)) (fun _ hk => hk.2) (.slice Ao41 t707.length co41)) (fun _ hk => hk.2) (.slice Ao42 t710.length co42)) (fun _ hk => hk.2) (.slice Ao43 t713.length co43)) (fun _ h_ => h_.1))) : P := h
theorem z25_5 {P : Prop} (h : P := by first | rfl | (simp only [List.map_toArray, List.map_cons, List.map_nil]; first | done | rfl)) : P := h
theorem z25_4 {P : Prop} (h : P := by (with_reducible repeat (first | refine blk_drewN ?_ _ | refine blk_drew ?_ | refine blk_alloc ?_ _)); exact BK716.out) : P := h
theorem z25_3 {P : Prop} (h : P := by (with_reducible repeat (first | refine blk_drewN ?_ _ | refine blk_drew ?_ | refine blk_alloc ?_ _)); exact BK687.out) : P := h
theorem z25_2 {P : Prop} (h : P := by repeat (first | (with_reducible first | exact HB.out | apply below_alloc | apply pw_below_drewN | apply below_drew1) | exact HB.out)) : P := h
theorem z25_1 {P : Prop} (h : P := by repeat (first | (with_reducible first | exact HB.out | apply below_alloc | apply pw_below_drewN | apply below_drew1 | refine below_set ?_ GE687.out) | exact HB.out)) : P := h
theorem z25_0 {P : Prop} (h : P := by repeat (first | (with_reducible first | exact HB.out | apply below_alloc | apply pw_below_drewN | apply below_drew1 | refine below_set ?_ GE687.out | refine below_set ?_ GE716.out) | exact HB.out)) : P := h
def laws_FnExactLivesOf.j0 : Nat → Bool → ByteArray → ByteArray → List (S134) → List (S134) → Bool → List Int → List (S157) → List (S160) → List (S163) → Option (Bool)
  | 0, _, _, _, _, _, _, _, _, _, _ => none
  | k + 1, x1, x2, x3, x10, x12, x60, x688000, x688001, x688002, x688003 => if x60 = true then (some false) else ((laws_markLiveS.f k x12 1).bind fun bt740 => ((laws_heldLiveS.f k bt740.2 1).bind fun t742 => (if t742 < 0 then (some false) else (if t742 = bt740.1 then ((laws_toState.f k x688000 x688001 x688002 x688003).bind fun bt743 => ((impl_LivesOf.f k bt743.1 bt743.2.1 bt743.2.2.1 bt743.2.2.2 x1 x2 x3).bind fun t755 => ((laws_eqLiveS.f k t755 x10).bind fun t758 => (if t758 = true then ((laws_heldLiveS.f k bt740.2 1).bind fun t759 => (if t759 < 0 then (some false) else (if t759 = bt740.1 then (some true) else (some false)))) else (some false))))) else (some false)))))
def laws_FnExactLivesOf.f (k : Nat) (l0_0 : List Int) (l0_1 : List (S157)) (l0_2 : List (S160)) (l0_3 : List (S163)) (a1 : Bool) (a2 : ByteArray) (a3 : ByteArray) : Option (Bool) := if (a2.size : Int) > 1048576 then (some true) else (if (a3.size : Int) > 1048576 then (some true) else ((laws_szState.f k l0_0 l0_1 l0_2 l0_3 1048576).bind fun t688 => (if t688 < 0 then (some true) else ((laws_toState.f k l0_0 l0_1 l0_2 l0_3).bind fun bt689 => ((spec_LivesOf.f k bt689.1 bt689.2.1 bt689.2.2.1 bt689.2.2.2 a1 a2 a3).bind fun t701 => ((laws_toState.f k l0_0 l0_1 l0_2 l0_3).bind fun bt704 => ((impl_LivesOf.f k bt704.1 bt704.2.1 bt704.2.2.1 bt704.2.2.2 a1 a2 a3).bind fun t717 => ((laws_eqLiveS.f k t717 t701).bind fun t720 => (if t720 = true then ((laws_toState.f k l0_0 l0_1 l0_2 l0_3).bind fun bt721 => ((laws_eqState.f k bt704.1 bt704.2.1 bt704.2.2.1 bt704.2.2.2 bt721.1 bt721.2.1 bt721.2.2.1 bt721.2.2.2).bind fun t733 => (if t733 = true then ((laws_markState.f k bt704.1 bt704.2.1 bt704.2.2.1 bt704.2.2.2 1).bind fun bt734 => (if bt734.1 < 0 then (laws_FnExactLivesOf.j0 k a1 a2 a3 t701 t717 true l0_0 l0_1 l0_2 l0_3) else ((laws_eqLiveS.f k t717 t701).bind fun t739 => (laws_FnExactLivesOf.j0 k a1 a2 a3 t701 t717 (!t739) l0_0 l0_1 l0_2 l0_3)))) else (some false)))) else (some false))))))))))
set_option maxHeartbeats 8000000 in
set_option maxRecDepth 100000 in
theorem laws_FnExactLivesOf.calls_true (k : Nat) (A0_0 : Option Addr) (c0_0 : Nat) (l0_0 : List Int) (A0_1 : Option Addr) (c0_1 : Nat) (l0_1 : List (S157)) (A0_2 : Option Addr) (c0_2 : Nat) (l0_2 : List (S160)) (A0_3 : Option Addr) (c0_3 : Nat) (l0_3 : List (S163)) (a1 : Bool) (a2 : ByteArray) (a3 : ByteArray) (w : World) (hr0_0 : Kd.C (Kd.int .i64) w A0_0 l0_0.length l0_0) (hc0_0 : l0_0.length ≤ c0_0) (hr0_1 : Kd.C k157 w A0_1 l0_1.length l0_1) (hc0_1 : l0_1.length ≤ c0_1) (hr0_2 : Kd.C k160 w A0_2 l0_2.length l0_2) (hc0_2 : l0_2.length ≤ c0_2) (hr0_3 : Kd.C k163 w A0_3 l0_3.length l0_3) (hc0_3 : l0_3.length ≤ c0_3) (h : laws_FnExactLivesOf.f k l0_0 l0_1 l0_2 l0_3 a1 a2 a3 = some true) :
  Calls Try.prog 9 #[.agg #[.slice A0_0 l0_0.length c0_0, .slice A0_1 l0_1.length c0_1, .slice A0_2 l0_2.length c0_2, .slice A0_3 l0_3.length c0_3], .bool a1, .string a2, .string a3] w fun e w' => e = .returned (.bool true) ∧ Below w.heap.size w w' := by
 have hu46 := Try.underlying46
 have hu53 := Try.underlying53
 have HR0_0 := Aside0.mk hr0_0
 have HC0_0 := Aside0.mk hc0_0
 clear hr0_0 hc0_0
 have HR0_1 := Aside0.mk hr0_1
 have HC0_1 := Aside0.mk hc0_1
 clear hr0_1 hc0_1
 have HR0_2 := Aside0.mk hr0_2
 have HC0_2 := Aside0.mk hc0_2
 clear hr0_2 hc0_2
 have HR0_3 := Aside0.mk hr0_3
 have HC0_3 := Aside0.mk hc0_3
 clear hr0_3 hc0_3
 have HB := Aside0.mk (Below.refl w.heap.size w)
 have H : (if (a2.size : Int) > 1048576 then (some true) else (if (a3.size : Int) > 1048576 then (some true) else ((laws_szState.f k l0_0 l0_1 l0_2 l0_3 1048576).bind fun t688 => (if t688 < 0 then (some true) else ((laws_toState.f k l0_0 l0_1 l0_2 l0_3).bind fun bt689 => ((spec_LivesOf.f k bt689.1 bt689.2.1 bt689.2.2.1 bt689.2.2.2 a1 a2 a3).bind fun t701 => ((laws_toState.f k l0_0 l0_1 l0_2 l0_3).bind fun bt704 => ((impl_LivesOf.f k bt704.1 bt704.2.1 bt704.2.2.1 bt704.2.2.2 a1 a2 a3).bind fun t717 => ((laws_eqLiveS.f k t717 t701).bind fun t720 => (if t720 = true then ((laws_toState.f k l0_0 l0_1 l0_2 l0_3).bind fun bt721 => ((laws_eqState.f k bt704.1 bt704.2.1 bt704.2.2.1 bt704.2.2.2 bt721.1 bt721.2.1 bt721.2.2.1 bt721.2.2.2).bind fun t733 => (if t733 = true then ((laws_markState.f k bt704.1 bt704.2.1 bt704.2.2.1 bt704.2.2.2 1).bind fun bt734 => (if bt734.1 < 0 then (laws_FnExactLivesOf.j0 k a1 a2 a3 t701 t717 true l0_0 l0_1 l0_2 l0_3) else ((laws_eqLiveS.f k t717 t701).bind fun t739 => (laws_FnExactLivesOf.j0 k a1 a2 a3 t701 t717 (!t739) l0_0 l0_1 l0_2 l0_3)))) else (some false)))) else (some false))))))))))) = some true := h
 clear h
 by_cases c5 : (a2.size : Int) > 1048576
 ·
  rw [if_pos c5] at H
  have c5b0 : decide (1048576 < (a2.size : Int)) = true := decide_eq_true c5
  have c5b1 : decide (1048576 < a2.size) = true := decide_eq_true (by omega)
  clear c5
  clear H
  go_enter Try.func9, Try.ntmps9
  go_wp2_with (first | ((with_reducible refine gate_dst (N := 4) rfl ?_); refine box_event ?hg (N := 4) ?hd (cs := #[.slice A0_0 l0_0.length c0_0, .slice A0_1 l0_1.length c0_1, .slice A0_2 l0_2.length c0_2, .slice A0_3 l0_3.length c0_3]) (t := 46) ?hr ?_; (case hd => rfl); (case hg => rfl); (case hr => first | (go_simp; done) | (go_simp; rfl)); intro gb687 hg w6 hbox hb; have n0_ := Aside0.mk (below_step z25_2 hb); have n1_ := Aside0.mk (hbox); have n2_ := Aside0.mk ((by rw [hg]; exact (below_size z25_2) : w.heap.size ≤ gb687)); have n3_ := Aside0.mk ((by rw [hg]; exact (below_size z25_2) : w.heap.size ≤ gb687)); clear HB; have HB := n0_; have BK687 := n1_; have GW687 := n2_; have GE687 := n3_; clear n0_ n1_ n2_ n3_; clear hb hbox hg))
  go_ret
  exact ⟨z25_13, z25_1⟩
 ·
  rw [if_neg c5] at H
  have c5b0 : decide (1048576 < (a2.size : Int)) = false := decide_eq_false c5
  have c5b1 : decide (1048576 < a2.size) = false := decide_eq_false (by omega)
  clear c5
  by_cases c7 : (a3.size : Int) > 1048576
  ·
   rw [if_pos c7] at H
   have c7b0 : decide (1048576 < (a3.size : Int)) = true := decide_eq_true c7
   have c7b1 : decide (1048576 < a3.size) = true := decide_eq_true (by omega)
   clear c7
   clear H
   go_enter Try.func9, Try.ntmps9
   go_wp2_with (first | ((with_reducible refine gate_dst (N := 4) rfl ?_); refine box_event ?hg (N := 4) ?hd (cs := #[.slice A0_0 l0_0.length c0_0, .slice A0_1 l0_1.length c0_1, .slice A0_2 l0_2.length c0_2, .slice A0_3 l0_3.length c0_3]) (t := 46) ?hr ?_; (case hd => rfl); (case hg => rfl); (case hr => first | (go_simp; done) | (go_simp; rfl)); intro gb687 hg w8 hbox hb; have n0_ := Aside0.mk (below_step z25_2 hb); have n1_ := Aside0.mk (hbox); have n2_ := Aside0.mk ((by rw [hg]; exact (below_size z25_2) : w.heap.size ≤ gb687)); have n3_ := Aside0.mk ((by rw [hg]; exact (below_size z25_2) : w.heap.size ≤ gb687)); clear HB; have HB := n0_; have BK687 := n1_; have GW687 := n2_; have GE687 := n3_; clear n0_ n1_ n2_ n3_; clear hb hbox hg))
   go_ret
   exact ⟨z25_13, z25_1⟩
  ·
   rw [if_neg c7] at H
   have c7b0 : decide (1048576 < (a3.size : Int)) = false := decide_eq_false c7
   have c7b1 : decide (1048576 < a3.size) = false := decide_eq_false (by omega)
   clear c7
   replace H := Option.bind_eq_some_iff.mp H
   obtain ⟨t688, A90, H⟩ := H
   (try dsimp only at H)
   have A9 := Aside0.mk A90
   clear A90
   by_cases c10 : t688 < 0
   ·
    rw [if_pos c10] at H
    have c10b0 : decide (t688 < 0) = true := decide_eq_true c10
    clear c10
    clear H
    go_enter Try.func9, Try.ntmps9
    go_wp2_with (first | ((with_reducible refine gate_dst (N := 4) rfl ?_); refine box_event ?hg (N := 4) ?hd (cs := #[.slice A0_0 l0_0.length c0_0, .slice A0_1 l0_1.length c0_1, .slice A0_2 l0_2.length c0_2, .slice A0_3 l0_3.length c0_3]) (t := 46) ?hr ?_; (case hd => rfl); (case hg => rfl); (case hr => first | (go_simp; done) | (go_simp; rfl)); intro gb687 hg w11 hbox hb; have n0_ := Aside0.mk (below_step z25_2 hb); have n1_ := Aside0.mk (hbox); have n2_ := Aside0.mk ((by rw [hg]; exact (below_size z25_2) : w.heap.size ≤ gb687)); have n3_ := Aside0.mk ((by rw [hg]; exact (below_size z25_2) : w.heap.size ≤ gb687)); clear HB; have HB := n0_; have BK687 := n1_; have GW687 := n2_; have GE687 := n3_; clear n0_ n1_ n2_ n3_; clear hb hbox hg; have hcz12_0 : w11.cell? ⟨gb687, 0, none⟩ = some (.slice A0_0 l0_0.length c0_0) := (blk_cell BK687.out 0).trans rfl; have hcz12_1 : w11.cell? ⟨gb687, 1, none⟩ = some (.slice A0_1 l0_1.length c0_1) := (blk_cell BK687.out 1).trans rfl; have hcz12_2 : w11.cell? ⟨gb687, 2, none⟩ = some (.slice A0_2 l0_2.length c0_2) := (blk_cell BK687.out 2).trans rfl; have hcz12_3 : w11.cell? ⟨gb687, 3, none⟩ = some (.slice A0_3 l0_3.length c0_3) := (blk_cell BK687.out 3).trans rfl; have hfz12_0 := blk_frozen BK687.out 0; have hfz12_1 := blk_frozen BK687.out 1; have hfz12_2 := blk_frozen BK687.out 2; have hfz12_3 := blk_frozen BK687.out 3) | ((with_reducible refine gate_callee (f := 27) rfl ?_); refine goesL_ (some 25) rfl rfl Try.func27 z25_33 rfl #[.agg #[.slice A0_0 l0_0.length c0_0, .slice A0_1 l0_1.length c0_1, .slice A0_2 l0_2.length c0_2, .slice A0_3 l0_3.length c0_3], .int .i64 1048576] rfl z25_5 ?_; (with_reducible refine (laws_szState.calls k _ _ l0_0 _ _ l0_1 _ _ l0_2 _ _ l0_3 1048576 t688 _ ?side1 ?side2 ?side3 ?side4 ?side5 ?side6 ?side7 ?side8 A9.out).mono ?_); (case side1 => repeat (first | exact (Kd.C_below HR0_0.out HB.out) | (with_reducible refine Kd.C_alloc ?_ _) | (with_reducible refine Kd.C_drewN ?_ _) | (with_reducible refine Kd.C_drew ?_))); (case side2 => exact HC0_0.out); (case side3 => repeat (first | exact (Kd.C_below HR0_1.out HB.out) | (with_reducible refine Kd.C_alloc ?_ _) | (with_reducible refine Kd.C_drewN ?_ _) | (with_reducible refine Kd.C_drew ?_))); (case side4 => exact HC0_1.out); (case side5 => repeat (first | exact (Kd.C_below HR0_2.out HB.out) | (with_reducible refine Kd.C_alloc ?_ _) | (with_reducible refine Kd.C_drewN ?_ _) | (with_reducible refine Kd.C_drew ?_))); (case side6 => exact HC0_2.out); (case side7 => repeat (first | exact (Kd.C_below HR0_3.out HB.out) | (with_reducible refine Kd.C_alloc ?_ _) | (with_reducible refine Kd.C_drewN ?_ _) | (with_reducible refine Kd.C_drew ?_))); (case side8 => exact HC0_3.out); rintro e w13 ⟨rfl, hb⟩; refine ⟨_, rfl, ?_⟩; have n0_ := Aside0.mk (blk_below (g := gb687) (o := .cells #[.slice A0_0 l0_0.length c0_0, .slice A0_1 l0_1.length c0_1, .slice A0_2 l0_2.length c0_2, .slice A0_3 l0_3.length c0_3] 46 (0, 0)) z25_3 hb); have n1_ := Aside0.mk (below_step z25_1 hb); clear BK687; clear HB; have BK687 := n0_; have HB := n1_; clear n0_ n1_))
    go_ret
    exact ⟨z25_13, z25_1⟩
   ·
    rw [if_neg c10] at H
    have c10b0 : decide (t688 < 0) = false := decide_eq_false c10
    clear c10
    replace H := Option.bind_eq_some_iff.mp H
    obtain ⟨⟨t689, t692, t695, t698⟩, A140, H⟩ := H
    (try dsimp only at H)
    have A14 := Aside0.mk A140
    clear A140
    replace H := Option.bind_eq_some_iff.mp H
    obtain ⟨t701, A150, H⟩ := H
    (try dsimp only at H)
    have A15 := Aside0.mk A150
    clear A150
    replace H := Option.bind_eq_some_iff.mp H
    obtain ⟨⟨t704, t707, t710, t713⟩, A160, H⟩ := H
    (try dsimp only at H)
    have A16 := Aside0.mk A160
    clear A160
    replace H := Option.bind_eq_some_iff.mp H
    obtain ⟨t717, A170, H⟩ := H
    (try dsimp only at H)
    have A17 := Aside0.mk A170
    clear A170
    replace H := Option.bind_eq_some_iff.mp H
    obtain ⟨t720, A180, H⟩ := H
    (try dsimp only at H)
    have A18 := Aside0.mk A180
    clear A180
    by_cases c19 : t720 = true
    ·
     subst c19
     rw [if_pos rfl] at H
     replace H := Option.bind_eq_some_iff.mp H
     obtain ⟨⟨t721, t724, t727, t730⟩, A200, H⟩ := H
     (try dsimp only at H)
     have A20 := Aside0.mk A200
     clear A200
     replace H := Option.bind_eq_some_iff.mp H
     obtain ⟨t733, A210, H⟩ := H
     (try dsimp only at H)
     have A21 := Aside0.mk A210
     clear A210
     by_cases c22 : t733 = true
     ·
      subst c22
      rw [if_pos rfl] at H
      replace H := Option.bind_eq_some_iff.mp H
      obtain ⟨⟨t734, t735, t736, t737, t738⟩, A230, H⟩ := H
      (try dsimp only at H)
      have A23 := Aside0.mk A230
      clear A230
      have HC24 := Aside0.mk H
      clear H
      go_enter Try.func9, Try.ntmps9
      try go_wp2_with (first | ((with_reducible refine gate_dst (N := 4) rfl ?_); refine box_event ?hg (N := 4) ?hd (cs := #[.slice A0_0 l0_0.length c0_0, .slice A0_1 l0_1.length c0_1, .slice A0_2 l0_2.length c0_2, .slice A0_3 l0_3.length c0_3]) (t := 46) ?hr ?_; (case hd => rfl); (case hg => rfl); (case hr => first | (go_simp; done) | (go_simp; rfl)); intro gb687 hg w25 hbox hb; have n0_ := Aside0.mk (below_step z25_2 hb); have n1_ := Aside0.mk (hbox); have n2_ := Aside0.mk ((by rw [hg]; exact (below_size z25_2) : w.heap.size ≤ gb687)); have n3_ := Aside0.mk ((by rw [hg]; exact (below_size z25_2) : w.heap.size ≤ gb687)); clear HB; have HB := n0_; have BK687 := n1_; have GW687 := n2_; have GE687 := n3_; clear n0_ n1_ n2_ n3_; clear hb hbox hg; have hcz26_0 : w25.cell? ⟨gb687, 0, none⟩ = some (.slice A0_0 l0_0.length c0_0) := (blk_cell BK687.out 0).trans rfl; have hcz26_1 : w25.cell? ⟨gb687, 1, none⟩ = some (.slice A0_1 l0_1.length c0_1) := (blk_cell BK687.out 1).trans rfl; have hcz26_2 : w25.cell? ⟨gb687, 2, none⟩ = some (.slice A0_2 l0_2.length c0_2) := (blk_cell BK687.out 2).trans rfl; have hcz26_3 : w25.cell? ⟨gb687, 3, none⟩ = some (.slice A0_3 l0_3.length c0_3) := (blk_cell BK687.out 3).trans rfl; have hfz26_0 := blk_frozen BK687.out 0; have hfz26_1 := blk_frozen BK687.out 1; have hfz26_2 := blk_frozen BK687.out 2; have hfz26_3 := blk_frozen BK687.out 3) | ((with_reducible refine gate_callee (f := 27) rfl ?_); refine goesL_ (some 25) rfl rfl Try.func27 z25_33 rfl #[.agg #[.slice A0_0 l0_0.length c0_0, .slice A0_1 l0_1.length c0_1, .slice A0_2 l0_2.length c0_2, .slice A0_3 l0_3.length c0_3], .int .i64 1048576] rfl z25_5 ?_; (with_reducible refine (laws_szState.calls k _ _ l0_0 _ _ l0_1 _ _ l0_2 _ _ l0_3 1048576 t688 _ ?side1 ?side2 ?side3 ?side4 ?side5 ?side6 ?side7 ?side8 A9.out).mono ?_); (case side1 => repeat (first | exact (Kd.C_below HR0_0.out HB.out) | (with_reducible refine Kd.C_alloc ?_ _) | (with_reducible refine Kd.C_drewN ?_ _) | (with_reducible refine Kd.C_drew ?_))); (case side2 => exact HC0_0.out); (case side3 => repeat (first | exact (Kd.C_below HR0_1.out HB.out) | (with_reducible refine Kd.C_alloc ?_ _) | (with_reducible refine Kd.C_drewN ?_ _) | (with_reducible refine Kd.C_drew ?_))); (case side4 => exact HC0_1.out); (case side5 => repeat (first | exact (Kd.C_below HR0_2.out HB.out) | (with_reducible refine Kd.C_alloc ?_ _) | (with_reducible refine Kd.C_drewN ?_ _) | (with_reducible refine Kd.C_drew ?_))); (case side6 => exact HC0_2.out); (case side7 => repeat (first | exact (Kd.C_below HR0_3.out HB.out) | (with_reducible refine Kd.C_alloc ?_ _) | (with_reducible refine Kd.C_drewN ?_ _) | (with_reducible refine Kd.C_drew ?_))); (case side8 => exact HC0_3.out); rintro e w27 ⟨rfl, hb⟩; refine ⟨_, rfl, ?_⟩; have n0_ := Aside0.mk (blk_below (g := gb687) (o := .cells #[.slice A0_0 l0_0.length c0_0, .slice A0_1 l0_1.length c0_1, .slice A0_2 l0_2.length c0_2, .slice A0_3 l0_3.length c0_3] 46 (0, 0)) z25_3 hb); have n1_ := Aside0.mk (below_step z25_1 hb); clear BK687; clear HB; have BK687 := n0_; have HB := n1_; clear n0_ n1_; have hcz28_0 : w27.cell? ⟨gb687, 0, none⟩ = some (.slice A0_0 l0_0.length c0_0) := (blk_cell BK687.out 0).trans rfl; have hcz28_1 : w27.cell? ⟨gb687, 1, none⟩ = some (.slice A0_1 l0_1.length c0_1) := (blk_cell BK687.out 1).trans rfl; have hcz28_2 : w27.cell? ⟨gb687, 2, none⟩ = some (.slice A0_2 l0_2.length c0_2) := (blk_cell BK687.out 2).trans rfl; have hcz28_3 : w27.cell? ⟨gb687, 3, none⟩ = some (.slice A0_3 l0_3.length c0_3) := (blk_cell BK687.out 3).trans rfl; have hfz28_0 := blk_frozen BK687.out 0; have hfz28_1 := blk_frozen BK687.out 1; have hfz28_2 := blk_frozen BK687.out 2; have hfz28_3 := blk_frozen BK687.out 3) | ((with_reducible refine gate_callee (f := 29) rfl ?_); refine goesL_ (some 29) rfl rfl Try.func29 z25_33 rfl #[.agg #[.slice A0_0 l0_0.length c0_0, .slice A0_1 l0_1.length c0_1, .slice A0_2 l0_2.length c0_2, .slice A0_3 l0_3.length c0_3]] rfl z25_5 ?_; (with_reducible refine (laws_toState.calls k _ _ l0_0 _ _ l0_1 _ _ l0_2 _ _ l0_3 t689 t692 t695 t698 _ ?side1 ?side2 ?side3 ?side4 ?side5 ?side6 ?side7 ?side8 A14.out).mono ?_); (case side1 => repeat (first | exact (Kd.C_below HR0_0.out HB.out) | (with_reducible refine Kd.C_alloc ?_ _) | (with_reducible refine Kd.C_drewN ?_ _) | (with_reducible refine Kd.C_drew ?_))); (case side2 => exact HC0_0.out); (case side3 => repeat (first | exact (Kd.C_below HR0_1.out HB.out) | (with_reducible refine Kd.C_alloc ?_ _) | (with_reducible refine Kd.C_drewN ?_ _) | (with_reducible refine Kd.C_drew ?_))); (case side4 => exact HC0_1.out); (case side5 => repeat (first | exact (Kd.C_below HR0_2.out HB.out) | (with_reducible refine Kd.C_alloc ?_ _) | (with_reducible refine Kd.C_drewN ?_ _) | (with_reducible refine Kd.C_drew ?_))); (case side6 => exact HC0_2.out); (case side7 => repeat (first | exact (Kd.C_below HR0_3.out HB.out) | (with_reducible refine Kd.C_alloc ?_ _) | (with_reducible refine Kd.C_drewN ?_ _) | (with_reducible refine Kd.C_drew ?_))); (case side8 => exact HC0_3.out); rintro e w29 ⟨v690, v693, v696, v699, rfl, ho0, ho1, ho2, ho3, hb⟩; refine ⟨_, rfl, ?_⟩; have n0_ := Aside0.mk (Kd.R_lower ho0 (below_size z25_1)); have n1_ := Aside0.mk (Kd.R_lower ho1 (below_size z25_1)); have n2_ := Aside0.mk (Kd.R_lower ho2 (below_size z25_1)); have n3_ := Aside0.mk (Kd.R_lower ho3 (below_size z25_1)); have n4_ := Aside0.mk (blk_below (g := gb687) (o := .cells #[.slice A0_0 l0_0.length c0_0, .slice A0_1 l0_1.length c0_1, .slice A0_2 l0_2.length c0_2, .slice A0_3 l0_3.length c0_3] 46 (0, 0)) z25_3 hb); have n5_ := Aside0.mk (below_step z25_1 hb); clear BK687; clear HB; have HO691 := n0_; have HO694 := n1_; have HO697 := n2_; have HO700 := n3_; have BK687 := n4_; have HB := n5_; clear n0_ n1_ n2_ n3_ n4_ n5_; (try clear ho0); (try clear ho1); (try clear ho2); (try clear ho3); obtain ⟨Ao30, co30, eo30⟩ := Kd.R_slice HO691.out; subst eo30; obtain ⟨Ao31, co31, eo31⟩ := Kd.R_slice HO694.out; subst eo31; obtain ⟨Ao32, co32, eo32⟩ := Kd.R_slice HO697.out; subst eo32; obtain ⟨Ao33, co33, eo33⟩ := Kd.R_slice HO700.out; subst eo33) | ((with_reducible refine gate_callee (f := 34) rfl ?_); refine goesL_ (some 33) rfl rfl Try.func34 z25_33 rfl #[.agg #[.slice Ao30 t689.length co30, .slice Ao31 t692.length co31, .slice Ao32 t695.length co32, .slice Ao33 t698.length co33], .bool a1, .string a2, .string a3] rfl z25_5 ?_; (with_reducible refine (spec_LivesOf.calls k _ _ t689 _ _ t692 _ _ t695 _ _ t698 a1 a2 a3 t701 _ ?side1 ?side2 ?side3 ?side4 ?side5 ?side6 ?side7 ?side8 A15.out).mono ?_); (case side1 => repeat (first | exact (Kd.R_reads' HO691.out).2.2 | (with_reducible refine Kd.C_alloc ?_ _) | (with_reducible refine Kd.C_drewN ?_ _) | (with_reducible refine Kd.C_drew ?_))); (case side2 => exact (Kd.R_reads' HO691.out).2.1); (case side3 => repeat (first | exact (Kd.R_reads' HO694.out).2.2 | (with_reducible refine Kd.C_alloc ?_ _) | (with_reducible refine Kd.C_drewN ?_ _) | (with_reducible refine Kd.C_drew ?_))); (case side4 => exact (Kd.R_reads' HO694.out).2.1); (case side5 => repeat (first | exact (Kd.R_reads' HO697.out).2.2 | (with_reducible refine Kd.C_alloc ?_ _) | (with_reducible refine Kd.C_drewN ?_ _) | (with_reducible refine Kd.C_drew ?_))); (case side6 => exact (Kd.R_reads' HO697.out).2.1); (case side7 => repeat (first | exact (Kd.R_reads' HO700.out).2.2 | (with_reducible refine Kd.C_alloc ?_ _) | (with_reducible refine Kd.C_drewN ?_ _) | (with_reducible refine Kd.C_drew ?_))); (case side8 => exact (Kd.R_reads' HO700.out).2.1); rintro e w34 ⟨v702, rfl, ho0, hb⟩; refine ⟨_, rfl, ?_⟩; have n0_ := Aside0.mk (Kd.R_below z25_10 hb); have n1_ := Aside0.mk (Kd.R_below z25_9 hb); have n2_ := Aside0.mk (Kd.R_elder' z25_7 (Kd.R_base ho0) hb); have n3_ := Aside0.mk (Kd.R_below z25_8 hb); have n4_ := Aside0.mk (Kd.R_lower (Kd.R_new' ho0 (Kd.R_lt z25_7)) (below_size z25_1)); have n5_ := Aside0.mk (blk_below (g := gb687) (o := .cells #[.slice A0_0 l0_0.length c0_0, .slice A0_1 l0_1.length c0_1, .slice A0_2 l0_2.length c0_2, .slice A0_3 l0_3.length c0_3] 46 (0, 0)) z25_3 hb); have n6_ := Aside0.mk (below_step z25_1 hb); clear HO691; clear HO694; clear HO697; clear HO700; clear BK687; clear HB; have HO691 := n0_; have HO694 := n1_; have HO697 := n2_; have HO700 := n3_; have HO703 := n4_; have BK687 := n5_; have HB := n6_; clear n0_ n1_ n2_ n3_ n4_ n5_ n6_; (try clear ho0); have hcz35_0 : w34.cell? ⟨gb687, 0, none⟩ = some (.slice A0_0 l0_0.length c0_0) := (blk_cell BK687.out 0).trans rfl; have hcz35_1 : w34.cell? ⟨gb687, 1, none⟩ = some (.slice A0_1 l0_1.length c0_1) := (blk_cell BK687.out 1).trans rfl; have hcz35_2 : w34.cell? ⟨gb687, 2, none⟩ = some (.slice A0_2 l0_2.length c0_2) := (blk_cell BK687.out 2).trans rfl; have hcz35_3 : w34.cell? ⟨gb687, 3, none⟩ = some (.slice A0_3 l0_3.length c0_3) := (blk_cell BK687.out 3).trans rfl; have hfz35_0 := blk_frozen BK687.out 0; have hfz35_1 := blk_frozen BK687.out 1; have hfz35_2 := blk_frozen BK687.out 2; have hfz35_3 := blk_frozen BK687.out 3) | ((with_reducible refine gate_callee (f := 29) rfl ?_); refine goesL_ (some 35) rfl rfl Try.func29 z25_33 rfl #[.agg #[.slice A0_0 l0_0.length c0_0, .slice A0_1 l0_1.length c0_1, .slice A0_2 l0_2.length c0_2, .slice A0_3 l0_3.length c0_3]] rfl z25_5 ?_; (with_reducible refine (laws_toState.calls k _ _ l0_0 _ _ l0_1 _ _ l0_2 _ _ l0_3 t704 t707 t710 t713 _ ?side1 ?side2 ?side3 ?side4 ?side5 ?side6 ?side7 ?side8 A16.out).mono ?_); (case side1 => repeat (first | exact (Kd.C_below HR0_0.out HB.out) | (with_reducible refine Kd.C_alloc ?_ _) | (with_reducible refine Kd.C_drewN ?_ _) | (with_reducible refine Kd.C_drew ?_))); (case side2 => exact HC0_0.out); (case side3 => repeat (first | exact (Kd.C_below HR0_1.out HB.out) | (with_reducible refine Kd.C_alloc ?_ _) | (with_reducible refine Kd.C_drewN ?_ _) | (with_reducible refine Kd.C_drew ?_))); (case side4 => exact HC0_1.out); (case side5 => repeat (first | exact (Kd.C_below HR0_2.out HB.out) | (with_reducible refine Kd.C_alloc ?_ _) | (with_reducible refine Kd.C_drewN ?_ _) | (with_reducible refine Kd.C_drew ?_))); (case side6 => exact HC0_2.out); (case side7 => repeat (first | exact (Kd.C_below HR0_3.out HB.out) | (with_reducible refine Kd.C_alloc ?_ _) | (with_reducible refine Kd.C_drewN ?_ _) | (with_reducible refine Kd.C_drew ?_))); (case side8 => exact HC0_3.out); rintro e w36 ⟨v705, v708, v711, v714, rfl, ho0, ho1, ho2, ho3, hb⟩; refine ⟨_, rfl, ?_⟩; have n0_ := Aside0.mk (Kd.R_elder' z25_10 (Kd.R_base ho0) hb); have n1_ := Aside0.mk (Kd.R_elder' z25_9 (Kd.R_base ho1) hb); have n2_ := Aside0.mk (Kd.R_elder' z25_7 (Kd.R_base ho2) hb); have n3_ := Aside0.mk (Kd.R_elder' z25_8 (Kd.R_base ho3) hb); have n4_ := Aside0.mk (Kd.R_elder' z25_11 (Kd.R_base ho2) hb); have n5_ := Aside0.mk (Kd.R_lower (Kd.R_new' ho0 (Kd.R_lt z25_10)) (below_size z25_1)); have n6_ := Aside0.mk (Kd.R_lower (Kd.R_new' ho1 (Kd.R_lt z25_9)) (below_size z25_1)); have n7_ := Aside0.mk (Kd.R_lower (Kd.R_new' (Kd.R_new' ho2 (Kd.R_lt z25_7)) (Kd.R_lt z25_11)) (below_size z25_1)); have n8_ := Aside0.mk (Kd.R_lower (Kd.R_new' ho3 (Kd.R_lt z25_8)) (below_size z25_1)); have n9_ := Aside0.mk (blk_below (g := gb687) (o := .cells #[.slice A0_0 l0_0.length c0_0, .slice A0_1 l0_1.length c0_1, .slice A0_2 l0_2.length c0_2, .slice A0_3 l0_3.length c0_3] 46 (0, 0)) z25_3 hb); have n10_ := Aside0.mk (below_step z25_1 hb); clear HO691; clear HO694; clear HO697; clear HO700; clear HO703; clear BK687; clear HB; have HO691 := n0_; have HO694 := n1_; have HO697 := n2_; have HO700 := n3_; have HO703 := n4_; have HO706 := n5_; have HO709 := n6_; have HO712 := n7_; have HO715 := n8_; have BK687 := n9_; have HB := n10_; clear n0_ n1_ n2_ n3_ n4_ n5_ n6_ n7_ n8_ n9_ n10_; (try clear ho0); (try clear ho1); (try clear ho2); (try clear ho3)) | ((with_reducible refine gate_dst (N := 11) rfl ?_); refine box_event ?hg (N := 11) ?hd (cs := #[.slice none 0 0, .slice none 0 0, .slice none 0 0, .slice none 0 0]) (t := 53) ?hr ?_; (case hd => rfl); (case hg => rfl); (case hr => first | (go_simp; done) | (go_simp; rfl)); intro gb716 hg w37 hbox hb; have n0_ := Aside0.mk (Kd.R_below z25_10 hb); have n1_ := Aside0.mk (Kd.R_below z25_9 hb); have n2_ := Aside0.mk (Kd.R_below z25_7 hb); have n3_ := Aside0.mk (Kd.R_below z25_8 hb); have n4_ := Aside0.mk (Kd.R_below z25_11 hb); have n5_ := Aside0.mk (Kd.R_below z25_28 hb); have n6_ := Aside0.mk (Kd.R_below z25_27 hb); have n7_ := Aside0.mk (Kd.R_below z25_26 hb); have n8_ := Aside0.mk (Kd.R_below z25_25 hb); have n9_ := Aside0.mk (blk_below (g := gb687) (o := .cells #[.slice A0_0 l0_0.length c0_0, .slice A0_1 l0_1.length c0_1, .slice A0_2 l0_2.length c0_2, .slice A0_3 l0_3.length c0_3] 46 (0, 0)) z25_3 hb); have n10_ := Aside0.mk (below_step z25_1 hb); have n11_ := Aside0.mk (hbox); have n12_ := Aside0.mk ((by rw [hg]; exact (below_size z25_1) : w.heap.size ≤ gb716)); have n13_ := Aside0.mk ((by rw [hg]; exact (below_size z25_1) : w.heap.size ≤ gb716)); have n14_ := Aside0.mk ((by rw [hg]; exact Nat.ne_of_lt (blk_lt (g := gb687) (o := .cells #[.slice A0_0 l0_0.length c0_0, .slice A0_1 l0_1.length c0_1, .slice A0_2 l0_2.length c0_2, .slice A0_3 l0_3.length c0_3] 46 (0, 0)) z25_3) : gb687 ≠ gb716)); have n15_ := Aside0.mk ((by rw [hg]; exact Nat.ne_of_gt (blk_lt (g := gb687) (o := .cells #[.slice A0_0 l0_0.length c0_0, .slice A0_1 l0_1.length c0_1, .slice A0_2 l0_2.length c0_2, .slice A0_3 l0_3.length c0_3] 46 (0, 0)) z25_3) : gb716 ≠ gb687)); clear HO691; clear HO694; clear HO697; clear HO700; clear HO703; clear HO706; clear HO709; clear HO712; clear HO715; clear BK687; clear HB; have HO691 := n0_; have HO694 := n1_; have HO697 := n2_; have HO700 := n3_; have HO703 := n4_; have HO706 := n5_; have HO709 := n6_; have HO712 := n7_; have HO715 := n8_; have BK687 := n9_; have HB := n10_; have BK716 := n11_; have GW716 := n12_; have GE716 := n13_; have NB687_716 := n14_; have NB716_687 := n15_; clear n0_ n1_ n2_ n3_ n4_ n5_ n6_ n7_ n8_ n9_ n10_ n11_ n12_ n13_ n14_ n15_; clear hb hbox hg; obtain ⟨Ao38, co38, eo38⟩ := Kd.R_slice HO706.out; subst eo38; have hnb39 := NB716_687.out; have hnc39 := NB687_716.out; have hcz40_0 : w37.cell? ⟨gb716, 0, none⟩ = some (.slice none 0 0) := (blk_cell BK716.out 0).trans rfl; have hcz40_1 : w37.cell? ⟨gb716, 1, none⟩ = some (.slice none 0 0) := (blk_cell BK716.out 1).trans rfl; have hcz40_2 : w37.cell? ⟨gb716, 2, none⟩ = some (.slice none 0 0) := (blk_cell BK716.out 2).trans rfl; have hcz40_3 : w37.cell? ⟨gb716, 3, none⟩ = some (.slice none 0 0) := (blk_cell BK716.out 3).trans rfl; have hfz40_0 := blk_frozen BK716.out 0; have hfz40_1 := blk_frozen BK716.out 1; have hfz40_2 := blk_frozen BK716.out 2; have hfz40_3 := blk_frozen BK716.out 3; obtain ⟨Ao41, co41, eo41⟩ := Kd.R_slice HO709.out; subst eo41; obtain ⟨Ao42, co42, eo42⟩ := Kd.R_slice HO712.out; subst eo42; obtain ⟨Ao43, co43, eo43⟩ := Kd.R_slice HO715.out; subst eo43) | ((with_reducible refine gate_callee (f := 35) rfl ?_); refine goesL_ (some 40) rfl rfl Try.func35 z25_33 rfl #[.agg #[.slice Ao38 t704.length co38, .slice Ao41 t707.length co41, .slice Ao42 t710.length co42, .slice Ao43 t713.length co43], .bool a1, .string a2, .string a3] rfl z25_5 ?_; (with_reducible refine (impl_LivesOf.calls k _ _ t704 _ _ t707 _ _ t710 _ _ t713 a1 a2 a3 t717 _ ?side1 ?side2 ?side3 ?side4 ?side5 ?side6 ?side7 ?side8 A17.out).mono ?_); (case side1 => refine (Kd.R_reads' (e := 3) (base := w.heap.size) (ok := fun k_ => (True ∧ some k_ ≠ (.slice Ao30 t689.length co30 : Value).ownBlock)) (n := t704.length) (c := co38) ?_).2.2; exact z25_22); (case side2 => exact (Kd.R_reads' HO706.out).2.1); (case side3 => refine (Kd.R_reads' (e := 127) (base := w.heap.size) (ok := fun k_ => (True ∧ some k_ ≠ (.slice Ao31 t692.length co31 : Value).ownBlock)) (n := t707.length) (c := co41) ?_).2.2; exact z25_21); (case side4 => exact (Kd.R_reads' HO709.out).2.1); (case side5 => refine (Kd.R_reads' (e := 134) (base := w.heap.size) (ok := fun k_ => ((True ∧ some k_ ≠ (.slice Ao32 t695.length co32 : Value).ownBlock) ∧ some k_ ≠ (v702 : Value).ownBlock)) (n := t710.length) (c := co42) ?_).2.2; exact z25_6); (case side6 => exact (Kd.R_reads' HO712.out).2.1); (case side7 => refine (Kd.R_reads' (e := 167) (base := w.heap.size) (ok := fun k_ => (True ∧ some k_ ≠ (.slice Ao33 t698.length co33 : Value).ownBlock)) (n := t713.length) (c := co43) ?_).2.2; exact z25_20); (case side8 => exact (Kd.R_reads' HO715.out).2.1); rintro e w44 ⟨v718, rfl, ho0, hb⟩; refine ⟨_, rfl, ?_⟩; have n0_ := Aside0.mk (Kd.R_below (by (with_reducible repeat (first | apply Kd.R_alloc | apply Kd.R_drewN | apply Kd.R_drew)); exact (Kd.R_mono (Kd.R_far (p := ⟨gb716, 3, none⟩) (Kd.R_far (p := ⟨gb716, 2, none⟩) (Kd.R_far (p := ⟨gb716, 1, none⟩) (Kd.R_far (p := ⟨gb716, 0, none⟩) (Kd.R_types HO691.out BK716.out (by decide)) (fun _ hk => hk.2) (.slice Ao38 t704.length co38)) (fun _ hk => hk.2) (.slice Ao41 t707.length co41)) (fun _ hk => hk.2) (.slice Ao42 t710.length co42)) (fun _ hk => hk.2) (.slice Ao43 t713.length co43)) (fun _ h_ => h_.1))) hb); have n1_ := Aside0.mk (Kd.R_below (by (with_reducible repeat (first | apply Kd.R_alloc | apply Kd.R_drewN | apply Kd.R_drew)); exact (Kd.R_mono (Kd.R_far (p := ⟨gb716, 3, none⟩) (Kd.R_far (p := ⟨gb716, 2, none⟩) (Kd.R_far (p := ⟨gb716, 1, none⟩) (Kd.R_far (p := ⟨gb716, 0, none⟩) (Kd.R_types HO694.out BK716.out (by decide)) (fun _ hk => hk.2) (.slice Ao38 t704.length co38)) (fun _ hk => hk.2) (.slice Ao41 t707.length co41)) (fun _ hk => hk.2) (.slice Ao42 t710.length co42)) (fun _ hk => hk.2) (.slice Ao43 t713.length co43)) (fun _ h_ => h_.1))) hb); have n2_ := Aside0.mk (Kd.R_elder' z25_24 (Kd.R_base ho0) hb); have n3_ := Aside0.mk (Kd.R_below (by (with_reducible repeat (first | apply Kd.R_alloc | apply Kd.R_drewN | apply Kd.R_drew)); exact (Kd.R_mono (Kd.R_far (p := ⟨gb716, 3, none⟩) (Kd.R_far (p := ⟨gb716, 2, none⟩) (Kd.R_far (p := ⟨gb716, 1, none⟩) (Kd.R_far (p := ⟨gb716, 0, none⟩) (Kd.R_types HO700.out BK716.out (by decide)) (fun _ hk => hk.2) (.slice Ao38 t704.length co38)) (fun _ hk => hk.2) (.slice Ao41 t707.length co41)) (fun _ hk => hk.2) (.slice Ao42 t710.length co42)) (fun _ hk => hk.2) (.slice Ao43 t713.length co43)) (fun _ h_ => h_.1))) hb); have n4_ := Aside0.mk (Kd.R_elder' z25_23 (Kd.R_base ho0) hb); have n5_ := Aside0.mk (Kd.R_below z25_22 hb); have n6_ := Aside0.mk (Kd.R_below z25_21 hb); have n7_ := Aside0.mk (Kd.R_elder' z25_6 (Kd.R_base ho0) hb); have n8_ := Aside0.mk (Kd.R_below z25_20 hb); have n9_ := Aside0.mk (Kd.R_lower (Kd.R_new' (Kd.R_new' (Kd.R_new' ho0 (Kd.R_lt z25_24)) (Kd.R_lt z25_23)) (Kd.R_lt z25_6)) (below_size z25_0)); have n10_ := Aside0.mk (blk_below (g := gb687) (o := .cells #[.slice A0_0 l0_0.length c0_0, .slice A0_1 l0_1.length c0_1, .slice A0_2 l0_2.length c0_2, .slice A0_3 l0_3.length c0_3] 46 (0, 0)) (by (with_reducible repeat (first | refine blk_drewN ?_ _ | refine blk_drew ?_ | refine blk_alloc ?_ _)); refine blk_far ?_ NB687_716.out _; (with_reducible repeat (first | refine blk_drewN ?_ _ | refine blk_drew ?_ | refine blk_alloc ?_ _)); refine blk_far ?_ NB687_716.out _; (with_reducible repeat (first | refine blk_drewN ?_ _ | refine blk_drew ?_ | refine blk_alloc ?_ _)); refine blk_far ?_ NB687_716.out _; (with_reducible repeat (first | refine blk_drewN ?_ _ | refine blk_drew ?_ | refine blk_alloc ?_ _)); refine blk_far ?_ NB687_716.out _; (with_reducible repeat (first | refine blk_drewN ?_ _ | refine blk_drew ?_ | refine blk_alloc ?_ _)); exact BK687.out) hb); have n11_ := Aside0.mk (blk_below (g := gb716) (o := .cells #[.slice Ao38 t704.length co38, .slice Ao41 t707.length co41, .slice Ao42 t710.length co42, .slice Ao43 t713.length co43] 53 (0, 0)) (by (with_reducible repeat (first | refine blk_drewN ?_ _ | refine blk_drew ?_ | refine blk_alloc ?_ _)); refine blk_put (cs := #[.slice Ao38 t704.length co38, .slice Ao41 t707.length co41, .slice Ao42 t710.length co42, .slice none 0 0]) ?_ 3 _ rfl; (with_reducible repeat (first | refine blk_drewN ?_ _ | refine blk_drew ?_ | refine blk_alloc ?_ _)); refine blk_put (cs := #[.slice Ao38 t704.length co38, .slice Ao41 t707.length co41, .slice none 0 0, .slice none 0 0]) ?_ 2 _ rfl; (with_reducible repeat (first | refine blk_drewN ?_ _ | refine blk_drew ?_ | refine blk_alloc ?_ _)); refine blk_put (cs := #[.slice Ao38 t704.length co38, .slice none 0 0, .slice none 0 0, .slice none 0 0]) ?_ 1 _ rfl; (with_reducible repeat (first | refine blk_drewN ?_ _ | refine blk_drew ?_ | refine blk_alloc ?_ _)); refine blk_put (cs := #[.slice none 0 0, .slice none 0 0, .slice none 0 0, .slice none 0 0]) ?_ 0 _ rfl; (with_reducible repeat (first | refine blk_drewN ?_ _ | refine blk_drew ?_ | refine blk_alloc ?_ _)); exact BK716.out) hb); have n12_ := Aside0.mk (below_step z25_0 hb); clear HO691; clear HO694; clear HO697; clear HO700; clear HO703; clear HO706; clear HO709; clear HO712; clear HO715; clear BK687; clear BK716; clear HB; have HO691 := n0_; have HO694 := n1_; have HO697 := n2_; have HO700 := n3_; have HO703 := n4_; have HO706 := n5_; have HO709 := n6_; have HO712 := n7_; have HO715 := n8_; have HO719 := n9_; have BK687 := n10_; have BK716 := n11_; have HB := n12_; clear n0_ n1_ n2_ n3_ n4_ n5_ n6_ n7_ n8_ n9_ n10_ n11_ n12_; (try clear ho0); obtain ⟨Ao45, co45, eo45⟩ := Kd.R_slice HO719.out; subst eo45; obtain ⟨Ao46, co46, eo46⟩ := Kd.R_slice HO703.out; subst eo46) | ((with_reducible refine gate_callee (f := 36) rfl ?_); refine goesL_ (some 43) rfl rfl Try.func36 z25_33 rfl #[.slice Ao45 t717.length co45, .slice Ao46 t701.length co46] rfl z25_5 ?_; (with_reducible refine (laws_eqLiveS.calls k _ _ t717 _ _ t701 true _ ?side1 ?side2 ?side3 ?side4 A18.out).mono ?_); (case side1 => repeat (first | exact (Kd.R_reads' HO719.out).2.2 | (with_reducible refine Kd.C_alloc ?_ _) | (with_reducible refine Kd.C_drewN ?_ _) | (with_reducible refine Kd.C_drew ?_))); (case side2 => exact (Kd.R_reads' HO719.out).2.1); (case side3 => repeat (first | exact (Kd.R_reads' HO703.out).2.2 | (with_reducible refine Kd.C_alloc ?_ _) | (with_reducible refine Kd.C_drewN ?_ _) | (with_reducible refine Kd.C_drew ?_))); (case side4 => exact (Kd.R_reads' HO703.out).2.1); rintro e w47 ⟨rfl, hb⟩; refine ⟨_, rfl, ?_⟩; have n0_ := Aside0.mk (Kd.R_below z25_10 hb); have n1_ := Aside0.mk (Kd.R_below z25_9 hb); have n2_ := Aside0.mk (Kd.R_below z25_7 hb); have n3_ := Aside0.mk (Kd.R_below z25_8 hb); have n4_ := Aside0.mk (Kd.R_below z25_11 hb); have n5_ := Aside0.mk (Kd.R_below z25_28 hb); have n6_ := Aside0.mk (Kd.R_below z25_27 hb); have n7_ := Aside0.mk (Kd.R_below z25_26 hb); have n8_ := Aside0.mk (Kd.R_below z25_25 hb); have n9_ := Aside0.mk (Kd.R_below z25_29 hb); have n10_ := Aside0.mk (blk_below (g := gb687) (o := .cells #[.slice A0_0 l0_0.length c0_0, .slice A0_1 l0_1.length c0_1, .slice A0_2 l0_2.length c0_2, .slice A0_3 l0_3.length c0_3] 46 (0, 0)) z25_3 hb); have n11_ := Aside0.mk (blk_below (g := gb716) (o := .cells #[.slice Ao38 t704.length co38, .slice Ao41 t707.length co41, .slice Ao42 t710.length co42, .slice Ao43 t713.length co43] 53 (0, 0)) z25_4 hb); have n12_ := Aside0.mk (below_step z25_0 hb); clear HO691; clear HO694; clear HO697; clear HO700; clear HO703; clear HO706; clear HO709; clear HO712; clear HO715; clear HO719; clear BK687; clear BK716; clear HB; have HO691 := n0_; have HO694 := n1_; have HO697 := n2_; have HO700 := n3_; have HO703 := n4_; have HO706 := n5_; have HO709 := n6_; have HO712 := n7_; have HO715 := n8_; have HO719 := n9_; have BK687 := n10_; have BK716 := n11_; have HB := n12_; clear n0_ n1_ n2_ n3_ n4_ n5_ n6_ n7_ n8_ n9_ n10_ n11_ n12_))
      have n0_ := Aside0.mk (Kd.R_drew HO691.out)
      have n1_ := Aside0.mk (Kd.R_drew HO694.out)
      have n2_ := Aside0.mk (Kd.R_drew HO697.out)
      have n3_ := Aside0.mk (Kd.R_drew HO700.out)
      have n4_ := Aside0.mk (Kd.R_drew HO703.out)
      have n5_ := Aside0.mk (Kd.R_drew HO706.out)
      have n6_ := Aside0.mk (Kd.R_drew HO709.out)
      have n7_ := Aside0.mk (Kd.R_drew HO712.out)
      have n8_ := Aside0.mk (Kd.R_drew HO715.out)
      have n9_ := Aside0.mk (Kd.R_drew HO719.out)
      have n10_ := Aside0.mk (blk_drew BK687.out)
      have n11_ := Aside0.mk (blk_drew BK716.out)
      have n12_ := Aside0.mk (below_drew1 HB.out)
      clear HO691
      clear HO694
      clear HO697
      clear HO700
      clear HO703
      clear HO706
      clear HO709
      clear HO712
      clear HO715
      clear HO719
      clear BK687
      clear BK716
      clear HB
      have HO691 := n0_
      have HO694 := n1_
      have HO697 := n2_
      have HO700 := n3_
      have HO703 := n4_
      have HO706 := n5_
      have HO709 := n6_
      have HO712 := n7_
      have HO715 := n8_
      have HO719 := n9_
      have BK687 := n10_
      have BK716 := n11_
      have HB := n12_
      clear n0_ n1_ n2_ n3_ n4_ n5_ n6_ n7_ n8_ n9_ n10_ n11_ n12_
      refine start_ (n := 5) (S := fun w' => w'.cell? ⟨gb716, 0, none⟩ = some (.slice Ao38 t704.length co38) ∧ w'.cell? ⟨gb716, 1, none⟩ = some (.slice Ao41 t707.length co41) ∧ w'.cell? ⟨gb716, 2, none⟩ = some (.slice Ao42 t710.length co42) ∧ w'.cell? ⟨gb716, 3, none⟩ = some (.slice Ao43 t713.length co43) ∧ w'.cell? ⟨gb687, 0, none⟩ = some (.slice A0_0 l0_0.length c0_0) ∧ w'.cell? ⟨gb687, 1, none⟩ = some (.slice A0_1 l0_1.length c0_1) ∧ w'.cell? ⟨gb687, 2, none⟩ = some (.slice A0_2 l0_2.length c0_2) ∧ w'.cell? ⟨gb687, 3, none⟩ = some (.slice A0_3 l0_3.length c0_3)) (ds := []) #[false, false, false, false, false] z25_33 rfl rfl ⟨(blk_cell BK716.out 0).trans rfl, (blk_cell BK716.out 1).trans rfl, (blk_cell BK716.out 2).trans rfl, (blk_cell BK716.out 3).trans rfl, (blk_cell BK687.out 0).trans rfl, (blk_cell BK687.out 1).trans rfl, (blk_cell BK687.out 2).trans rfl, (blk_cell BK687.out 3).trans rfl⟩ (fun hHeld => ?_)
      generalize w47.drew = w48 at HO691 HO694 HO697 HO700 HO703 HO706 HO709 HO712 HO715 HO719 BK687 BK716 HB hHeld ⊢
      refine take_ (i := 0) (N := some 45) (v := ?_) (a' := ?_) #[true, false, false, false, false] rfl rfl z25_33 (fun _ _ _ h => h) (Or.inl ⟨by rfl, ?_⟩) hHeld ?_ ?_
      rotate_left
      ·
       rintro w' ⟨s0, s1, s2, s3, s4, s5, s6, s7⟩
       go_simp
       with_reducible rfl
      rotate_left
      ·
       exact z25_35
      refine take_ (i := 1) (N := some 46) (v := ?_) (a' := ?_) #[true, true, false, false, false] rfl rfl z25_33 (fun _ _ _ h => h) (Or.inl ⟨by rfl, ?_⟩) hHeld ?_ ?_
      rotate_left
      ·
       rintro w' ⟨s0, s1, s2, s3, s4, s5, s6, s7⟩
       go_simp
       with_reducible rfl
      rotate_left
      ·
       exact z25_35
      refine one_ (i := 2) (N := some 47) #[true, true, true, false, false] rfl rfl z25_33 (by decide) (fun K hK => ?_)
      refine goes_ Try.func29 z25_33 rfl #[.agg #[.slice A0_0 l0_0.length c0_0, .slice A0_1 l0_1.length c0_1, .slice A0_2 l0_2.length c0_2, .slice A0_3 l0_3.length c0_3]] (by rfl) rfl rfl z25_5 ?_
      with_reducible refine (laws_toState.calls k _ _ l0_0 _ _ l0_1 _ _ l0_2 _ _ l0_3 t721 t724 t727 t730 _ ?side1 ?side2 ?side3 ?side4 ?side5 ?side6 ?side7 ?side8 A20.out).mono ?_
      (case side1 => repeat (first | exact (Kd.C_below HR0_0.out HB.out) | (with_reducible refine Kd.C_alloc ?_ _) | (with_reducible refine Kd.C_drewN ?_ _) | (with_reducible refine Kd.C_drew ?_)))
      (case side2 => exact HC0_0.out)
      (case side3 => repeat (first | exact (Kd.C_below HR0_1.out HB.out) | (with_reducible refine Kd.C_alloc ?_ _) | (with_reducible refine Kd.C_drewN ?_ _) | (with_reducible refine Kd.C_drew ?_)))
      (case side4 => exact HC0_1.out)
      (case side5 => repeat (first | exact (Kd.C_below HR0_2.out HB.out) | (with_reducible refine Kd.C_alloc ?_ _) | (with_reducible refine Kd.C_drewN ?_ _) | (with_reducible refine Kd.C_drew ?_)))
      (case side6 => exact HC0_2.out)
      (case side7 => repeat (first | exact (Kd.C_below HR0_3.out HB.out) | (with_reducible refine Kd.C_alloc ?_ _) | (with_reducible refine Kd.C_drewN ?_ _) | (with_reducible refine Kd.C_drew ?_)))
      (case side8 => exact HC0_3.out)
      rintro e w49 ⟨v722, v725, v728, v731, rfl, ho0, ho1, ho2, ho3, hb⟩
      refine ⟨_, rfl, ?_⟩
      have n0_ := Aside0.mk (Kd.R_elder' z25_10 (Kd.R_base ho0) hb)
      have n1_ := Aside0.mk (Kd.R_elder' z25_9 (Kd.R_base ho1) hb)
      have n2_ := Aside0.mk (Kd.R_elder' z25_7 (Kd.R_base ho2) hb)
      have n3_ := Aside0.mk (Kd.R_elder' z25_8 (Kd.R_base ho3) hb)
      have n4_ := Aside0.mk (Kd.R_elder' z25_11 (Kd.R_base ho2) hb)
      have n5_ := Aside0.mk (Kd.R_elder' z25_28 (Kd.R_base ho0) hb)
      have n6_ := Aside0.mk (Kd.R_elder' z25_27 (Kd.R_base ho1) hb)
      have n7_ := Aside0.mk (Kd.R_elder' z25_26 (Kd.R_base ho2) hb)
      have n8_ := Aside0.mk (Kd.R_elder' z25_25 (Kd.R_base ho3) hb)
      have n9_ := Aside0.mk (Kd.R_elder' z25_29 (Kd.R_base ho2) hb)
      have n10_ := Aside0.mk (Kd.R_lower (Kd.R_new' (Kd.R_new' ho0 (Kd.R_lt z25_10)) (Kd.R_lt z25_28)) (below_size z25_0))
      have n11_ := Aside0.mk (Kd.R_lower (Kd.R_new' (Kd.R_new' ho1 (Kd.R_lt z25_9)) (Kd.R_lt z25_27)) (below_size z25_0))
      have n12_ := Aside0.mk (Kd.R_lower (Kd.R_new' (Kd.R_new' (Kd.R_new' (Kd.R_new' ho2 (Kd.R_lt z25_7)) (Kd.R_lt z25_11)) (Kd.R_lt z25_26)) (Kd.R_lt z25_29)) (below_size z25_0))
      have n13_ := Aside0.mk (Kd.R_lower (Kd.R_new' (Kd.R_new' ho3 (Kd.R_lt z25_8)) (Kd.R_lt z25_25)) (below_size z25_0))
      have n14_ := Aside0.mk (blk_below (g := gb687) (o := .cells #[.slice A0_0 l0_0.length c0_0, .slice A0_1 l0_1.length c0_1, .slice A0_2 l0_2.length c0_2, .slice A0_3 l0_3.length c0_3] 46 (0, 0)) z25_3 hb)
      have n15_ := Aside0.mk (blk_below (g := gb716) (o := .cells #[.slice Ao38 t704.length co38, .slice Ao41 t707.length co41, .slice Ao42 t710.length co42, .slice Ao43 t713.length co43] 53 (0, 0)) z25_4 hb)
      have n16_ := Aside0.mk (below_step z25_0 hb)
      clear HO691
      clear HO694
      clear HO697
      clear HO700
      clear HO703
      clear HO706
      clear HO709
      clear HO712
      clear HO715
      clear HO719
      clear BK687
      clear BK716
      clear HB
      have HO691 := n0_
      have HO694 := n1_
      have HO697 := n2_
      have HO700 := n3_
      have HO703 := n4_
      have HO706 := n5_
      have HO709 := n6_
      have HO712 := n7_
      have HO715 := n8_
      have HO719 := n9_
      have HO723 := n10_
      have HO726 := n11_
      have HO729 := n12_
      have HO732 := n13_
      have BK687 := n14_
      have BK716 := n15_
      have HB := n16_
      clear n0_ n1_ n2_ n3_ n4_ n5_ n6_ n7_ n8_ n9_ n10_ n11_ n12_ n13_ n14_ n15_ n16_
      (try clear hb)
      (try clear hb2)
      (try clear hk)
      (try clear hi)
      (try clear ho0)
      (try clear ho1)
      (try clear ho2)
      (try clear ho3)
      obtain ⟨Ao50, co50, eo50⟩ := Kd.R_slice HO723.out
      (first | subst eo50 | (injection eo50 with f1_ f2_ f3_; have f4_ := f1_.symm; have f5_ := f3_.symm; clear f1_ f2_ f3_; subst f4_; subst f5_))
      obtain ⟨Ao51, co51, eo51⟩ := Kd.R_slice HO726.out
      (first | subst eo51 | (injection eo51 with f1_ f2_ f3_; have f4_ := f1_.symm; have f5_ := f3_.symm; clear f1_ f2_ f3_; subst f4_; subst f5_))
      obtain ⟨Ao52, co52, eo52⟩ := Kd.R_slice HO729.out
      (first | subst eo52 | (injection eo52 with f1_ f2_ f3_; have f4_ := f1_.symm; have f5_ := f3_.symm; clear f1_ f2_ f3_; subst f4_; subst f5_))
      obtain ⟨Ao53, co53, eo53⟩ := Kd.R_slice HO732.out
      (first | subst eo53 | (injection eo53 with f1_ f2_ f3_; have f4_ := f1_.symm; have f5_ := f3_.symm; clear f1_ f2_ f3_; subst f4_; subst f5_))
      refine hK.out _ _ ⟨(blk_cell BK716.out 0).trans rfl, (blk_cell BK716.out 1).trans rfl, (blk_cell BK716.out 2).trans rfl, (blk_cell BK716.out 3).trans rfl, (blk_cell BK687.out 0).trans rfl, (blk_cell BK687.out 1).trans rfl, (blk_cell BK687.out 2).trans rfl, (blk_cell BK687.out 3).trans rfl⟩ (fun hHeld => ?_)
      clear hK K
      refine norm_ (a' := ?_) ?_ ?_
      rotate_left
      ·
       show Act.put _ (some 47) _ = _
       simp only [Act.put, List.setIfInBounds_toArray, List.set_cons_zero, List.set_cons_succ, i64_w, i32_w]
       rfl
      refine one_ (i := 3) (N := some 48) #[true, true, true, true, false] rfl rfl z25_33 (by decide) (fun K hK => ?_)
      refine goes_ Try.func31 z25_33 rfl #[.agg #[.slice Ao38 t704.length co38, .slice Ao41 t707.length co41, .slice Ao42 t710.length co42, .slice Ao43 t713.length co43], .agg #[.slice Ao50 t721.length co50, .slice Ao51 t724.length co51, .slice Ao52 t727.length co52, .slice Ao53 t730.length co53]] (by rfl) rfl rfl z25_5 ?_
      with_reducible refine (laws_eqState.calls k _ _ t704 _ _ t707 _ _ t710 _ _ t713 _ _ t721 _ _ t724 _ _ t727 _ _ t730 true _ ?side1 ?side2 ?side3 ?side4 ?side5 ?side6 ?side7 ?side8 ?side9 ?side10 ?side11 ?side12 ?side13 ?side14 ?side15 ?side16 A21.out).mono ?_
      (case side1 => repeat (first | exact (Kd.R_reads' HO706.out).2.2 | (with_reducible refine Kd.C_alloc ?_ _) | (with_reducible refine Kd.C_drewN ?_ _) | (with_reducible refine Kd.C_drew ?_)))
      (case side2 => exact (Kd.R_reads' HO706.out).2.1)
      (case side3 => repeat (first | exact (Kd.R_reads' HO709.out).2.2 | (with_reducible refine Kd.C_alloc ?_ _) | (with_reducible refine Kd.C_drewN ?_ _) | (with_reducible refine Kd.C_drew ?_)))
      (case side4 => exact (Kd.R_reads' HO709.out).2.1)
      (case side5 => repeat (first | exact (Kd.R_reads' HO712.out).2.2 | (with_reducible refine Kd.C_alloc ?_ _) | (with_reducible refine Kd.C_drewN ?_ _) | (with_reducible refine Kd.C_drew ?_)))
      (case side6 => exact (Kd.R_reads' HO712.out).2.1)
      (case side7 => repeat (first | exact (Kd.R_reads' HO715.out).2.2 | (with_reducible refine Kd.C_alloc ?_ _) | (with_reducible refine Kd.C_drewN ?_ _) | (with_reducible refine Kd.C_drew ?_)))
      (case side8 => exact (Kd.R_reads' HO715.out).2.1)
      (case side9 => repeat (first | exact (Kd.R_reads' HO723.out).2.2 | (with_reducible refine Kd.C_alloc ?_ _) | (with_reducible refine Kd.C_drewN ?_ _) | (with_reducible refine Kd.C_drew ?_)))
      (case side10 => exact (Kd.R_reads' HO723.out).2.1)
      (case side11 => repeat (first | exact (Kd.R_reads' HO726.out).2.2 | (with_reducible refine Kd.C_alloc ?_ _) | (with_reducible refine Kd.C_drewN ?_ _) | (with_reducible refine Kd.C_drew ?_)))
      (case side12 => exact (Kd.R_reads' HO726.out).2.1)
      (case side13 => repeat (first | exact (Kd.R_reads' HO729.out).2.2 | (with_reducible refine Kd.C_alloc ?_ _) | (with_reducible refine Kd.C_drewN ?_ _) | (with_reducible refine Kd.C_drew ?_)))
      (case side14 => exact (Kd.R_reads' HO729.out).2.1)
      (case side15 => repeat (first | exact (Kd.R_reads' HO732.out).2.2 | (with_reducible refine Kd.C_alloc ?_ _) | (with_reducible refine Kd.C_drewN ?_ _) | (with_reducible refine Kd.C_drew ?_)))
      (case side16 => exact (Kd.R_reads' HO732.out).2.1)
      rintro e w54 ⟨rfl, hb⟩
      refine ⟨_, rfl, ?_⟩
      have n0_ := Aside0.mk (Kd.R_below z25_10 hb)
      have n1_ := Aside0.mk (Kd.R_below z25_9 hb)
      have n2_ := Aside0.mk (Kd.R_below z25_7 hb)
      have n3_ := Aside0.mk (Kd.R_below z25_8 hb)
      have n4_ := Aside0.mk (Kd.R_below z25_11 hb)
      have n5_ := Aside0.mk (Kd.R_below z25_28 hb)
      have n6_ := Aside0.mk (Kd.R_below z25_27 hb)
      have n7_ := Aside0.mk (Kd.R_below z25_26 hb)
      have n8_ := Aside0.mk (Kd.R_below z25_25 hb)
      have n9_ := Aside0.mk (Kd.R_below z25_29 hb)
      have n10_ := Aside0.mk (Kd.R_below (by (with_reducible repeat (first | apply Kd.R_alloc | apply Kd.R_drewN | apply Kd.R_drew)); exact HO723.out) hb)
      have n11_ := Aside0.mk (Kd.R_below (by (with_reducible repeat (first | apply Kd.R_alloc | apply Kd.R_drewN | apply Kd.R_drew)); exact HO726.out) hb)
      have n12_ := Aside0.mk (Kd.R_below (by (with_reducible repeat (first | apply Kd.R_alloc | apply Kd.R_drewN | apply Kd.R_drew)); exact HO729.out) hb)
      have n13_ := Aside0.mk (Kd.R_below (by (with_reducible repeat (first | apply Kd.R_alloc | apply Kd.R_drewN | apply Kd.R_drew)); exact HO732.out) hb)
      have n14_ := Aside0.mk (blk_below (g := gb687) (o := .cells #[.slice A0_0 l0_0.length c0_0, .slice A0_1 l0_1.length c0_1, .slice A0_2 l0_2.length c0_2, .slice A0_3 l0_3.length c0_3] 46 (0, 0)) z25_3 hb)
      have n15_ := Aside0.mk (blk_below (g := gb716) (o := .cells #[.slice Ao38 t704.length co38, .slice Ao41 t707.length co41, .slice Ao42 t710.length co42, .slice Ao43 t713.length co43] 53 (0, 0)) z25_4 hb)
      have n16_ := Aside0.mk (below_step z25_0 hb)
      clear HO691
      clear HO694
      clear HO697
      clear HO700
      clear HO703
      clear HO706
      clear HO709
      clear HO712
      clear HO715
      clear HO719
      clear HO723
      clear HO726
      clear HO729
      clear HO732
      clear BK687
      clear BK716
      clear HB
      have HO691 := n0_
      have HO694 := n1_
      have HO697 := n2_
      have HO700 := n3_
      have HO703 := n4_
      have HO706 := n5_
      have HO709 := n6_
      have HO712 := n7_
      have HO715 := n8_
      have HO719 := n9_
      have HO723 := n10_
      have HO726 := n11_
      have HO729 := n12_
      have HO732 := n13_
      have BK687 := n14_
      have BK716 := n15_
      have HB := n16_
      clear n0_ n1_ n2_ n3_ n4_ n5_ n6_ n7_ n8_ n9_ n10_ n11_ n12_ n13_ n14_ n15_ n16_
      (try clear hb)
      (try clear hb2)
      (try clear hk)
      (try clear hi)
      refine hK.out _ _ ⟨(blk_cell BK716.out 0).trans rfl, (blk_cell BK716.out 1).trans rfl, (blk_cell BK716.out 2).trans rfl, (blk_cell BK716.out 3).trans rfl, (blk_cell BK687.out 0).trans rfl, (blk_cell BK687.out 1).trans rfl, (blk_cell BK687.out 2).trans rfl, (blk_cell BK687.out 3).trans rfl⟩ (fun hHeld => ?_)
      clear hK K
      refine norm_ (a' := ?_) ?_ ?_
      rotate_left
      ·
       show Act.put _ (some 48) _ = _
       simp only [Act.put, List.setIfInBounds_toArray, List.set_cons_zero, List.set_cons_succ, i64_w, i32_w]
       rfl
      refine pure_ (i := 4) (N := some 49) (v := ?_) (a' := ?_) #[true, true, true, true, true] rfl rfl z25_33 (fun _ _ _ h => h) (Or.inl ⟨by rfl, ?_⟩) ?_ ?_
      rotate_left
      ·
       exact (by intro w'; go_simp; with_reducible rfl)
      rotate_left
      ·
       exact z25_35
      refine done_ z25_33 ?_
      have hcz55_0 : w54.cell? ⟨gb716, 0, none⟩ = some (.slice Ao38 t704.length co38) := (blk_cell BK716.out 0).trans rfl
      have hcz55_1 : w54.cell? ⟨gb716, 1, none⟩ = some (.slice Ao41 t707.length co41) := (blk_cell BK716.out 1).trans rfl
      have hcz55_2 : w54.cell? ⟨gb716, 2, none⟩ = some (.slice Ao42 t710.length co42) := (blk_cell BK716.out 2).trans rfl
      have hcz55_3 : w54.cell? ⟨gb716, 3, none⟩ = some (.slice Ao43 t713.length co43) := (blk_cell BK716.out 3).trans rfl
      have hfz55_0 := blk_frozen BK716.out 0
      have hfz55_1 := blk_frozen BK716.out 1
      have hfz55_2 := blk_frozen BK716.out 2
      have hfz55_3 := blk_frozen BK716.out 3
      go_upto_region 18 with (first | ((with_reducible refine gate_callee (f := 37) rfl ?_); refine goesL_ (some 52) rfl rfl Try.func37 z25_33 rfl #[.agg #[.slice Ao38 t704.length co38, .slice Ao41 t707.length co41, .slice Ao42 t710.length co42, .slice Ao43 t713.length co43], .int .i64 1] rfl z25_5 ?_; (with_reducible refine (laws_markState.calls k (fun k_ => some k_ = (.slice Ao38 t704.length co38 : Value).ownBlock) (.slice Ao38 t704.length co38) t704 (fun k_ => some k_ = (.slice Ao41 t707.length co41 : Value).ownBlock) (.slice Ao41 t707.length co41) t707 (fun k_ => some k_ = (.slice Ao42 t710.length co42 : Value).ownBlock) (.slice Ao42 t710.length co42) t710 (fun k_ => some k_ = (.slice Ao43 t713.length co43 : Value).ownBlock) (.slice Ao43 t713.length co43) t713 1 t734 t735 t736 t737 t738 w _ ?side1 ?side2 ?side3 ?side4 ?side5 A23.out).mono ?_); (case side1 => repeat (first | (with_reducible first | exact HB.out | apply below_alloc | apply pw_below_drewN | apply below_drew1 | refine below_set ?_ GE687.out | refine below_set ?_ GE716.out) | exact HB.out)); (case side2 => exact Kd.R_tight rfl HO706.out); (case side3 => exact Kd.R_tight rfl HO709.out); (case side4 => exact Kd.R_tight rfl HO712.out); (case side5 => exact Kd.R_tight rfl HO715.out); rintro e w56 ⟨rfl, hy0, hy1, hy2, hy3, hb, hkp⟩; refine ⟨_, rfl, ?_⟩; have n0_ := Aside0.mk (blk_kept z25_3 hkp (fun hs_ => Or.elim hs_ (fun e_ => (fun e_ => (Kd.R_ne HO706.out BK687.out (by decide)) e_) e_) (fun e_ => Or.elim e_ (fun e_ => (fun e_ => (Kd.R_ne HO709.out BK687.out (by decide)) e_) e_) (fun e_ => Or.elim e_ (fun e_ => (fun e_ => (Kd.R_ne HO712.out BK687.out (by decide)) e_) e_) (fun e_ => (fun e_ => (Kd.R_ne HO715.out BK687.out (by decide)) e_) e_))))); have n1_ := Aside0.mk (Kd.R_mono (ok' := fun k_ => some k_ ≠ (.slice Ao38 t704.length co38 : Value).ownBlock ∧ some k_ ≠ (.slice Ao50 t721.length co50 : Value).ownBlock) (Kd.R_keptB ((Kd.R_apart' (Kd.R_apart' (Kd.R_apart' HO691.out (Kd.R_typed HO709.out) (by decide)) (Kd.R_typed HO712.out) (by decide)) (Kd.R_typed HO715.out) (by decide))) hkp (fun k_ hk_ hs_ => Or.elim hs_ (fun e_ => (hk_.1.1.1.1.2) e_) (fun e_ => Or.elim e_ (fun e_ => (hk_.1.1.2) e_) (fun e_ => Or.elim e_ (fun e_ => (hk_.1.2) e_) (fun e_ => (hk_.2) e_))))) (fun k_ hk_ => ⟨hk_.1.1.1.1.1.2, hk_.1.1.1.1.2⟩)); have n2_ := Aside0.mk (Kd.R_mono (ok' := fun k_ => some k_ ≠ (.slice Ao41 t707.length co41 : Value).ownBlock ∧ some k_ ≠ (.slice Ao51 t724.length co51 : Value).ownBlock) (Kd.R_keptB ((Kd.R_apart' (Kd.R_apart' (Kd.R_apart' HO694.out (Kd.R_typed HO706.out) (by decide)) (Kd.R_typed HO712.out) (by decide)) (Kd.R_typed HO715.out) (by decide))) hkp (fun k_ hk_ hs_ => Or.elim hs_ (fun e_ => (hk_.1.1.2) e_) (fun e_ => Or.elim e_ (fun e_ => (hk_.1.1.1.1.2) e_) (fun e_ => Or.elim e_ (fun e_ => (hk_.1.2) e_) (fun e_ => (hk_.2) e_))))) (fun k_ hk_ => ⟨hk_.1.1.1.1.1.2, hk_.1.1.1.1.2⟩)); have n3_ := Aside0.mk (Kd.R_mono (ok' := fun k_ => some k_ ≠ (.slice Ao46 t701.length co46 : Value).ownBlock ∧ some k_ ≠ (.slice Ao42 t710.length co42 : Value).ownBlock ∧ some k_ ≠ (.slice Ao45 t717.length co45 : Value).ownBlock ∧ some k_ ≠ (.slice Ao52 t727.length co52 : Value).ownBlock) (Kd.R_keptB ((Kd.R_apart' (Kd.R_apart' (Kd.R_apart' HO697.out (Kd.R_typed HO706.out) (by decide)) (Kd.R_typed HO709.out) (by decide)) (Kd.R_typed HO715.out) (by decide))) hkp (fun k_ hk_ hs_ => Or.elim hs_ (fun e_ => (hk_.1.1.2) e_) (fun e_ => Or.elim e_ (fun e_ => (hk_.1.2) e_) (fun e_ => Or.elim e_ (fun e_ => (hk_.1.1.1.1.1.2) e_) (fun e_ => (hk_.2) e_))))) (fun k_ hk_ => ⟨hk_.1.1.1.1.1.1.1.2, hk_.1.1.1.1.1.1.2, hk_.1.1.1.1.1.2, hk_.1.1.1.1.2⟩)); have n4_ := Aside0.mk (Kd.R_mono (ok' := fun k_ => some k_ ≠ (.slice Ao43 t713.length co43 : Value).ownBlock ∧ some k_ ≠ (.slice Ao53 t730.length co53 : Value).ownBlock) (Kd.R_keptB ((Kd.R_apart' (Kd.R_apart' (Kd.R_apart' HO700.out (Kd.R_typed HO706.out) (by decide)) (Kd.R_typed HO709.out) (by decide)) (Kd.R_typed HO712.out) (by decide))) hkp (fun k_ hk_ hs_ => Or.elim hs_ (fun e_ => (hk_.1.1.2) e_) (fun e_ => Or.elim e_ (fun e_ => (hk_.1.2) e_) (fun e_ => Or.elim e_ (fun e_ => (hk_.2) e_) (fun e_ => (hk_.1.1.1.1.2) e_))))) (fun k_ hk_ => ⟨hk_.1.1.1.1.1.2, hk_.1.1.1.1.2⟩)); have n5_ := Aside0.mk (Kd.R_mono (ok' := fun k_ => some k_ ≠ (.slice Ao32 t695.length co32 : Value).ownBlock ∧ some k_ ≠ (.slice Ao42 t710.length co42 : Value).ownBlock ∧ some k_ ≠ (.slice Ao45 t717.length co45 : Value).ownBlock ∧ some k_ ≠ (.slice Ao52 t727.length co52 : Value).ownBlock) (Kd.R_keptB ((Kd.R_apart' (Kd.R_apart' (Kd.R_apart' HO703.out (Kd.R_typed HO706.out) (by decide)) (Kd.R_typed HO709.out) (by decide)) (Kd.R_typed HO715.out) (by decide))) hkp (fun k_ hk_ hs_ => Or.elim hs_ (fun e_ => (hk_.1.1.2) e_) (fun e_ => Or.elim e_ (fun e_ => (hk_.1.2) e_) (fun e_ => Or.elim e_ (fun e_ => (hk_.1.1.1.1.1.2) e_) (fun e_ => (hk_.2) e_))))) (fun k_ hk_ => ⟨hk_.1.1.1.1.1.1.1.2, hk_.1.1.1.1.1.1.2, hk_.1.1.1.1.1.2, hk_.1.1.1.1.2⟩)); have n6_ := Aside0.mk (Kd.R_reok rfl hy0 (fun k_ e_ => HO706.out.1 k_ e_)); have n7_ := Aside0.mk (Kd.R_reok rfl hy1 (fun k_ e_ => HO709.out.1 k_ e_)); have n8_ := Aside0.mk (Kd.R_reok rfl hy2 (fun k_ e_ => HO712.out.1 k_ e_)); have n9_ := Aside0.mk (Kd.R_reok rfl hy3 (fun k_ e_ => HO715.out.1 k_ e_)); have n10_ := Aside0.mk (blk_kept z25_4 hkp (fun hs_ => Or.elim hs_ (fun e_ => (fun e_ => (Kd.R_ne HO706.out BK716.out (by decide)) e_) e_) (fun e_ => Or.elim e_ (fun e_ => (fun e_ => (Kd.R_ne HO709.out BK716.out (by decide)) e_) e_) (fun e_ => Or.elim e_ (fun e_ => (fun e_ => (Kd.R_ne HO712.out BK716.out (by decide)) e_) e_) (fun e_ => (fun e_ => (Kd.R_ne HO715.out BK716.out (by decide)) e_) e_))))); have n11_ := Aside0.mk (Kd.R_mono (ok' := fun k_ => some k_ ≠ (.slice Ao32 t695.length co32 : Value).ownBlock ∧ some k_ ≠ (.slice Ao46 t701.length co46 : Value).ownBlock ∧ some k_ ≠ (.slice Ao42 t710.length co42 : Value).ownBlock ∧ some k_ ≠ (.slice Ao52 t727.length co52 : Value).ownBlock) (Kd.R_keptB ((Kd.R_apart' (Kd.R_apart' (Kd.R_apart' HO719.out (Kd.R_typed HO706.out) (by decide)) (Kd.R_typed HO709.out) (by decide)) (Kd.R_typed HO715.out) (by decide))) hkp (fun k_ hk_ hs_ => Or.elim hs_ (fun e_ => (hk_.1.1.2) e_) (fun e_ => Or.elim e_ (fun e_ => (hk_.1.2) e_) (fun e_ => Or.elim e_ (fun e_ => (hk_.1.1.1.1.2) e_) (fun e_ => (hk_.2) e_))))) (fun k_ hk_ => ⟨hk_.1.1.1.1.1.1.1.2, hk_.1.1.1.1.1.1.2, hk_.1.1.1.1.1.2, hk_.1.1.1.1.2⟩)); have n12_ := Aside0.mk (Kd.R_mono (ok' := fun k_ => some k_ ≠ (.slice Ao30 t689.length co30 : Value).ownBlock ∧ some k_ ≠ (.slice Ao38 t704.length co38 : Value).ownBlock) (Kd.R_keptB ((Kd.R_apart' (Kd.R_apart' (Kd.R_apart' HO723.out (Kd.R_typed HO709.out) (by decide)) (Kd.R_typed HO712.out) (by decide)) (Kd.R_typed HO715.out) (by decide))) hkp (fun k_ hk_ hs_ => Or.elim hs_ (fun e_ => (hk_.1.1.1.2) e_) (fun e_ => Or.elim e_ (fun e_ => (hk_.1.1.2) e_) (fun e_ => Or.elim e_ (fun e_ => (hk_.1.2) e_) (fun e_ => (hk_.2) e_))))) (fun k_ hk_ => ⟨hk_.1.1.1.1.1.2, hk_.1.1.1.1.2⟩)); have n13_ := Aside0.mk (Kd.R_mono (ok' := fun k_ => some k_ ≠ (.slice Ao31 t692.length co31 : Value).ownBlock ∧ some k_ ≠ (.slice Ao41 t707.length co41 : Value).ownBlock) (Kd.R_keptB ((Kd.R_apart' (Kd.R_apart' (Kd.R_apart' HO726.out (Kd.R_typed HO706.out) (by decide)) (Kd.R_typed HO712.out) (by decide)) (Kd.R_typed HO715.out) (by decide))) hkp (fun k_ hk_ hs_ => Or.elim hs_ (fun e_ => (hk_.1.1.2) e_) (fun e_ => Or.elim e_ (fun e_ => (hk_.1.1.1.2) e_) (fun e_ => Or.elim e_ (fun e_ => (hk_.1.2) e_) (fun e_ => (hk_.2) e_))))) (fun k_ hk_ => ⟨hk_.1.1.1.1.1.2, hk_.1.1.1.1.2⟩)); have n14_ := Aside0.mk (Kd.R_mono (ok' := fun k_ => some k_ ≠ (.slice Ao32 t695.length co32 : Value).ownBlock ∧ some k_ ≠ (.slice Ao46 t701.length co46 : Value).ownBlock ∧ some k_ ≠ (.slice Ao42 t710.length co42 : Value).ownBlock ∧ some k_ ≠ (.slice Ao45 t717.length co45 : Value).ownBlock) (Kd.R_keptB ((Kd.R_apart' (Kd.R_apart' (Kd.R_apart' HO729.out (Kd.R_typed HO706.out) (by decide)) (Kd.R_typed HO709.out) (by decide)) (Kd.R_typed HO715.out) (by decide))) hkp (fun k_ hk_ hs_ => Or.elim hs_ (fun e_ => (hk_.1.1.2) e_) (fun e_ => Or.elim e_ (fun e_ => (hk_.1.2) e_) (fun e_ => Or.elim e_ (fun e_ => (hk_.1.1.1.1.2) e_) (fun e_ => (hk_.2) e_))))) (fun k_ hk_ => ⟨hk_.1.1.1.1.1.1.1.2, hk_.1.1.1.1.1.1.2, hk_.1.1.1.1.1.2, hk_.1.1.1.1.2⟩)); have n15_ := Aside0.mk (Kd.R_mono (ok' := fun k_ => some k_ ≠ (.slice Ao33 t698.length co33 : Value).ownBlock ∧ some k_ ≠ (.slice Ao43 t713.length co43 : Value).ownBlock) (Kd.R_keptB ((Kd.R_apart' (Kd.R_apart' (Kd.R_apart' HO732.out (Kd.R_typed HO706.out) (by decide)) (Kd.R_typed HO709.out) (by decide)) (Kd.R_typed HO712.out) (by decide))) hkp (fun k_ hk_ hs_ => Or.elim hs_ (fun e_ => (hk_.1.1.2) e_) (fun e_ => Or.elim e_ (fun e_ => (hk_.1.2) e_) (fun e_ => Or.elim e_ (fun e_ => (hk_.2) e_) (fun e_ => (hk_.1.1.1.2) e_))))) (fun k_ hk_ => ⟨hk_.1.1.1.1.1.2, hk_.1.1.1.1.2⟩)); have n16_ := Aside0.mk (hb); clear BK687; clear HO691; clear HO694; clear HO697; clear HO700; clear HO703; clear HO706; clear HO709; clear HO712; clear HO715; clear BK716; clear HO719; clear HO723; clear HO726; clear HO729; clear HO732; clear HB; have BK687 := n0_; have HO691 := n1_; have HO694 := n2_; have HO697 := n3_; have HO700 := n4_; have HO703 := n5_; have HO706 := n6_; have HO709 := n7_; have HO712 := n8_; have HO715 := n9_; have BK716 := n10_; have HO719 := n11_; have HO723 := n12_; have HO726 := n13_; have HO729 := n14_; have HO732 := n15_; have HB := n16_; clear n0_ n1_ n2_ n3_ n4_ n5_ n6_ n7_ n8_ n9_ n10_ n11_ n12_ n13_ n14_ n15_ n16_; (try clear hb); (try clear hkp); (try clear hy0); (try clear hy1); (try clear hy2); (try clear hy3)))
      (try simp only [Act.put, List.setIfInBounds_toArray, List.set_cons_zero, List.set_cons_succ])
      go_cut [60] (fun v60 wc => ∃ (kq : Nat) (x60_23 : Bool), v60 = .bool x60_23 ∧ Aside0 (laws_FnExactLivesOf.j0 kq a1 a2 a3 t701 t717 x60_23 l0_0 l0_1 l0_2 l0_3 = some true) ∧ Aside0 (kq ≤ k) ∧ Aside0 (Kd.R k134 134 wc w.heap.size (fun k_ => some k_ ≠ ((.slice Ao45 t717.length co45) : Value).ownBlock ∧ some k_ ≠ ((.slice Ao42 t710.length co42) : Value).ownBlock) (.slice Ao46 t701.length co46) t701) ∧ Aside0 (Kd.R k134 134 wc w.heap.size (fun k_ => some k_ ≠ ((.slice Ao46 t701.length co46) : Value).ownBlock ∧ some k_ ≠ ((.slice Ao42 t710.length co42) : Value).ownBlock) (.slice Ao45 t717.length co45) t717) ∧ Aside0 (Kd.R (Kd.int .i64) 3 wc w.heap.size (fun _ => True) (.slice Ao38 t704.length co38) t735) ∧ Aside0 (Kd.R k127 127 wc w.heap.size (fun _ => True) (.slice Ao41 t707.length co41) t736) ∧ Aside0 (Kd.R k134 134 wc w.heap.size (fun k_ => some k_ ≠ ((.slice Ao46 t701.length co46) : Value).ownBlock ∧ some k_ ≠ ((.slice Ao45 t717.length co45) : Value).ownBlock) (.slice Ao42 t710.length co42) t737) ∧ Aside0 (Kd.R k167 167 wc w.heap.size (fun _ => True) (.slice Ao43 t713.length co43) t738) ∧ Aside0 (wc.heap[gb687]? = some (.cells #[(.slice A0_0 l0_0.length c0_0), (.slice A0_1 l0_1.length c0_1), (.slice A0_2 l0_2.length c0_2), (.slice A0_3 l0_3.length c0_3)] 46 (0, 0))) ∧ Aside0 (wc.heap[gb716]? = some (.cells #[(.slice Ao38 t704.length co38), (.slice Ao41 t707.length co41), (.slice Ao42 t710.length co42), (.slice Ao43 t713.length co43)] 53 (0, 0))) ∧ Aside0 (Below w.heap.size w wc))
      case first =>
       have H := HC24.out
       clear HC24
       by_cases c57 : t734 < 0
       ·
        rw [if_pos c57] at H
        have c57b0 : decide (t734 < 0) = true := decide_eq_true c57
        clear c57
        (first | rw [c57b0] | (simp only [i64_w, i32_w]; rw [c57b0]) | skip)
        have H' := Aside0.mk H
        clear H
        go_wp2
        go_meet
        case rel => exact ⟨_, (true), (by first | rfl | (simp; done) | (simp [*]; done)), H', ⟨by first | omega | exact Nat.le_refl _⟩, ⟨z25_41⟩, ⟨z25_39⟩, ⟨z25_44⟩, ⟨z25_43⟩, ⟨z25_40⟩, ⟨z25_42⟩, ⟨z25_3⟩, ⟨z25_4⟩, ⟨z25_0⟩⟩
       ·
        rw [if_neg c57] at H
        have c57b0 : decide (t734 < 0) = false := decide_eq_false c57
        clear c57
        (first | rw [c57b0] | (simp only [i64_w, i32_w]; rw [c57b0]) | skip)
        replace H := Option.bind_eq_some_iff.mp H
        obtain ⟨t739, A580, H⟩ := H
        (try dsimp only at H)
        have A58 := Aside0.mk A580
        clear A580
        have H' := Aside0.mk H
        clear H
        go_wp2_with (first | (go_at_call 36; (with_reducible refine (laws_eqLiveS.calls k _ _ t717 _ _ t701 t739 _ ?side1 ?side2 ?side3 ?side4 A58.out).mono ?_); (case side1 => repeat (first | exact (Kd.R_reads' HO719.out).2.2 | (with_reducible refine Kd.C_alloc ?_ _) | (with_reducible refine Kd.C_drewN ?_ _) | (with_reducible refine Kd.C_drew ?_))); (case side2 => exact (Kd.R_reads' HO719.out).2.1); (case side3 => repeat (first | exact (Kd.R_reads' HO703.out).2.2 | (with_reducible refine Kd.C_alloc ?_ _) | (with_reducible refine Kd.C_drewN ?_ _) | (with_reducible refine Kd.C_drew ?_))); (case side4 => exact (Kd.R_reads' HO703.out).2.1); rintro e w59 ⟨rfl, hb⟩; have n0_ := Aside0.mk (Kd.R_below z25_10 hb); have n1_ := Aside0.mk (Kd.R_below z25_9 hb); have n2_ := Aside0.mk (Kd.R_below z25_7 hb); have n3_ := Aside0.mk (Kd.R_below z25_8 hb); have n4_ := Aside0.mk (Kd.R_below z25_11 hb); have n5_ := Aside0.mk (Kd.R_below z25_28 hb); have n6_ := Aside0.mk (Kd.R_below z25_27 hb); have n7_ := Aside0.mk (Kd.R_below z25_26 hb); have n8_ := Aside0.mk (Kd.R_below z25_25 hb); have n9_ := Aside0.mk (Kd.R_below z25_29 hb); have n10_ := Aside0.mk (Kd.R_below (by (with_reducible repeat (first | apply Kd.R_alloc | apply Kd.R_drewN | apply Kd.R_drew)); exact HO723.out) hb); have n11_ := Aside0.mk (Kd.R_below (by (with_reducible repeat (first | apply Kd.R_alloc | apply Kd.R_drewN | apply Kd.R_drew)); exact HO726.out) hb); have n12_ := Aside0.mk (Kd.R_below (by (with_reducible repeat (first | apply Kd.R_alloc | apply Kd.R_drewN | apply Kd.R_drew)); exact HO729.out) hb); have n13_ := Aside0.mk (Kd.R_below (by (with_reducible repeat (first | apply Kd.R_alloc | apply Kd.R_drewN | apply Kd.R_drew)); exact HO732.out) hb); have n14_ := Aside0.mk (blk_below (g := gb687) (o := .cells #[.slice A0_0 l0_0.length c0_0, .slice A0_1 l0_1.length c0_1, .slice A0_2 l0_2.length c0_2, .slice A0_3 l0_3.length c0_3] 46 (0, 0)) z25_3 hb); have n15_ := Aside0.mk (blk_below (g := gb716) (o := .cells #[.slice Ao38 t704.length co38, .slice Ao41 t707.length co41, .slice Ao42 t710.length co42, .slice Ao43 t713.length co43] 53 (0, 0)) z25_4 hb); have n16_ := Aside0.mk (below_step z25_0 hb); clear HO691; clear HO694; clear HO697; clear HO700; clear HO703; clear HO706; clear HO709; clear HO712; clear HO715; clear HO719; clear HO723; clear HO726; clear HO729; clear HO732; clear BK687; clear BK716; clear HB; have HO691 := n0_; have HO694 := n1_; have HO697 := n2_; have HO700 := n3_; have HO703 := n4_; have HO706 := n5_; have HO709 := n6_; have HO712 := n7_; have HO715 := n8_; have HO719 := n9_; have HO723 := n10_; have HO726 := n11_; have HO729 := n12_; have HO732 := n13_; have BK687 := n14_; have BK716 := n15_; have HB := n16_; clear n0_ n1_ n2_ n3_ n4_ n5_ n6_ n7_ n8_ n9_ n10_ n11_ n12_ n13_ n14_ n15_ n16_))
        go_meet
        case rel => exact ⟨_, (!t739), (by first | rfl | (simp; done) | (simp [*]; done)), H', ⟨by first | omega | exact Nat.le_refl _⟩, ⟨z25_41⟩, ⟨z25_39⟩, ⟨z25_44⟩, ⟨z25_43⟩, ⟨z25_40⟩, ⟨z25_42⟩, ⟨z25_3⟩, ⟨z25_4⟩, ⟨z25_0⟩⟩
      case rest =>
       clear HC24
       try clear c1
       try clear c2
       try clear p2
       try clear c3
       try clear c5
       try clear c5b0
       try clear c5b1
       try clear c7
       try clear c7b0
       try clear c7b1
       try clear c9
       try clear c10
       try clear c10b0
       try clear c19
       try clear c22
       try clear c27
       try clear c29
       try clear c31
       try clear c34
       try clear c35
       try clear c36
       try clear c37
       try clear c39
       try clear c57
       try clear c57b0
       try clear hcz12_0
       try clear hcz12_1
       try clear hcz12_2
       try clear hcz12_3
       try clear hcz26_0
       try clear hcz26_1
       try clear hcz26_2
       try clear hcz26_3
       try clear hcz28_0
       try clear hcz28_1
       try clear hcz28_2
       try clear hcz28_3
       try clear hcz35_0
       try clear hcz35_1
       try clear hcz35_2
       try clear hcz35_3
       try clear hcz40_0
       try clear hcz40_1
       try clear hcz40_2
       try clear hcz40_3
       try clear hcz55_0
       try clear hcz55_1
       try clear hcz55_2
       try clear hcz55_3
       try clear hfz12_0
       try clear hfz12_1
       try clear hfz12_2
       try clear hfz12_3
       try clear hfz26_0
       try clear hfz26_1
       try clear hfz26_2
       try clear hfz26_3
       try clear hfz28_0
       try clear hfz28_1
       try clear hfz28_2
       try clear hfz28_3
       try clear hfz35_0
       try clear hfz35_1
       try clear hfz35_2
       try clear hfz35_3
       try clear hfz40_0
       try clear hfz40_1
       try clear hfz40_2
       try clear hfz40_3
       try clear hfz55_0
       try clear hfz55_1
       try clear hfz55_2
       try clear hfz55_3
       obtain ⟨kq, x60_23, rfl, HA, HJ23, HO_10, HO_12, HO_717000, HO_717001, HO_717002, HO_717003, BK687, BK716, HB⟩ := hcut
       have hl717000_23 := (Kd.R_reads' HO_717000.out).1
       rw [hl717000_23] at HO_717000
       (try simp only [hl717000_23])
       (try simp only [hl717000_23] at BK687)
       (try simp only [hl717000_23] at BK716)
       (try simp only [hl717000_23] at HO_10)
       (try simp only [hl717000_23] at HO_12)
       (try simp only [hl717000_23] at HO_717001)
       (try simp only [hl717000_23] at HO_717002)
       (try simp only [hl717000_23] at HO_717003)
       have hl717001_23 := (Kd.R_reads' HO_717001.out).1
       rw [hl717001_23] at HO_717001
       (try simp only [hl717001_23])
       (try simp only [hl717001_23] at BK687)
       (try simp only [hl717001_23] at BK716)
       (try simp only [hl717001_23] at HO_10)
       (try simp only [hl717001_23] at HO_12)
       (try simp only [hl717001_23] at HO_717000)
       (try simp only [hl717001_23] at HO_717002)
       (try simp only [hl717001_23] at HO_717003)
       have hl717002_23 := (Kd.R_reads' HO_717002.out).1
       rw [hl717002_23] at HO_717002
       (try simp only [hl717002_23])
       (try simp only [hl717002_23] at BK687)
       (try simp only [hl717002_23] at BK716)
       (try simp only [hl717002_23] at HO_10)
       (try simp only [hl717002_23] at HO_12)
       (try simp only [hl717002_23] at HO_717000)
       (try simp only [hl717002_23] at HO_717001)
       (try simp only [hl717002_23] at HO_717003)
       have hl717003_23 := (Kd.R_reads' HO_717003.out).1
       rw [hl717003_23] at HO_717003
       (try simp only [hl717003_23])
       (try simp only [hl717003_23] at BK687)
       (try simp only [hl717003_23] at BK716)
       (try simp only [hl717003_23] at HO_10)
       (try simp only [hl717003_23] at HO_12)
       (try simp only [hl717003_23] at HO_717000)
       (try simp only [hl717003_23] at HO_717001)
       (try simp only [hl717003_23] at HO_717002)
       cases kq with
       | zero => exact absurd HA.out (by simp [laws_FnExactLivesOf.j0])
       | succ kj23 =>
        have H := HA.out
        clear HA
        simp only [laws_FnExactLivesOf.j0] at H
        by_cases c60 : x60_23 = true
        ·
         subst c60
         rw [if_pos rfl] at H
         exact absurd H (by simp)
        ·
         replace c60 := Bool.eq_false_iff.mpr c60
         subst c60
         rw [if_neg (show ¬ (false = true) by decide)] at H
         replace H := Option.bind_eq_some_iff.mp H
         obtain ⟨⟨t740, t741⟩, A610, H⟩ := H
         (try dsimp only at H)
         have A61 := Aside0.mk A610
         clear A610
         replace H := Option.bind_eq_some_iff.mp H
         obtain ⟨t742, A620, H⟩ := H
         (try dsimp only at H)
         have A62 := Aside0.mk A620
         clear A620
         by_cases c63 : t742 < 0
         ·
          rw [if_pos c63] at H
          have c63b0 : decide (t742 < 0) = true := decide_eq_true c63
          clear c63
          exact absurd H (by simp)
         ·
          rw [if_neg c63] at H
          have c63b0 : decide (t742 < 0) = false := decide_eq_false c63
          clear c63
          by_cases c64 : t742 = t740
          ·
           rw [if_pos c64] at H
           have c64b0 : (t742 == t740) = true := beq_iff_eq.mpr c64
           have c64b1 : (t742 != t740) = false := bne_eq_false_iff_eq.mpr c64
           clear c64
           replace H := Option.bind_eq_some_iff.mp H
           obtain ⟨⟨t743, t746, t749, t752⟩, A650, H⟩ := H
           (try dsimp only at H)
           have A65 := Aside0.mk A650
           clear A650
           replace H := Option.bind_eq_some_iff.mp H
           obtain ⟨t755, A660, H⟩ := H
           (try dsimp only at H)
           have A66 := Aside0.mk A660
           clear A660
           replace H := Option.bind_eq_some_iff.mp H
           obtain ⟨t758, A670, H⟩ := H
           (try dsimp only at H)
           have A67 := Aside0.mk A670
           clear A670
           by_cases c68 : t758 = true
           ·
            subst c68
            rw [if_pos rfl] at H
            replace H := Option.bind_eq_some_iff.mp H
            obtain ⟨t759, A690, H⟩ := H
            (try dsimp only at H)
            have A69 := Aside0.mk A690
            clear A690
            by_cases c70 : t759 < 0
            ·
             rw [if_pos c70] at H
             have c70b0 : decide (t759 < 0) = true := decide_eq_true c70
             clear c70
             exact absurd H (by simp)
            ·
             rw [if_neg c70] at H
             have c70b0 : decide (t759 < 0) = false := decide_eq_false c70
             clear c70
             by_cases c71 : t759 = t740
             ·
              rw [if_pos c71] at H
              have c71b0 : (t759 == t740) = true := beq_iff_eq.mpr c71
              have c71b1 : (t759 != t740) = false := bne_eq_false_iff_eq.mpr c71
              clear c71
              clear H
              go_wp2_with (first | ((with_reducible refine gate_callee (f := 38) rfl ?_); refine goesL_ (some 63) rfl rfl Try.func38 z25_33 rfl #[.slice Ao45 t717.length co45, .int .i64 1] rfl z25_5 ?_; (with_reducible refine (laws_markLiveS.calls kj23 (fun k_ => some k_ = (.slice Ao45 t717.length co45 : Value).ownBlock) (.slice Ao45 t717.length co45) t717 1 t740 t741 w _ ?side1 ?side2 A61.out).mono ?_); (case side1 => repeat (first | (with_reducible first | exact HB.out | apply below_alloc | apply pw_below_drewN | apply below_drew1 | refine below_set ?_ GE687.out | refine below_set ?_ GE716.out) | exact HB.out)); (case side2 => exact Kd.R_tight rfl HO_12.out); rintro e w72 ⟨rfl, hy0, hb, hkp⟩; refine ⟨_, rfl, ?_⟩; have n0_ := Aside0.mk (Kd.R_mono (ok' := fun k_ => some k_ ≠ (.slice Ao45 t717.length co45 : Value).ownBlock ∧ some k_ ≠ (.slice Ao42 t737.length co42 : Value).ownBlock) (Kd.R_keptB (HO_10.out) hkp (fun k_ hk_ hs_ => (hk_.1) hs_)) (fun k_ hk_ => ⟨hk_.1.1, hk_.1.2⟩)); have n1_ := Aside0.mk (Kd.R_reok rfl hy0 (fun k_ e_ => HO_12.out.1 k_ e_)); have n2_ := Aside0.mk (Kd.R_mono (ok' := fun k_ => True) (Kd.R_keptB ((Kd.R_apart' HO_717000.out (Kd.R_typed HO_12.out) (by decide))) hkp (fun k_ hk_ hs_ => (hk_.2) hs_)) (fun k_ hk_ => trivial)); have n3_ := Aside0.mk (Kd.R_mono (ok' := fun k_ => True) (Kd.R_keptB ((Kd.R_apart' HO_717001.out (Kd.R_typed HO_12.out) (by decide))) hkp (fun k_ hk_ hs_ => (hk_.2) hs_)) (fun k_ hk_ => trivial)); have n4_ := Aside0.mk (Kd.R_mono (ok' := fun k_ => some k_ ≠ (.slice Ao46 t701.length co46 : Value).ownBlock ∧ some k_ ≠ (.slice Ao45 t717.length co45 : Value).ownBlock) (Kd.R_keptB (HO_717002.out) hkp (fun k_ hk_ hs_ => (hk_.2) hs_)) (fun k_ hk_ => ⟨hk_.1.1, hk_.1.2⟩)); have n5_ := Aside0.mk (Kd.R_mono (ok' := fun k_ => True) (Kd.R_keptB ((Kd.R_apart' HO_717003.out (Kd.R_typed HO_12.out) (by decide))) hkp (fun k_ hk_ hs_ => (hk_.2) hs_)) (fun k_ hk_ => trivial)); have n6_ := Aside0.mk (blk_kept z25_3 hkp (fun hs_ => (fun e_ => (Kd.R_ne HO_12.out BK687.out (by decide)) e_) hs_)); have n7_ := Aside0.mk (blk_kept z25_4 hkp (fun hs_ => (fun e_ => (Kd.R_ne HO_12.out BK716.out (by decide)) e_) hs_)); have n8_ := Aside0.mk (hb); clear HO_10; clear HO_12; clear HO_717000; clear HO_717001; clear HO_717002; clear HO_717003; clear BK687; clear BK716; clear HB; have HO_10 := n0_; have HO_12 := n1_; have HO_717000 := n2_; have HO_717001 := n3_; have HO_717002 := n4_; have HO_717003 := n5_; have BK687 := n6_; have BK716 := n7_; have HB := n8_; clear n0_ n1_ n2_ n3_ n4_ n5_ n6_ n7_ n8_; (try clear hb); (try clear hkp); (try clear hy0)) | ((with_reducible refine gate_callee (f := 39) rfl ?_); refine goesL_ (some 66) rfl rfl Try.func39 z25_33 rfl #[.slice Ao45 t741.length co45, .int .i64 1] rfl z25_34 ?_; (with_reducible refine (laws_heldLiveS.calls kj23 _ _ t741 1 t742 _ ?side1 ?side2 A62.out).mono ?_); (case side1 => repeat (first | exact (Kd.R_reads' HO_12.out).2.2 | (with_reducible refine Kd.C_alloc ?_ _) | (with_reducible refine Kd.C_drewN ?_ _) | (with_reducible refine Kd.C_drew ?_))); (case side2 => rw [show t741.length = t717.length from (Kd.R_reads' HO_12.out).1.symm]; exact (Kd.R_reads' HO_12.out).2.1); rintro e w73 ⟨rfl, hb⟩; refine ⟨_, rfl, ?_⟩; have n0_ := Aside0.mk (Kd.R_below z25_16 hb); have n1_ := Aside0.mk (Kd.R_below z25_15 hb); have n2_ := Aside0.mk (Kd.R_below z25_19 hb); have n3_ := Aside0.mk (Kd.R_below z25_18 hb); have n4_ := Aside0.mk (Kd.R_below z25_14 hb); have n5_ := Aside0.mk (Kd.R_below z25_17 hb); have n6_ := Aside0.mk (blk_below (g := gb687) (o := .cells #[.slice A0_0 l0_0.length c0_0, .slice A0_1 l0_1.length c0_1, .slice A0_2 l0_2.length c0_2, .slice A0_3 l0_3.length c0_3] 46 (0, 0)) z25_3 hb); have n7_ := Aside0.mk (blk_below (g := gb716) (o := .cells #[.slice Ao38 t735.length co38, .slice Ao41 t736.length co41, .slice Ao42 t737.length co42, .slice Ao43 t738.length co43] 53 (0, 0)) z25_4 hb); have n8_ := Aside0.mk (below_step z25_0 hb); clear HO_10; clear HO_12; clear HO_717000; clear HO_717001; clear HO_717002; clear HO_717003; clear BK687; clear BK716; clear HB; have HO_10 := n0_; have HO_12 := n1_; have HO_717000 := n2_; have HO_717001 := n3_; have HO_717002 := n4_; have HO_717003 := n5_; have BK687 := n6_; have BK716 := n7_; have HB := n8_; clear n0_ n1_ n2_ n3_ n4_ n5_ n6_ n7_ n8_; have hnb74 := NB687_716.out; have hnc74 := NB716_687.out; have hcz75_0 : w73.cell? ⟨gb687, 0, none⟩ = some (.slice A0_0 l0_0.length c0_0) := (blk_cell BK687.out 0).trans rfl; have hcz75_1 : w73.cell? ⟨gb687, 1, none⟩ = some (.slice A0_1 l0_1.length c0_1) := (blk_cell BK687.out 1).trans rfl; have hcz75_2 : w73.cell? ⟨gb687, 2, none⟩ = some (.slice A0_2 l0_2.length c0_2) := (blk_cell BK687.out 2).trans rfl; have hcz75_3 : w73.cell? ⟨gb687, 3, none⟩ = some (.slice A0_3 l0_3.length c0_3) := (blk_cell BK687.out 3).trans rfl; have hfz75_0 := blk_frozen BK687.out 0; have hfz75_1 := blk_frozen BK687.out 1; have hfz75_2 := blk_frozen BK687.out 2; have hfz75_3 := blk_frozen BK687.out 3) | ((with_reducible refine gate_callee (f := 29) rfl ?_); refine goesL_ (some 73) rfl rfl Try.func29 z25_33 rfl #[.agg #[.slice A0_0 l0_0.length c0_0, .slice A0_1 l0_1.length c0_1, .slice A0_2 l0_2.length c0_2, .slice A0_3 l0_3.length c0_3]] rfl z25_5 ?_; (with_reducible refine (laws_toState.calls kj23 _ _ l0_0 _ _ l0_1 _ _ l0_2 _ _ l0_3 t743 t746 t749 t752 _ ?side1 ?side2 ?side3 ?side4 ?side5 ?side6 ?side7 ?side8 A65.out).mono ?_); (case side1 => repeat (first | exact (Kd.C_below HR0_0.out HB.out) | (with_reducible refine Kd.C_alloc ?_ _) | (with_reducible refine Kd.C_drewN ?_ _) | (with_reducible refine Kd.C_drew ?_))); (case side2 => exact HC0_0.out); (case side3 => repeat (first | exact (Kd.C_below HR0_1.out HB.out) | (with_reducible refine Kd.C_alloc ?_ _) | (with_reducible refine Kd.C_drewN ?_ _) | (with_reducible refine Kd.C_drew ?_))); (case side4 => exact HC0_1.out); (case side5 => repeat (first | exact (Kd.C_below HR0_2.out HB.out) | (with_reducible refine Kd.C_alloc ?_ _) | (with_reducible refine Kd.C_drewN ?_ _) | (with_reducible refine Kd.C_drew ?_))); (case side6 => exact HC0_2.out); (case side7 => repeat (first | exact (Kd.C_below HR0_3.out HB.out) | (with_reducible refine Kd.C_alloc ?_ _) | (with_reducible refine Kd.C_drewN ?_ _) | (with_reducible refine Kd.C_drew ?_))); (case side8 => exact HC0_3.out); rintro e w76 ⟨v744, v747, v750, v753, rfl, ho0, ho1, ho2, ho3, hb⟩; refine ⟨_, rfl, ?_⟩; have n0_ := Aside0.mk (Kd.R_elder' z25_16 (Kd.R_base ho2) hb); have n1_ := Aside0.mk (Kd.R_elder' z25_15 (Kd.R_base ho2) hb); have n2_ := Aside0.mk (Kd.R_elder' z25_19 (Kd.R_base ho0) hb); have n3_ := Aside0.mk (Kd.R_elder' z25_18 (Kd.R_base ho1) hb); have n4_ := Aside0.mk (Kd.R_elder' z25_14 (Kd.R_base ho2) hb); have n5_ := Aside0.mk (Kd.R_elder' z25_17 (Kd.R_base ho3) hb); have n6_ := Aside0.mk (Kd.R_lower (Kd.R_new' ho0 (Kd.R_lt z25_19)) (below_size z25_0)); have n7_ := Aside0.mk (Kd.R_lower (Kd.R_new' ho1 (Kd.R_lt z25_18)) (below_size z25_0)); have n8_ := Aside0.mk (Kd.R_lower (Kd.R_new' (Kd.R_new' (Kd.R_new' ho2 (Kd.R_lt z25_16)) (Kd.R_lt z25_15)) (Kd.R_lt z25_14)) (below_size z25_0)); have n9_ := Aside0.mk (Kd.R_lower (Kd.R_new' ho3 (Kd.R_lt z25_17)) (below_size z25_0)); have n10_ := Aside0.mk (blk_below (g := gb687) (o := .cells #[.slice A0_0 l0_0.length c0_0, .slice A0_1 l0_1.length c0_1, .slice A0_2 l0_2.length c0_2, .slice A0_3 l0_3.length c0_3] 46 (0, 0)) z25_3 hb); have n11_ := Aside0.mk (blk_below (g := gb716) (o := .cells #[.slice Ao38 t735.length co38, .slice Ao41 t736.length co41, .slice Ao42 t737.length co42, .slice Ao43 t738.length co43] 53 (0, 0)) z25_4 hb); have n12_ := Aside0.mk (below_step z25_0 hb); clear HO_10; clear HO_12; clear HO_717000; clear HO_717001; clear HO_717002; clear HO_717003; clear BK687; clear BK716; clear HB; have HO_10 := n0_; have HO_12 := n1_; have HO_717000 := n2_; have HO_717001 := n3_; have HO_717002 := n4_; have HO_717003 := n5_; have HO745 := n6_; have HO748 := n7_; have HO751 := n8_; have HO754 := n9_; have BK687 := n10_; have BK716 := n11_; have HB := n12_; clear n0_ n1_ n2_ n3_ n4_ n5_ n6_ n7_ n8_ n9_ n10_ n11_ n12_; (try clear ho0); (try clear ho1); (try clear ho2); (try clear ho3); obtain ⟨Ao77, co77, eo77⟩ := Kd.R_slice HO745.out; subst eo77; obtain ⟨Ao78, co78, eo78⟩ := Kd.R_slice HO748.out; subst eo78; obtain ⟨Ao79, co79, eo79⟩ := Kd.R_slice HO751.out; subst eo79; obtain ⟨Ao80, co80, eo80⟩ := Kd.R_slice HO754.out; subst eo80) | ((with_reducible refine gate_callee (f := 35) rfl ?_); refine goesL_ (some 77) rfl rfl Try.func35 z25_33 rfl #[.agg #[.slice Ao77 t743.length co77, .slice Ao78 t746.length co78, .slice Ao79 t749.length co79, .slice Ao80 t752.length co80], .bool a1, .string a2, .string a3] rfl z25_5 ?_; (with_reducible refine (impl_LivesOf.calls kj23 _ _ t743 _ _ t746 _ _ t749 _ _ t752 a1 a2 a3 t755 _ ?side1 ?side2 ?side3 ?side4 ?side5 ?side6 ?side7 ?side8 A66.out).mono ?_); (case side1 => repeat (first | exact (Kd.R_reads' HO745.out).2.2 | (with_reducible refine Kd.C_alloc ?_ _) | (with_reducible refine Kd.C_drewN ?_ _) | (with_reducible refine Kd.C_drew ?_))); (case side2 => exact (Kd.R_reads' HO745.out).2.1); (case side3 => repeat (first | exact (Kd.R_reads' HO748.out).2.2 | (with_reducible refine Kd.C_alloc ?_ _) | (with_reducible refine Kd.C_drewN ?_ _) | (with_reducible refine Kd.C_drew ?_))); (case side4 => exact (Kd.R_reads' HO748.out).2.1); (case side5 => repeat (first | exact (Kd.R_reads' HO751.out).2.2 | (with_reducible refine Kd.C_alloc ?_ _) | (with_reducible refine Kd.C_drewN ?_ _) | (with_reducible refine Kd.C_drew ?_))); (case side6 => exact (Kd.R_reads' HO751.out).2.1); (case side7 => repeat (first | exact (Kd.R_reads' HO754.out).2.2 | (with_reducible refine Kd.C_alloc ?_ _) | (with_reducible refine Kd.C_drewN ?_ _) | (with_reducible refine Kd.C_drew ?_))); (case side8 => exact (Kd.R_reads' HO754.out).2.1); rintro e w81 ⟨v756, rfl, ho0, hb⟩; refine ⟨_, rfl, ?_⟩; have n0_ := Aside0.mk (Kd.R_elder' z25_16 (Kd.R_base ho0) hb); have n1_ := Aside0.mk (Kd.R_elder' z25_15 (Kd.R_base ho0) hb); have n2_ := Aside0.mk (Kd.R_below z25_19 hb); have n3_ := Aside0.mk (Kd.R_below z25_18 hb); have n4_ := Aside0.mk (Kd.R_elder' z25_14 (Kd.R_base ho0) hb); have n5_ := Aside0.mk (Kd.R_below z25_17 hb); have n6_ := Aside0.mk (Kd.R_below z25_38 hb); have n7_ := Aside0.mk (Kd.R_below z25_37 hb); have n8_ := Aside0.mk (Kd.R_elder' z25_32 (Kd.R_base ho0) hb); have n9_ := Aside0.mk (Kd.R_below z25_36 hb); have n10_ := Aside0.mk (Kd.R_lower (Kd.R_new' (Kd.R_new' (Kd.R_new' (Kd.R_new' ho0 (Kd.R_lt z25_16)) (Kd.R_lt z25_15)) (Kd.R_lt z25_14)) (Kd.R_lt z25_32)) (below_size z25_0)); have n11_ := Aside0.mk (blk_below (g := gb687) (o := .cells #[.slice A0_0 l0_0.length c0_0, .slice A0_1 l0_1.length c0_1, .slice A0_2 l0_2.length c0_2, .slice A0_3 l0_3.length c0_3] 46 (0, 0)) z25_3 hb); have n12_ := Aside0.mk (blk_below (g := gb716) (o := .cells #[.slice Ao38 t735.length co38, .slice Ao41 t736.length co41, .slice Ao42 t737.length co42, .slice Ao43 t738.length co43] 53 (0, 0)) z25_4 hb); have n13_ := Aside0.mk (below_step z25_0 hb); clear HO_10; clear HO_12; clear HO_717000; clear HO_717001; clear HO_717002; clear HO_717003; clear HO745; clear HO748; clear HO751; clear HO754; clear BK687; clear BK716; clear HB; have HO_10 := n0_; have HO_12 := n1_; have HO_717000 := n2_; have HO_717001 := n3_; have HO_717002 := n4_; have HO_717003 := n5_; have HO745 := n6_; have HO748 := n7_; have HO751 := n8_; have HO754 := n9_; have HO757 := n10_; have BK687 := n11_; have BK716 := n12_; have HB := n13_; clear n0_ n1_ n2_ n3_ n4_ n5_ n6_ n7_ n8_ n9_ n10_ n11_ n12_ n13_; (try clear ho0); obtain ⟨Ao82, co82, eo82⟩ := Kd.R_slice HO757.out; subst eo82) | ((with_reducible refine gate_callee (f := 36) rfl ?_); refine goesL_ (some 80) rfl rfl Try.func36 z25_33 rfl #[.slice Ao82 t755.length co82, .slice Ao46 t701.length co46] rfl z25_5 ?_; (with_reducible refine (laws_eqLiveS.calls kj23 _ _ t755 _ _ t701 true _ ?side1 ?side2 ?side3 ?side4 A67.out).mono ?_); (case side1 => repeat (first | exact (Kd.R_reads' HO757.out).2.2 | (with_reducible refine Kd.C_alloc ?_ _) | (with_reducible refine Kd.C_drewN ?_ _) | (with_reducible refine Kd.C_drew ?_))); (case side2 => exact (Kd.R_reads' HO757.out).2.1); (case side3 => repeat (first | exact (Kd.R_reads' HO_10.out).2.2 | (with_reducible refine Kd.C_alloc ?_ _) | (with_reducible refine Kd.C_drewN ?_ _) | (with_reducible refine Kd.C_drew ?_))); (case side4 => exact (Kd.R_reads' HO_10.out).2.1); rintro e w83 ⟨rfl, hb⟩; refine ⟨_, rfl, ?_⟩; have n0_ := Aside0.mk (Kd.R_below z25_16 hb); have n1_ := Aside0.mk (Kd.R_below z25_15 hb); have n2_ := Aside0.mk (Kd.R_below z25_19 hb); have n3_ := Aside0.mk (Kd.R_below z25_18 hb); have n4_ := Aside0.mk (Kd.R_below z25_14 hb); have n5_ := Aside0.mk (Kd.R_below z25_17 hb); have n6_ := Aside0.mk (Kd.R_below z25_38 hb); have n7_ := Aside0.mk (Kd.R_below z25_37 hb); have n8_ := Aside0.mk (Kd.R_below z25_32 hb); have n9_ := Aside0.mk (Kd.R_below z25_36 hb); have n10_ := Aside0.mk (Kd.R_below (by (with_reducible repeat (first | apply Kd.R_alloc | apply Kd.R_drewN | apply Kd.R_drew)); exact HO757.out) hb); have n11_ := Aside0.mk (blk_below (g := gb687) (o := .cells #[.slice A0_0 l0_0.length c0_0, .slice A0_1 l0_1.length c0_1, .slice A0_2 l0_2.length c0_2, .slice A0_3 l0_3.length c0_3] 46 (0, 0)) z25_3 hb); have n12_ := Aside0.mk (blk_below (g := gb716) (o := .cells #[.slice Ao38 t735.length co38, .slice Ao41 t736.length co41, .slice Ao42 t737.length co42, .slice Ao43 t738.length co43] 53 (0, 0)) z25_4 hb); have n13_ := Aside0.mk (below_step z25_0 hb); clear HO_10; clear HO_12; clear HO_717000; clear HO_717001; clear HO_717002; clear HO_717003; clear HO745; clear HO748; clear HO751; clear HO754; clear HO757; clear BK687; clear BK716; clear HB; have HO_10 := n0_; have HO_12 := n1_; have HO_717000 := n2_; have HO_717001 := n3_; have HO_717002 := n4_; have HO_717003 := n5_; have HO745 := n6_; have HO748 := n7_; have HO751 := n8_; have HO754 := n9_; have HO757 := n10_; have BK687 := n11_; have BK716 := n12_; have HB := n13_; clear n0_ n1_ n2_ n3_ n4_ n5_ n6_ n7_ n8_ n9_ n10_ n11_ n12_ n13_) | ((with_reducible refine gate_callee (f := 39) rfl ?_); refine goesL_ (some 84) rfl rfl Try.func39 z25_33 rfl #[.slice Ao45 t741.length co45, .int .i64 1] rfl z25_34 ?_; (with_reducible refine (laws_heldLiveS.calls kj23 _ _ t741 1 t759 _ ?side1 ?side2 A69.out).mono ?_); (case side1 => repeat (first | exact (Kd.R_reads' HO_12.out).2.2 | (with_reducible refine Kd.C_alloc ?_ _) | (with_reducible refine Kd.C_drewN ?_ _) | (with_reducible refine Kd.C_drew ?_))); (case side2 => rw [show t741.length = t717.length from (Kd.R_reads' HO_12.out).1.symm]; exact (Kd.R_reads' HO_12.out).2.1); rintro e w84 ⟨rfl, hb⟩; refine ⟨_, rfl, ?_⟩; have n0_ := Aside0.mk (Kd.R_below z25_16 hb); have n1_ := Aside0.mk (Kd.R_below z25_15 hb); have n2_ := Aside0.mk (Kd.R_below z25_19 hb); have n3_ := Aside0.mk (Kd.R_below z25_18 hb); have n4_ := Aside0.mk (Kd.R_below z25_14 hb); have n5_ := Aside0.mk (Kd.R_below z25_17 hb); have n6_ := Aside0.mk (Kd.R_below z25_38 hb); have n7_ := Aside0.mk (Kd.R_below z25_37 hb); have n8_ := Aside0.mk (Kd.R_below z25_32 hb); have n9_ := Aside0.mk (Kd.R_below z25_36 hb); have n10_ := Aside0.mk (Kd.R_below (by (with_reducible repeat (first | apply Kd.R_alloc | apply Kd.R_drewN | apply Kd.R_drew)); exact HO757.out) hb); have n11_ := Aside0.mk (blk_below (g := gb687) (o := .cells #[.slice A0_0 l0_0.length c0_0, .slice A0_1 l0_1.length c0_1, .slice A0_2 l0_2.length c0_2, .slice A0_3 l0_3.length c0_3] 46 (0, 0)) z25_3 hb); have n12_ := Aside0.mk (blk_below (g := gb716) (o := .cells #[.slice Ao38 t735.length co38, .slice Ao41 t736.length co41, .slice Ao42 t737.length co42, .slice Ao43 t738.length co43] 53 (0, 0)) z25_4 hb); have n13_ := Aside0.mk (below_step z25_0 hb); clear HO_10; clear HO_12; clear HO_717000; clear HO_717001; clear HO_717002; clear HO_717003; clear HO745; clear HO748; clear HO751; clear HO754; clear HO757; clear BK687; clear BK716; clear HB; have HO_10 := n0_; have HO_12 := n1_; have HO_717000 := n2_; have HO_717001 := n3_; have HO_717002 := n4_; have HO_717003 := n5_; have HO745 := n6_; have HO748 := n7_; have HO751 := n8_; have HO754 := n9_; have HO757 := n10_; have BK687 := n11_; have BK716 := n12_; have HB := n13_; clear n0_ n1_ n2_ n3_ n4_ n5_ n6_ n7_ n8_ n9_ n10_ n11_ n12_ n13_))
              go_ret
              exact ⟨z25_13, z25_0⟩
             ·
              rw [if_neg c71] at H
              have c71b0 : (t759 == t740) = false := beq_eq_false_iff_ne.mpr c71
              have c71b1 : (t759 != t740) = true := bne_iff_ne.mpr c71
              exact absurd H (by simp)
           ·
            replace c68 := Bool.eq_false_iff.mpr c68
            subst c68
            rw [if_neg (show ¬ (false = true) by decide)] at H
            exact absurd H (by simp)
          ·
           rw [if_neg c64] at H
           have c64b0 : (t742 == t740) = false := beq_eq_false_iff_ne.mpr c64
           have c64b1 : (t742 != t740) = true := bne_iff_ne.mpr c64
           exact absurd H (by simp)
     ·
      replace c22 := Bool.eq_false_iff.mpr c22
      subst c22
      rw [if_neg (show ¬ (false = true) by decide)] at H
      exact absurd H (by simp)
    ·
     replace c19 := Bool.eq_false_iff.mpr c19
     subst c19
     rw [if_neg (show ¬ (false = true) by decide)] at H
     exact absurd H (by simp)
end Go.Proofs.Ytmohbiagcbfkpaa.QAct
