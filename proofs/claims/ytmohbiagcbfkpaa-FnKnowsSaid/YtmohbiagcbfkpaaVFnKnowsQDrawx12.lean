/- What the functions behind Draw compute, and that the program's calls come to just that. Written by a program of this session on the base of the kit's print. No condition. -/
import Derived.Test.YtmohbiagcbfkpaaVFnKnowsQDrawx0
import Derived.Test.YtmohbiagcbfkpaaVFnKnowsQDrawx3
import Derived.Test.YtmohbiagcbfkpaaVFnKnowsQDrawx6
import Derived.Test.YtmohbiagcbfkpaaVFnKnowsQDrawx7
import Derived.Test.YtmohbiagcbfkpaaVFnKnowsQDrawx8
import Derived.Test.YtmohbiagcbfkpaaVFnKnowsQDrawx9
import Derived.Test.YtmohbiagcbfkpaaVFnKnowsQDrawx10
import Derived.Test.YtmohbiagcbfkpaaVFnKnowsQDrawx11
namespace Go.Proofs.Ytmohbiagcbfkpaa.QDraw
open Go.RowKit Go.Proofs.YtmohbiagcbfkpaaW.PrintWords Go.Proofs.YtmohbiagcbfkpaaW.PrintLast Go.Proofs.YtmohbiagcbfkpaaW.PrintMore
attribute [local go_sem] max2_int min2_int max_two min_two max_three min_three max_four min_four   -- for this text's walks alone
set_option linter.unusedVariables false
set_option linter.unusedSimpArgs false
theorem z12_25 {P : Prop} (h : P := by (with_reducible repeat (first | apply Kd.R_alloc | apply Kd.R_drewN | apply Kd.R_drew)); exact HO527.out) : P := h
theorem z12_24 {P : Prop} (h : P := by first | rfl | (simp; done) | (simp [*]; done)) : P := h
theorem z12_23 {P : Prop} (h : P := by (with_reducible repeat (first | apply Kd.R_alloc | apply Kd.R_drewN | apply Kd.R_drew)); exact HO587.out) : P := h
theorem z12_22 {P : Prop} (h : P := by (with_reducible repeat (first | apply Kd.R_alloc | apply Kd.R_drewN | apply Kd.R_drew)); exact HO522.out) : P := h
theorem z12_21 {P : Prop} (h : P := by (with_reducible repeat (first | apply Kd.R_alloc | apply Kd.R_drewN | apply Kd.R_drew)); exact HO524.out) : P := h
theorem z12_20 {P : Prop} (h : P := by first | (with_reducible assumption) | assumption) : P := h
theorem z12_19 {P : Prop} (h : P := by (with_reducible repeat (first | apply Kd.R_alloc | apply Kd.R_drewN | apply Kd.R_drew)); exact HO584.out) : P := h
theorem z12_18 {P : Prop} (h : P := by repeat (first | (with_reducible first | exact HB.out | apply below_alloc | apply pw_below_drewN | apply below_drew1 | refine below_set ?_ GE553.out) | exact HB.out)) : P := h
theorem z12_17 {P : Prop} (h : P := by (with_reducible repeat (first | apply Kd.R_alloc | apply Kd.R_drewN | apply Kd.R_drew)); exact HO580.out) : P := h
theorem z12_16 {P : Prop} (h : P := by (with_reducible repeat (first | apply Kd.R_alloc | apply Kd.R_drewN | apply Kd.R_drew)); exact HO577.out) : P := h
theorem z12_15 {P : Prop} (h : P := by (with_reducible repeat (first | apply Kd.R_alloc | apply Kd.R_drewN | apply Kd.R_drew)); exact HO568.out) : P := h
theorem z12_14 {P : Prop} (h : P := by kernel_rfl) : P := h
theorem z12_13 {P : Prop} (h : P := by (with_reducible repeat (first | apply Kd.R_alloc | apply Kd.R_drewN | apply Kd.R_drew)); exact HO563.out) : P := h
theorem z12_12 {P : Prop} (h : P := by (with_reducible repeat (first | refine blk_drewN ?_ _ | refine blk_drew ?_ | refine blk_alloc ?_ _)); exact BK556.out) : P := h
theorem z12_11 {P : Prop} (h : P := by (with_reducible repeat (first | apply Kd.R_alloc | apply Kd.R_drewN | apply Kd.R_drew)); exact HO550.out) : P := h
theorem z12_10 {P : Prop} (h : P := by (with_reducible repeat (first | refine blk_drewN ?_ _ | refine blk_drew ?_ | refine blk_alloc ?_ _)); exact BK553.out) : P := h
theorem z12_9 {P : Prop} (h : P := by (with_reducible repeat (first | apply Kd.R_alloc | apply Kd.R_drewN | apply Kd.R_drew)); exact HO545.out) : P := h
theorem z12_8 {P : Prop} (h : P := by (with_reducible repeat (first | apply Kd.R_alloc | apply Kd.R_drewN | apply Kd.R_drew)); exact HO547.out) : P := h
theorem z12_7 {P : Prop} (h : P := by (with_reducible repeat (first | apply Kd.R_alloc | apply Kd.R_drewN | apply Kd.R_drew)); exact HO_7.out) : P := h
theorem z12_6 {P : Prop} (h : P := by repeat (first | (with_reducible first | exact HB.out | apply below_alloc | apply pw_below_drewN | apply below_drew1) | exact HB.out)) : P := h
theorem z12_5 {P : Prop} (h : P := by (with_reducible repeat (first | apply Kd.R_alloc | apply Kd.R_drewN | apply Kd.R_drew)); exact HO_3.out) : P := h
theorem z12_4 {P : Prop} (h : P := by (with_reducible repeat (first | apply Kd.R_alloc | apply Kd.R_drewN | apply Kd.R_drew)); exact HO_4.out) : P := h
theorem z12_3 {P : Prop} (h : P := by (with_reducible repeat (first | apply Kd.R_alloc | apply Kd.R_drewN | apply Kd.R_drew)); exact HO_5.out) : P := h
theorem z12_2 {P : Prop} (h : P := by (with_reducible repeat (first | apply Kd.R_alloc | apply Kd.R_drewN | apply Kd.R_drew)); exact HO_6.out) : P := h
theorem z12_1 {P : Prop} (h : P := by first | rfl | (simp only [List.map_toArray, List.map_cons, List.map_nil]; first | done | rfl)) : P := h
theorem z12_0 {P : Prop} (h : P := by repeat (first | (with_reducible first | exact HB.out | apply below_alloc | apply pw_below_drewN | apply below_drew1 | refine below_set ?_ GE553.out | refine below_set ?_ GE556.out) | exact HB.out)) : P := h
mutual
def laws_FnKnows.l0 : Nat → List Int → List Int → List Int → List Int → List Int → List (S29) → Int → Int → Option (Bool)
  | 0, _, _, _, _, _, _, _, _ => none
  | k + 1, x0, x3, x4, x5, x6, x7, x8, x9 => if x9 < (x5.length : Int) then (if 0 ≤ x9 then (if x9 < (x3.length : Int) then (laws_FnKnows.l0 k x0 x3 x4 x5 x6 x7 (wrap64 ((wrap64 (x8 + (rd x5 x9))) - (rd x3 x9))) (wrap64 (x9 + 1))) else (none)) else (none)) else (laws_FnKnows.l1 k x0 x3 x4 x5 x6 x7 x8 0)
def laws_FnKnows.l1 : Nat → List Int → List Int → List Int → List Int → List Int → List (S29) → Int → Int → Option (Bool)
  | 0, _, _, _, _, _, _, _, _ => none
  | k + 1, x0, x3, x4, x5, x6, x7, x8, x10 => if x10 < (x7.length : Int) then (if 0 ≤ x10 then ((impl_Knows.f k x3 ((rd_T29 x7 x10).f0) ((rd_T29 x7 x10).f1)).bind fun t537 => (if t537 = true then (some false) else ((impl_Knows.f k x4 ((rd_T29 x7 x10).f0) ((rd_T29 x7 x10).f1)).bind fun t539 => (if t539 = true then ((impl_DotOk.f ((rd_T29 x7 x10).f0) ((rd_T29 x7 x10).f1)).bind fun t541 => (if t541 = true then (laws_FnKnows.l1 k x0 x3 x4 x5 x6 x7 x8 (wrap64 (x10 + 1))) else (some false))) else (some false))))) else (none)) else ((spec_DrawKnowIn.f k x0).bind fun bt542 => ((spec_DrawKnows.f k x0).bind fun bt548 => ((spec_DrawDotOk.f k x0).bind fun bt554 => ((impl_KnowIn.f k x3 x5).bind fun t557 => (if t557 = true then ((impl_KnowIn.f k x4 x5).bind fun t558 => (if t558 = true then ((impl_KnowIn.f k x6 x3).bind fun t559 => (if t559 = true then ((impl_KnowIn.f k x6 x4).bind fun t560 => (if t560 = true then ((impl_KnowMax.f k x4 x3).bind fun t561 => ((laws_sameInts.f k t561 x5).bind fun t564 => (if t564 = true then (if (x7.length : Int) = x8 then ((impl_KnowIn.f k x3 x4).bind fun t565 => ((impl_DotsIn.f k x4 x3).bind fun t566 => (if (t565 == ((t566.length : Int) == 0)) = true then ((impl_KnowIn.f k bt542.1 bt542.2).bind fun t569 => ((spec_KnowIn.f k bt542.1 bt542.2).bind fun t570 => (if (t569 == t570) = true then ((impl_Knows.f k bt548.1 bt548.2.1 bt548.2.2).bind fun t571 => ((spec_Knows.f k bt548.1 bt548.2.1 bt548.2.2).bind fun t572 => (if (t571 == t572) = true then ((impl_DotOk.f bt554.1 bt554.2).bind fun t573 => ((spec_DotOk.f bt554.1 bt554.2).bind fun t574 => (if (t573 == t574) = true then ((impl_KnowMax.f k bt542.1 bt542.2).bind fun t575 => ((spec_KnowMax.f k bt542.1 bt542.2).bind fun t578 => ((laws_sameInts.f k t575 t578).bind fun t581 => (if t581 = true then ((impl_KnowMin.f k bt542.1 bt542.2).bind fun t582 => ((spec_KnowMin.f k bt542.1 bt542.2).bind fun t585 => ((laws_sameInts.f k t582 t585).bind fun t588 => (if t588 = true then ((impl_KnowOk.f k bt542.1).bind fun t589 => ((spec_KnowOk.f k bt542.1).bind fun t590 => (if (t589 == t590) = true then ((impl_KnowNew.f).bind fun t591 => ((impl_KnowIn.f k t591 x3).bind fun t594 => (if t594 = true then ((impl_DotsIn.f k bt542.1 bt542.2).bind fun t595 => ((spec_DotsIn.f k bt542.1 bt542.2).bind fun t598 => ((laws_sameDots.f k t595 t598).bind fun t601 => (some t601)))) else (some false)))) else (some false)))) else (some false))))) else (some false))))) else (some false)))) else (some false)))) else (some false)))) else (some false)))) else (some false)) else (some false)))) else (some false))) else (some false))) else (some false))) else (some false))))))
end


def laws_FnKnows.f (k : Nat) (l0 : List Int) : Option (Bool) := (laws_big.f l0).bind fun t518 => (if t518 = true then (some true) else ((spec_DrawKnow.f k l0).bind fun bt519 => ((impl_KnowMax.f k bt519.1 bt519.2).bind fun t525 => ((impl_KnowMin.f k bt519.1 bt519.2).bind fun t528 => ((impl_DotsIn.f k bt519.1 t525).bind fun t531 => (laws_FnKnows.l0 k l0 bt519.1 bt519.2 t525 t528 t531 0 0))))))
def laws_FnKnows.T11 : Bool × List (List Nat × List Nat) := (true, [([], []), ([], []), ([], []), ([1, 2], [1, 2]), ([3], [3]), ([0, 4], [0, 4]), ([], []), ([], []), ([6, 7], [6, 7]), ([8], [8]), ([5, 9], [5, 9]), ([10, 0, 1, 2, 3, 4, 5, 6, 7, 8, 9, 10], [0, 10])])
def laws_FnKnows.B11 : List Nat := [0, 0, 0, 6, 14, 31, 0, 0, 192, 448, 1023, 2047]
theorem laws_FnKnows.tab11 : rtab .any (opsOf Try.f13 11) = laws_FnKnows.T11 := by kernel_rfl
theorem laws_FnKnows.bits11 : waitsOk laws_FnKnows.T11.2 laws_FnKnows.B11 = true := by kernel_rfl
def laws_FnKnows.T20 : Bool × List (List Nat × List Nat) := (true, [([], []), ([], []), ([0, 1], [0, 1]), ([2, 2], [2]), ([3], [3]), ([3], [3]), ([4, 5, 3, 3], [3, 4, 5]), ([3, 6], [3, 6]), ([7, 6], [7]), ([8], [8]), ([8], [8]), ([9, 10, 8, 8], [8, 9, 10]), ([8, 11], [8, 11]), ([12, 11], [12]), ([13], [13]), ([13], [13]), ([14, 15, 13, 13], [13, 14, 15]), ([13, 16], [13, 16]), ([17, 16], [17]), ([18], [18]), ([18], [18]), ([19, 20, 18, 18], [18, 19, 20]), ([18], [18]), ([21, 22, 21, 18], [18, 21, 22]), ([18, 23], [18, 23]), ([24, 23], [24]), ([25], [25]), ([26, 25], [25, 26]), ([25], [25]), ([27, 28, 25], [25, 27, 28]), ([25, 29], [25, 29]), ([30, 25], [30]), ([31], [31]), ([31], [31]), ([32, 33, 31, 31], [31, 32, 33]), ([31], [31]), ([31], [31]), ([35, 36, 34, 31], [31, 35, 36]), ([37, 31], [31, 37]), ([38, 31], [31, 38]), ([34, 39, 31], [31, 34, 39]), ([31, 40], [31, 40]), ([41, 37], [41]), ([42], [42]), ([42], [42]), ([43, 44, 42, 42], [42, 43, 44]), ([42], [42]), ([42], [42]), ([46, 47, 45, 42], [42, 46, 47]), ([45, 48, 42], [42, 45, 48]), ([42, 49], [42, 49]), ([50, 48], [50]), ([51], [51]), ([51], [51]), ([52, 53, 51, 51], [51, 52, 53]), ([51], [51]), ([51], [51]), ([55, 56, 54, 51], [51, 55, 56]), ([54, 57, 51], [51, 54, 57]), ([51, 58], [51, 58]), ([59, 57], [59]), ([60], [60]), ([61, 60, 60], [60, 61]), ([60], [60]), ([63, 62, 60], [60, 63]), ([62, 64, 60], [60, 62, 64]), ([60, 65], [60, 65]), ([66, 64], [66]), ([67], [67]), ([67], [67]), ([68, 69, 67, 67], [67, 68, 69]), ([67], [67]), ([67], [67]), ([71, 72, 70, 67], [67, 71, 72]), ([70, 73, 73, 67], [67, 70, 73]), ([67, 74], [67, 74]), ([75, 74], [75]), ([76], [76]), ([76], [76]), ([77, 78, 76, 76], [76, 77, 78]), ([76], [76]), ([76], [76]), ([80, 81, 79, 76], [76, 80, 81]), ([79, 82, 82, 76], [76, 79, 82]), ([76, 83], [76, 83]), ([84, 83], [84]), ([85], [85]), ([86, 85, 85], [85, 86]), ([85], [85]), ([88, 87, 85], [85, 88]), ([87, 89, 85], [85, 87, 89]), ([85, 90], [85, 90]), ([91, 89], [91]), ([92, 92], [92]), ([92], [92]), ([93, 94, 93, 92], [92, 93, 94]), ([92, 95], [92, 95]), ([96, 95], [96]), ([97], [97]), ([97], [97]), ([98, 99, 97, 97], [97, 98, 99]), ([97], [97]), ([97], [97]), ([101, 102, 100, 97], [97, 101, 102]), ([100, 103, 103, 97], [97, 100, 103]), ([97, 104], [97, 104]), ([105, 104, 0, 1, 2, 3, 4, 5, 6, 7, 8, 9, 10, 11, 12, 13, 14, 15, 16, 17, 18, 19, 20, 21, 22, 23, 24, 25, 26, 27, 28, 29, 30, 31, 32, 33, 34, 35, 36, 37, 38, 39, 40, 41, 42, 43, 44, 45, 46, 47, 48, 49, 50, 51, 52, 53, 54, 55, 56, 57, 58, 59, 60, 61, 62, 63, 64, 65, 66, 67, 68, 69, 70, 71, 72, 73, 74, 75, 76, 77, 78, 79, 80, 81, 82, 83, 84, 85, 86, 87, 88, 89, 90, 91, 92, 93, 94, 95, 96, 97, 98, 99, 100, 101, 102, 103, 104, 105], [105])])
def laws_FnKnows.B20 : List Nat := [0, 0, 3, 7, 15, 15, 63, 127, 255, 511, 511, 2047, 4095, 8191, 16383, 16383, 65535, 131071, 262143, 524287, 524287, 2097151, 524287, 8388607, 16777215, 33554431, 67108863, 134217727, 67108863, 536870911, 1073741823, 2147483647, 4294967295, 4294967295, 17179869183, 4294967295, 4294967295, 137438953471, 274877906943, 549755813887, 1099511627775, 2199023255551, 4398046511103, 8796093022207, 8796093022207, 35184372088831, 8796093022207, 8796093022207, 281474976710655, 562949953421311, 1125899906842623, 2251799813685247, 4503599627370495, 4503599627370495, 18014398509481983, 4503599627370495, 4503599627370495, 144115188075855871, 288230376151711743, 576460752303423487, 1152921504606846975, 2305843009213693951, 4611686018427387903, 2305843009213693951, 18446744073709551615, 36893488147419103231, 73786976294838206463, 147573952589676412927, 295147905179352825855, 295147905179352825855, 1180591620717411303423, 295147905179352825855, 295147905179352825855, 9444732965739290427391, 18889465931478580854783, 37778931862957161709567, 75557863725914323419135, 151115727451828646838271, 151115727451828646838271, 604462909807314587353087, 151115727451828646838271, 151115727451828646838271, 4835703278458516698824703, 9671406556917033397649407, 19342813113834066795298815, 38685626227668133590597631, 77371252455336267181195263, 154742504910672534362390527, 77371252455336267181195263, 618970019642690137449562111, 1237940039285380274899124223, 2475880078570760549798248447, 4951760157141521099596496895, 9903520314283042199192993791, 9903520314283042199192993791, 39614081257132168796771975167, 79228162514264337593543950335, 158456325028528675187087900671, 316912650057057350374175801343, 316912650057057350374175801343, 1267650600228229401496703205375, 316912650057057350374175801343, 316912650057057350374175801343, 10141204801825835211973625643007, 20282409603651670423947251286015, 40564819207303340847894502572031, 81129638414606681695789005144063]
theorem laws_FnKnows.tab20 : rtab .any (opsOf Try.f13 20) = laws_FnKnows.T20 := by kernel_rfl
theorem laws_FnKnows.bits20 : waitsOk laws_FnKnows.T20.2 laws_FnKnows.B20 = true := by kernel_rfl
set_option maxHeartbeats 8000000 in
set_option maxRecDepth 100000 in
theorem laws_FnKnows.calls_true (k : Nat) (A0 : Option Addr) (c0 : Nat) (l0 : List Int) (w : World) (hr0 : Kd.C (Kd.int .u8) w A0 l0.length l0) (hc0 : l0.length ≤ c0) (h : laws_FnKnows.f k l0 = some true) :
  Calls Try.prog 13 #[.slice A0 l0.length c0] w fun e w' => e = .returned (.bool true) ∧ Below w.heap.size w w' := by
 have hu29 := Try.underlying29
 have HR0 := Aside0.mk hr0
 have HC0 := Aside0.mk hc0
 clear hr0 hc0
 have HB := Aside0.mk (Below.refl w.heap.size w)
 have H : ((laws_big.f l0).bind fun t518 => (if t518 = true then (some true) else ((spec_DrawKnow.f k l0).bind fun bt519 => ((impl_KnowMax.f k bt519.1 bt519.2).bind fun t525 => ((impl_KnowMin.f k bt519.1 bt519.2).bind fun t528 => ((impl_DotsIn.f k bt519.1 t525).bind fun t531 => (laws_FnKnows.l0 k l0 bt519.1 bt519.2 t525 t528 t531 0 0))))))) = some true := h
 clear h
 replace H := Option.bind_eq_some_iff.mp H
 obtain ⟨t518, A20, H⟩ := H
 (try dsimp only at H)
 have A2 := Aside0.mk A20
 clear A20
 by_cases c3 : t518 = true
 ·
  subst c3
  have H1 : (some true) = some true := rfl
  clear H
  have H := H1
  clear H1
  clear H
  go_enter Try.func13, Try.ntmps13
  go_wp2_with (first | ((with_reducible refine gate_callee (f := 43) rfl ?_); refine goesL_ (some 17) rfl rfl Try.func43 z12_14 rfl #[.slice A0 l0.length c0] rfl z12_1 ?_; (with_reducible refine (laws_big.calls _ _ l0 true _ ?side1 ?side2 A2.out).mono ?_); (case side1 => repeat (first | exact HR0.out | (with_reducible refine Kd.C_alloc ?_ _) | (with_reducible refine Kd.C_drewN ?_ _) | (with_reducible refine Kd.C_drew ?_))); (case side2 => exact HC0.out); rintro e w' ⟨rfl, ⟨nd, rfl⟩⟩; refine ⟨_, rfl, ?_⟩))
  go_ret
  exact ⟨by first | rfl | (simp [errW_none, errW_some] <;> rfl) | (simp [*, errW_none, errW_some] <;> rfl), z12_6⟩
 ·
  replace c3 := Bool.eq_false_iff.mpr c3
  subst c3
  rw [if_neg (show ¬ (false = true) by decide)] at H
  replace H := Option.bind_eq_some_iff.mp H
  obtain ⟨⟨t519, t520⟩, A40, H⟩ := H
  (try dsimp only at H)
  have A4 := Aside0.mk A40
  clear A40
  replace H := Option.bind_eq_some_iff.mp H
  obtain ⟨t525, A50, H⟩ := H
  (try dsimp only at H)
  have A5 := Aside0.mk A50
  clear A50
  replace H := Option.bind_eq_some_iff.mp H
  obtain ⟨t528, A60, H⟩ := H
  (try dsimp only at H)
  have A6 := Aside0.mk A60
  clear A60
  replace H := Option.bind_eq_some_iff.mp H
  obtain ⟨t531, A70, H⟩ := H
  (try dsimp only at H)
  have A7 := Aside0.mk A70
  clear A70
  have H' := Aside0.mk H
  clear H
  go_enter Try.func13, Try.ntmps13
  go_wp2_with (first | ((with_reducible refine gate_callee (f := 43) rfl ?_); refine goesL_ (some 17) rfl rfl Try.func43 z12_14 rfl #[.slice A0 l0.length c0] rfl z12_1 ?_; (with_reducible refine (laws_big.calls _ _ l0 false _ ?side1 ?side2 A2.out).mono ?_); (case side1 => repeat (first | exact HR0.out | (with_reducible refine Kd.C_alloc ?_ _) | (with_reducible refine Kd.C_drewN ?_ _) | (with_reducible refine Kd.C_drew ?_))); (case side2 => exact HC0.out); rintro e w' ⟨rfl, ⟨nd, rfl⟩⟩; refine ⟨_, rfl, ?_⟩) | ((with_reducible refine gate_callee (f := 63) rfl ?_); refine goesL_ (some 20) rfl rfl Try.func63 z12_14 rfl #[.slice A0 l0.length c0] rfl z12_1 ?_; (with_reducible refine (spec_DrawKnow.calls k _ _ l0 t519 t520 _ ?side1 ?side2 A4.out).mono ?_); (case side1 => repeat (first | exact HR0.out | (with_reducible refine Kd.C_alloc ?_ _) | (with_reducible refine Kd.C_drewN ?_ _) | (with_reducible refine Kd.C_drew ?_))); (case side2 => exact HC0.out); rintro e w8 ⟨v521, v523, rfl, ho0, ho1, hb⟩; refine ⟨_, rfl, ?_⟩; have n0_ := Aside0.mk (Kd.R_lower ho0 (below_size z12_6)); have n1_ := Aside0.mk (Kd.R_lower ho1 (below_size z12_6)); have n2_ := Aside0.mk (below_step z12_6 hb); clear HB; have HO522 := n0_; have HO524 := n1_; have HB := n2_; clear n0_ n1_ n2_; (try clear ho0); (try clear ho1); obtain ⟨Ao9, co9, eo9⟩ := Kd.R_slice HO522.out; subst eo9; obtain ⟨Ao10, co10, eo10⟩ := Kd.R_slice HO524.out; subst eo10) | ((with_reducible refine gate_callee (f := 64) rfl ?_); refine goesL_ (some 25) rfl rfl Try.func64 z12_14 rfl #[.slice Ao9 t519.length co9, .slice Ao10 t520.length co10] rfl z12_1 ?_; (with_reducible refine (impl_KnowMax.calls k _ _ t519 _ _ t520 t525 _ ?side1 ?side2 ?side3 ?side4 A5.out).mono ?_); (case side1 => repeat (first | exact (Kd.R_reads' HO522.out).2.2 | (with_reducible refine Kd.C_alloc ?_ _) | (with_reducible refine Kd.C_drewN ?_ _) | (with_reducible refine Kd.C_drew ?_))); (case side2 => exact (Kd.R_reads' HO522.out).2.1); (case side3 => repeat (first | exact (Kd.R_reads' HO524.out).2.2 | (with_reducible refine Kd.C_alloc ?_ _) | (with_reducible refine Kd.C_drewN ?_ _) | (with_reducible refine Kd.C_drew ?_))); (case side4 => exact (Kd.R_reads' HO524.out).2.1); rintro e w11 ⟨v526, rfl, ho0, hb⟩; refine ⟨_, rfl, ?_⟩; have n0_ := Aside0.mk (Kd.R_elder' z12_22 (Kd.R_base ho0) hb); have n1_ := Aside0.mk (Kd.R_elder' z12_21 (Kd.R_base ho0) hb); have n2_ := Aside0.mk (Kd.R_lower (Kd.R_new' (Kd.R_new' ho0 (Kd.R_lt z12_22)) (Kd.R_lt z12_21)) (below_size z12_6)); have n3_ := Aside0.mk (below_step z12_6 hb); clear HO522; clear HO524; clear HB; have HO522 := n0_; have HO524 := n1_; have HO527 := n2_; have HB := n3_; clear n0_ n1_ n2_ n3_; (try clear ho0)) | ((with_reducible refine gate_callee (f := 65) rfl ?_); refine goesL_ (some 28) rfl rfl Try.func65 z12_14 rfl #[.slice Ao9 t519.length co9, .slice Ao10 t520.length co10] rfl z12_1 ?_; (with_reducible refine (impl_KnowMin.calls k _ _ t519 _ _ t520 t528 _ ?side1 ?side2 ?side3 ?side4 A6.out).mono ?_); (case side1 => repeat (first | exact (Kd.R_reads' HO522.out).2.2 | (with_reducible refine Kd.C_alloc ?_ _) | (with_reducible refine Kd.C_drewN ?_ _) | (with_reducible refine Kd.C_drew ?_))); (case side2 => exact (Kd.R_reads' HO522.out).2.1); (case side3 => repeat (first | exact (Kd.R_reads' HO524.out).2.2 | (with_reducible refine Kd.C_alloc ?_ _) | (with_reducible refine Kd.C_drewN ?_ _) | (with_reducible refine Kd.C_drew ?_))); (case side4 => exact (Kd.R_reads' HO524.out).2.1); rintro e w12 ⟨v529, rfl, ho0, hb⟩; refine ⟨_, rfl, ?_⟩; have n0_ := Aside0.mk (Kd.R_elder' z12_22 (Kd.R_base ho0) hb); have n1_ := Aside0.mk (Kd.R_elder' z12_21 (Kd.R_base ho0) hb); have n2_ := Aside0.mk (Kd.R_elder' z12_25 (Kd.R_base ho0) hb); have n3_ := Aside0.mk (Kd.R_lower (Kd.R_new' (Kd.R_new' (Kd.R_new' ho0 (Kd.R_lt z12_22)) (Kd.R_lt z12_21)) (Kd.R_lt z12_25)) (below_size z12_6)); have n4_ := Aside0.mk (below_step z12_6 hb); clear HO522; clear HO524; clear HO527; clear HB; have HO522 := n0_; have HO524 := n1_; have HO527 := n2_; have HO530 := n3_; have HB := n4_; clear n0_ n1_ n2_ n3_ n4_; (try clear ho0); obtain ⟨Ao13, co13, eo13⟩ := Kd.R_slice HO527.out; subst eo13) | ((with_reducible refine gate_callee (f := 66) rfl ?_); refine goesL_ (some 31) rfl rfl Try.func66 z12_14 rfl #[.slice Ao9 t519.length co9, .slice Ao13 t525.length co13] rfl z12_1 ?_; (with_reducible refine (impl_DotsIn.calls k _ _ t519 _ _ t525 t531 _ ?side1 ?side2 ?side3 ?side4 A7.out).mono ?_); (case side1 => repeat (first | exact (Kd.R_reads' HO522.out).2.2 | (with_reducible refine Kd.C_alloc ?_ _) | (with_reducible refine Kd.C_drewN ?_ _) | (with_reducible refine Kd.C_drew ?_))); (case side2 => exact (Kd.R_reads' HO522.out).2.1); (case side3 => repeat (first | exact (Kd.R_reads' HO527.out).2.2 | (with_reducible refine Kd.C_alloc ?_ _) | (with_reducible refine Kd.C_drewN ?_ _) | (with_reducible refine Kd.C_drew ?_))); (case side4 => exact (Kd.R_reads' HO527.out).2.1); rintro e w14 ⟨v532, rfl, ho0, hb⟩; refine ⟨_, rfl, ?_⟩; have n0_ := Aside0.mk (Kd.R_below z12_22 hb); have n1_ := Aside0.mk (Kd.R_below z12_21 hb); have n2_ := Aside0.mk (Kd.R_below z12_25 hb); have n3_ := Aside0.mk (Kd.R_below (by (with_reducible repeat (first | apply Kd.R_alloc | apply Kd.R_drewN | apply Kd.R_drew)); exact HO530.out) hb); have n4_ := Aside0.mk (Kd.R_lower ho0 (below_size z12_6)); have n5_ := Aside0.mk (below_step z12_6 hb); clear HO522; clear HO524; clear HO527; clear HO530; clear HB; have HO522 := n0_; have HO524 := n1_; have HO527 := n2_; have HO530 := n3_; have HO533 := n4_; have HB := n5_; clear n0_ n1_ n2_ n3_ n4_ n5_; (try clear ho0)))
  go_loopg [8, 9] k (fun kq v8 v9 w' => ∃ (x8_1 : Int) (x9_1 : Int), v8 = .int .i64 x8_1 ∧ v9 = .int .i64 x9_1 ∧ Aside0 (laws_FnKnows.l0 kq l0 t519 t520 t525 t528 t531 x8_1 x9_1 = some true) ∧ Aside0 (kq ≤ k) ∧ Aside0 (Kd.R (Kd.int .i64) 3 w' w.heap.size (fun k_ => some k_ ≠ ((.slice Ao10 t520.length co10) : Value).ownBlock ∧ some k_ ≠ ((.slice Ao13 t525.length co13) : Value).ownBlock ∧ some k_ ≠ (v529 : Value).ownBlock) (.slice Ao9 t519.length co9) t519) ∧ Aside0 (Kd.R (Kd.int .i64) 3 w' w.heap.size (fun k_ => some k_ ≠ ((.slice Ao9 t519.length co9) : Value).ownBlock ∧ some k_ ≠ ((.slice Ao13 t525.length co13) : Value).ownBlock ∧ some k_ ≠ (v529 : Value).ownBlock) (.slice Ao10 t520.length co10) t520) ∧ Aside0 (Kd.R (Kd.int .i64) 3 w' w.heap.size (fun k_ => some k_ ≠ ((.slice Ao9 t519.length co9) : Value).ownBlock ∧ some k_ ≠ ((.slice Ao10 t520.length co10) : Value).ownBlock ∧ some k_ ≠ (v529 : Value).ownBlock) (.slice Ao13 t525.length co13) t525) ∧ Aside0 (Kd.R (Kd.int .i64) 3 w' w.heap.size (fun k_ => some k_ ≠ ((.slice Ao9 t519.length co9) : Value).ownBlock ∧ some k_ ≠ ((.slice Ao10 t520.length co10) : Value).ownBlock ∧ some k_ ≠ ((.slice Ao13 t525.length co13) : Value).ownBlock) v529 t528) ∧ Aside0 (Kd.R k29 29 w' w.heap.size (fun _ => True) v532 t531) ∧ Aside0 (Below w.heap.size w w'))
  case atStart => exact ⟨(0), (0), z12_24, z12_24, H', ⟨Nat.le_refl _⟩, ⟨by (with_reducible repeat (first | apply Kd.R_alloc | apply Kd.R_drewN | apply Kd.R_drew)); exact Kd.R_mono HO522.out (fun _ hk => ⟨hk.1.1, ⟨hk.1.2, hk.2⟩⟩)⟩, ⟨by (with_reducible repeat (first | apply Kd.R_alloc | apply Kd.R_drewN | apply Kd.R_drew)); exact Kd.R_mono HO524.out (fun _ hk => ⟨hk.1.1, ⟨hk.1.2, hk.2⟩⟩)⟩, ⟨by (with_reducible repeat (first | apply Kd.R_alloc | apply Kd.R_drewN | apply Kd.R_drew)); exact Kd.R_mono HO527.out (fun _ hk => ⟨hk.1.1.2, ⟨hk.1.2, hk.2⟩⟩)⟩, ⟨by (with_reducible repeat (first | apply Kd.R_alloc | apply Kd.R_drewN | apply Kd.R_drew)); exact Kd.R_mono HO530.out (fun _ hk => ⟨hk.1.1.2, ⟨hk.1.2, hk.2⟩⟩)⟩, ⟨by (with_reducible repeat (first | apply Kd.R_alloc | apply Kd.R_drewN | apply Kd.R_drew)); exact HO533.out⟩, ⟨z12_6⟩⟩
  case round =>
   clear H'
   try clear c1
   try clear p2
   try clear c3
   try clear c4
   try clear c6
   try clear c13
   obtain ⟨x8_1, x9_1, rfl, rfl, HA, HK1, HO_3, HO_4, HO_5, HO_6, HO_7, HB⟩ := hrel
   cases gk with
   | zero => exact absurd HA.out (by simp [laws_FnKnows.l0])
   | succ k1 =>
    have H := HA.out
    clear HA
    simp only [laws_FnKnows.l0] at H
    by_cases c15 : x9_1 < (t525.length : Int)
    ·
     rw [if_pos c15] at H
     have c15b0 : decide (x9_1 < (t525.length : Int)) = true := decide_eq_true c15
     clear c15
     by_cases c16 : 0 ≤ x9_1
     ·
      rw [if_pos c16] at H
      have c16b0 : decide (0 ≤ x9_1) = true := decide_eq_true c16
      clear c16
      by_cases c17 : x9_1 < (t519.length : Int)
      ·
       rw [if_pos c17] at H
       have c17b0 : decide (x9_1 < (t519.length : Int)) = true := decide_eq_true c17
       clear c17
       have H' := Aside0.mk H
       clear H
       try go_wp2
       have n0_ := Aside0.mk (Kd.R_drew HO_3.out)
       have n1_ := Aside0.mk (Kd.R_drew HO_4.out)
       have n2_ := Aside0.mk (Kd.R_drew HO_5.out)
       have n3_ := Aside0.mk (Kd.R_drew HO_6.out)
       have n4_ := Aside0.mk (Kd.R_drew HO_7.out)
       have n5_ := Aside0.mk (below_drew1 HB.out)
       clear HO_3
       clear HO_4
       clear HO_5
       clear HO_6
       clear HO_7
       clear HB
       have HO_3 := n0_
       have HO_4 := n1_
       have HO_5 := n2_
       have HO_6 := n3_
       have HO_7 := n4_
       have HB := n5_
       clear n0_ n1_ n2_ n3_ n4_ n5_
       have p534 : 0 ≤ (x9_1 : Int) := of_decide_eq_true z12_20
       have q534 : x9_1 < (t525.length : Int) := of_decide_eq_true z12_20
       obtain ⟨ad534, e534, hx534_0⟩ := Kd.at_int (Kd.R_reads' HO_5.out).2.2 x9_1 p534 q534
       cases e534
       replace p534 := eq_true p534
       replace q534 := eq_true q534
       have p535 : 0 ≤ (x9_1 : Int) := of_decide_eq_true z12_20
       have q535 : x9_1 < (t519.length : Int) := of_decide_eq_true z12_20
       obtain ⟨ad535, e535, hx535_0⟩ := Kd.at_int (Kd.R_reads' HO_3.out).2.2 x9_1 p535 q535
       cases e535
       replace p535 := eq_true p535
       replace q535 := eq_true q535
       refine start_ (n := 12) (S := fun w' => w'.cell? (ad534.add (x9_1).toNat) = some (.int .i64 (rd t525 x9_1)) ∧ w'.cell? (ad535.add (x9_1).toNat) = some (.int .i64 (rd t519 x9_1))) (ds := []) #[false, false, false, false, false, false, false, false, false, false, false, false] z12_14 rfl rfl ⟨hx534_0, hx535_0⟩ (fun hHeld => ?_); refine with_tabW laws_FnKnows.tab11 laws_FnKnows.bits11 (fun HT_ HW_ => ?_)
       generalize wr.drew = w18 at HO_3 HO_4 HO_5 HO_6 HO_7 HB hx534_0 hx535_0 hHeld ⊢
       refine pure_ (i := 0) (N := some 38) (v := ?_) (a' := ?_) #[true, false, false, false, false, false, false, false, false, false, false, false] rfl rfl (any_of HT_.out z12_14) (fun _ _ _ h => h) (Or.inl ⟨by rfl, ?_⟩) ?_ ?_
       rotate_left
       ·
        intro w'
        go_simp
        with_reducible rfl
       rotate_left
       ·
        simp only [Act.put, List.setIfInBounds_toArray, List.set_cons_zero, List.set_cons_succ, i64_w, i32_w]
        rfl
       refine pure_ (i := 1) (N := some 39) (v := ?_) (a' := ?_) #[true, true, false, false, false, false, false, false, false, false, false, false] rfl rfl (any_of HT_.out z12_14) (fun _ _ _ h => h) (Or.inl ⟨by rfl, ?_⟩) ?_ ?_
       rotate_left
       ·
        intro w'
        go_simp
        with_reducible rfl
       rotate_left
       ·
        simp only [Act.put, List.setIfInBounds_toArray, List.set_cons_zero, List.set_cons_succ, i64_w, i32_w]
        rfl
       refine pure_ (i := 2) (N := some 40) (v := ?_) (a' := ?_) #[true, true, true, false, false, false, false, false, false, false, false, false] rfl rfl (any_of HT_.out z12_14) (fun _ _ _ h => h) (Or.inl ⟨by rfl, ?_⟩) ?_ ?_
       rotate_left
       ·
        intro w'
        go_simp
        with_reducible rfl
       rotate_left
       ·
        simp only [Act.put, List.setIfInBounds_toArray, List.set_cons_zero, List.set_cons_succ, i64_w, i32_w]
        rfl
       refine pure_ (i := 3) (N := some 41) (v := ?_) (a' := ?_) #[true, true, true, true, false, false, false, false, false, false, false, false] rfl rfl (any_of HT_.out z12_14) (fun _ _ _ h => h) (Or.inl ⟨by rfl, ?_⟩) ?_ ?_
       rotate_left
       ·
        intro w'
        go_simp
        with_reducible rfl
       rotate_left
       ·
        simp only [Act.put, List.setIfInBounds_toArray, List.set_cons_zero, List.set_cons_succ, i64_w, i32_w]
        rfl
       refine pure_ (i := 6) (N := some 44) (v := ?_) (a' := ?_) #[true, true, true, true, false, false, true, false, false, false, false, false] rfl rfl (any_of HT_.out z12_14) (fun _ _ _ h => h) (Or.inl ⟨by rfl, ?_⟩) ?_ ?_
       rotate_left
       ·
        intro w'
        go_simp
        with_reducible rfl
       rotate_left
       ·
        simp only [Act.put, List.setIfInBounds_toArray, List.set_cons_zero, List.set_cons_succ, i64_w, i32_w]
        rfl
       refine pure_ (i := 7) (N := some 45) (v := ?_) (a' := ?_) #[true, true, true, true, false, false, true, true, false, false, false, false] rfl rfl (any_of HT_.out z12_14) (fun _ _ _ h => h) (Or.inl ⟨by rfl, ?_⟩) ?_ ?_
       rotate_left
       ·
        intro w'
        go_simp
        with_reducible rfl
       rotate_left
       ·
        simp only [Act.put, List.setIfInBounds_toArray, List.set_cons_zero, List.set_cons_succ, i64_w, i32_w]
        rfl
       refine pure_ (i := 8) (N := some 46) (v := ?_) (a' := ?_) #[true, true, true, true, false, false, true, true, true, false, false, false] rfl rfl (any_of HT_.out z12_14) (fun _ _ _ h => h) (Or.inl ⟨by rfl, ?_⟩) ?_ ?_
       rotate_left
       ·
        intro w'
        go_simp
        with_reducible rfl
       rotate_left
       ·
        simp only [Act.put, List.setIfInBounds_toArray, List.set_cons_zero, List.set_cons_succ, i64_w, i32_w]
        rfl
       refine take_ (i := 4) (N := some 42) (v := ?_) (a' := ?_) #[true, true, true, true, true, false, true, true, true, false, false, false] rfl rfl (take_ofW HT_.out HW_.out z12_14) (fun _ _ _ h => h) (Or.inl ⟨by rfl, ?_⟩) hHeld ?_ ?_
       rotate_left
       ·
        rintro w' ⟨s0, s1⟩
        go_simp
        with_reducible rfl
       rotate_left
       ·
        simp only [Act.put, List.setIfInBounds_toArray, List.set_cons_zero, List.set_cons_succ, i64_w, i32_w]
        rfl
       refine pure_ (i := 5) (N := some 43) (v := ?_) (a' := ?_) #[true, true, true, true, true, true, true, true, true, false, false, false] rfl rfl (any_of HT_.out z12_14) (fun _ _ _ h => h) (Or.inl ⟨by rfl, ?_⟩) ?_ ?_
       rotate_left
       ·
        intro w'
        go_simp
        with_reducible rfl
       rotate_left
       ·
        simp only [Act.put, List.setIfInBounds_toArray, List.set_cons_zero, List.set_cons_succ, i64_w, i32_w]
        rfl
       refine take_ (i := 9) (N := some 47) (v := ?_) (a' := ?_) #[true, true, true, true, true, true, true, true, true, true, false, false] rfl rfl (take_ofW HT_.out HW_.out z12_14) (fun _ _ _ h => h) (Or.inl ⟨by rfl, ?_⟩) hHeld ?_ ?_
       rotate_left
       ·
        rintro w' ⟨s0, s1⟩
        go_simp
        with_reducible rfl
       rotate_left
       ·
        simp only [Act.put, List.setIfInBounds_toArray, List.set_cons_zero, List.set_cons_succ, i64_w, i32_w]
        rfl
       refine pure_ (i := 10) (N := some 48) (v := ?_) (a' := ?_) #[true, true, true, true, true, true, true, true, true, true, true, false] rfl rfl (any_of HT_.out z12_14) (fun _ _ _ h => h) (Or.inl ⟨by rfl, ?_⟩) ?_ ?_
       rotate_left
       ·
        intro w'
        go_simp
        with_reducible rfl
       rotate_left
       ·
        simp only [Act.put, List.setIfInBounds_toArray, List.set_cons_zero, List.set_cons_succ, i64_w, i32_w]
        rfl
       refine pure_ (i := 11) (N := some 8) (v := ?_) (a' := ?_) #[true, true, true, true, true, true, true, true, true, true, true, true] rfl rfl (any_of HT_.out z12_14) (fun _ _ _ h => h) (Or.inl ⟨by rfl, ?_⟩) ?_ ?_
       rotate_left
       ·
        intro w'
        go_simp
        with_reducible rfl
       rotate_left
       ·
        simp only [Act.put, List.setIfInBounds_toArray, List.set_cons_zero, List.set_cons_succ, i64_w, i32_w]
        rfl
       refine done_ (done_of HT_.out z12_14) ?_
       try go_wp2
       go_roundg k1
       case measure => have := HK1.out; omega
       case rel => exact ⟨(wrap64 ((wrap64 (x8_1 + (rd t525 x9_1))) - (rd t519 x9_1))), (wrap64 (x9_1 + 1)), z12_24, z12_24, H', ⟨by have := HK1.out; omega⟩, ⟨z12_5⟩, ⟨z12_4⟩, ⟨z12_3⟩, ⟨z12_2⟩, ⟨z12_7⟩, ⟨z12_6⟩⟩
      ·
       rw [if_neg c17] at H
       exact absurd H (by simp)
     ·
      rw [if_neg c16] at H
      exact absurd H (by simp)
    ·
     rw [if_neg c15] at H
     have c15b0 : decide (x9_1 < (t525.length : Int)) = false := decide_eq_false c15
     clear c15
     have H' := Aside0.mk H
     clear H
     go_wp2
     go_loopg [10] k1 (fun kq v10 w' => ∃ (x10_2 : Int), v10 = .int .i64 x10_2 ∧ Aside0 (laws_FnKnows.l1 kq l0 t519 t520 t525 t528 t531 x8_1 x10_2 = some true) ∧ Aside0 (kq ≤ k1) ∧ Aside0 (Kd.R (Kd.int .i64) 3 w' w.heap.size (fun k_ => some k_ ≠ ((.slice Ao10 t520.length co10) : Value).ownBlock ∧ some k_ ≠ ((.slice Ao13 t525.length co13) : Value).ownBlock ∧ some k_ ≠ (v529 : Value).ownBlock) (.slice Ao9 t519.length co9) t519) ∧ Aside0 (Kd.R (Kd.int .i64) 3 w' w.heap.size (fun k_ => some k_ ≠ ((.slice Ao9 t519.length co9) : Value).ownBlock ∧ some k_ ≠ ((.slice Ao13 t525.length co13) : Value).ownBlock ∧ some k_ ≠ (v529 : Value).ownBlock) (.slice Ao10 t520.length co10) t520) ∧ Aside0 (Kd.R (Kd.int .i64) 3 w' w.heap.size (fun k_ => some k_ ≠ ((.slice Ao9 t519.length co9) : Value).ownBlock ∧ some k_ ≠ ((.slice Ao10 t520.length co10) : Value).ownBlock ∧ some k_ ≠ (v529 : Value).ownBlock) (.slice Ao13 t525.length co13) t525) ∧ Aside0 (Kd.R (Kd.int .i64) 3 w' w.heap.size (fun k_ => some k_ ≠ ((.slice Ao9 t519.length co9) : Value).ownBlock ∧ some k_ ≠ ((.slice Ao10 t520.length co10) : Value).ownBlock ∧ some k_ ≠ ((.slice Ao13 t525.length co13) : Value).ownBlock) v529 t528) ∧ Aside0 (Kd.R k29 29 w' w.heap.size (fun _ => True) v532 t531) ∧ Aside0 (Below w.heap.size w w'))
     case atStart => exact ⟨(0), z12_24, H', ⟨Nat.le_refl _⟩, ⟨z12_5⟩, ⟨z12_4⟩, ⟨z12_3⟩, ⟨z12_2⟩, ⟨z12_7⟩, ⟨z12_6⟩⟩
     case round =>
      clear H'
      try clear c1
      try clear p2
      try clear c3
      try clear c4
      try clear p5
      try clear q5
      try clear hx5
      try clear c6
      try clear p6
      try clear c13
      try clear c15
      try clear c15b0
      try clear c16
      try clear c16b0
      try clear c17
      try clear c17b0
      try clear hx534_0
      try clear hx535_0
      try clear p2
      try clear p534
      try clear p535
      try clear q534
      try clear q535
      obtain ⟨x10_2, rfl, HA, HK2, HO_3, HO_4, HO_5, HO_6, HO_7, HB⟩ := hrel
      cases gk with
      | zero => exact absurd HA.out (by simp [laws_FnKnows.l1])
      | succ k2 =>
       have H := HA.out
       clear HA
       simp only [laws_FnKnows.l1] at H
       by_cases c19 : x10_2 < (t531.length : Int)
       ·
        rw [if_pos c19] at H
        have c19b0 : decide (x10_2 < (t531.length : Int)) = true := decide_eq_true c19
        clear c19
        by_cases c20 : 0 ≤ x10_2
        ·
         rw [if_pos c20] at H
         have c20b0 : decide (0 ≤ x10_2) = true := decide_eq_true c20
         clear c20
         replace H := Option.bind_eq_some_iff.mp H
         obtain ⟨t537, A210, H⟩ := H
         (try dsimp only at H)
         have A21 := Aside0.mk A210
         clear A210
         by_cases c22 : t537 = true
         ·
          subst c22
          rw [if_pos rfl] at H
          exact absurd H (by simp)
         ·
          replace c22 := Bool.eq_false_iff.mpr c22
          subst c22
          rw [if_neg (show ¬ (false = true) by decide)] at H
          replace H := Option.bind_eq_some_iff.mp H
          obtain ⟨t539, A230, H⟩ := H
          (try dsimp only at H)
          have A23 := Aside0.mk A230
          clear A230
          by_cases c24 : t539 = true
          ·
           subst c24
           rw [if_pos rfl] at H
           replace H := Option.bind_eq_some_iff.mp H
           obtain ⟨t541, A250, H⟩ := H
           (try dsimp only at H)
           have A25 := Aside0.mk A250
           clear A250
           by_cases c26 : t541 = true
           ·
            subst c26
            rw [if_pos rfl] at H
            have H' := Aside0.mk H
            clear H
            obtain ⟨Ao27, co27, eo27⟩ := Kd.R_slice HO_7.out
            subst eo27
            have p536 : 0 ≤ (x10_2 : Int) := of_decide_eq_true z12_20
            have q536 : x10_2 < (t531.length : Int) := of_decide_eq_true z12_20
            obtain ⟨ad536, e536, hx536_0, hx536_1⟩ := at_T29 (Kd.R_reads' HO_7.out).2.2 x10_2 p536 q536
            cases e536
            replace p536 := eq_true p536
            replace q536 := eq_true q536
            go_wp2_with (first | ((with_reducible refine gate_callee (f := 67) rfl ?_); refine goesL_ (some 60) rfl rfl Try.func67 z12_14 rfl #[.slice Ao9 t519.length co9, .agg #[.int .i64 ((rd_T29 t531 x10_2).f0), .int .i64 ((rd_T29 t531 x10_2).f1)]] rfl z12_1 ?_; (with_reducible refine (impl_Knows.calls k2 _ _ t519 ((rd_T29 t531 x10_2).f0) ((rd_T29 t531 x10_2).f1) false _ ?side1 ?side2 A21.out).mono ?_); (case side1 => repeat (first | exact (Kd.R_reads' HO_3.out).2.2 | (with_reducible refine Kd.C_alloc ?_ _) | (with_reducible refine Kd.C_drewN ?_ _) | (with_reducible refine Kd.C_drew ?_))); (case side2 => exact (Kd.R_reads' HO_3.out).2.1); rintro e w28 ⟨rfl, hb⟩; refine ⟨_, rfl, ?_⟩; have n0_ := Aside0.mk (Kd.R_below z12_5 hb); have n1_ := Aside0.mk (Kd.R_below z12_4 hb); have n2_ := Aside0.mk (Kd.R_below z12_3 hb); have n3_ := Aside0.mk (Kd.R_below z12_2 hb); have n4_ := Aside0.mk (Kd.R_below z12_7 hb); have n5_ := Aside0.mk (below_step z12_6 hb); clear HO_3; clear HO_4; clear HO_5; clear HO_6; clear HO_7; clear HB; have HO_3 := n0_; have HO_4 := n1_; have HO_5 := n2_; have HO_6 := n3_; have HO_7 := n4_; have HB := n5_; clear n0_ n1_ n2_ n3_ n4_ n5_; have p538 : 0 ≤ (x10_2 : Int) := of_decide_eq_true z12_20; have q538 : x10_2 < (t531.length : Int) := of_decide_eq_true z12_20; obtain ⟨ad538, e538, hx538_0, hx538_1⟩ := at_T29 (Kd.R_reads' HO_7.out).2.2 x10_2 p538 q538; obtain rfl : ad536 = ad538 := (by injection e538); replace p538 := eq_true p538; replace q538 := eq_true q538) | (go_at_call 67; (with_reducible refine (impl_Knows.calls k2 _ _ t520 ((rd_T29 t531 x10_2).f0) ((rd_T29 t531 x10_2).f1) true _ ?side1 ?side2 A23.out).mono ?_); (case side1 => repeat (first | exact (Kd.R_reads' HO_4.out).2.2 | (with_reducible refine Kd.C_alloc ?_ _) | (with_reducible refine Kd.C_drewN ?_ _) | (with_reducible refine Kd.C_drew ?_))); (case side2 => exact (Kd.R_reads' HO_4.out).2.1); rintro e w29 ⟨rfl, hb⟩; have n0_ := Aside0.mk (Kd.R_below z12_5 hb); have n1_ := Aside0.mk (Kd.R_below z12_4 hb); have n2_ := Aside0.mk (Kd.R_below z12_3 hb); have n3_ := Aside0.mk (Kd.R_below z12_2 hb); have n4_ := Aside0.mk (Kd.R_below z12_7 hb); have n5_ := Aside0.mk (below_step z12_6 hb); clear HO_3; clear HO_4; clear HO_5; clear HO_6; clear HO_7; clear HB; have HO_3 := n0_; have HO_4 := n1_; have HO_5 := n2_; have HO_6 := n3_; have HO_7 := n4_; have HB := n5_; clear n0_ n1_ n2_ n3_ n4_ n5_; have p540 : 0 ≤ (x10_2 : Int) := of_decide_eq_true z12_20; have q540 : x10_2 < (t531.length : Int) := of_decide_eq_true z12_20; obtain ⟨ad540, e540, hx540_0, hx540_1⟩ := at_T29 (Kd.R_reads' HO_7.out).2.2 x10_2 p540 q540; obtain rfl : ad536 = ad540 := (by injection e540); replace p540 := eq_true p540; replace q540 := eq_true q540) | (go_at_call 68; (with_reducible refine (impl_DotOk.calls ((rd_T29 t531 x10_2).f0) ((rd_T29 t531 x10_2).f1) true _ A25.out).mono ?_); rintro e w30 ⟨rfl, hb⟩; have n0_ := Aside0.mk (Kd.R_below z12_5 hb); have n1_ := Aside0.mk (Kd.R_below z12_4 hb); have n2_ := Aside0.mk (Kd.R_below z12_3 hb); have n3_ := Aside0.mk (Kd.R_below z12_2 hb); have n4_ := Aside0.mk (Kd.R_below z12_7 hb); have n5_ := Aside0.mk (below_step z12_6 hb); clear HO_3; clear HO_4; clear HO_5; clear HO_6; clear HO_7; clear HB; have HO_3 := n0_; have HO_4 := n1_; have HO_5 := n2_; have HO_6 := n3_; have HO_7 := n4_; have HB := n5_; clear n0_ n1_ n2_ n3_ n4_ n5_))
            go_roundg k2
            case measure => have := HK1.out; have := HK2.out; omega
            case rel => exact ⟨(wrap64 (x10_2 + 1)), z12_24, H', ⟨by have := HK1.out; have := HK2.out; omega⟩, ⟨z12_5⟩, ⟨z12_4⟩, ⟨z12_3⟩, ⟨z12_2⟩, ⟨z12_7⟩, ⟨z12_6⟩⟩
           ·
            replace c26 := Bool.eq_false_iff.mpr c26
            subst c26
            rw [if_neg (show ¬ (false = true) by decide)] at H
            exact absurd H (by simp)
          ·
           replace c24 := Bool.eq_false_iff.mpr c24
           subst c24
           rw [if_neg (show ¬ (false = true) by decide)] at H
           exact absurd H (by simp)
        ·
         rw [if_neg c20] at H
         exact absurd H (by simp)
       ·
        rw [if_neg c19] at H
        have c19b0 : decide (x10_2 < (t531.length : Int)) = false := decide_eq_false c19
        clear c19
        replace H := Option.bind_eq_some_iff.mp H
        obtain ⟨⟨t542, t543⟩, A310, H⟩ := H
        (try dsimp only at H)
        have A31 := Aside0.mk A310
        clear A310
        replace H := Option.bind_eq_some_iff.mp H
        obtain ⟨⟨t548, t551, t552⟩, A320, H⟩ := H
        (try dsimp only at H)
        have A32 := Aside0.mk A320
        clear A320
        replace H := Option.bind_eq_some_iff.mp H
        obtain ⟨⟨t554, t555⟩, A330, H⟩ := H
        (try dsimp only at H)
        have A33 := Aside0.mk A330
        clear A330
        replace H := Option.bind_eq_some_iff.mp H
        obtain ⟨t557, A340, H⟩ := H
        (try dsimp only at H)
        have A34 := Aside0.mk A340
        clear A340
        by_cases c35 : t557 = true
        ·
         subst c35
         rw [if_pos rfl] at H
         replace H := Option.bind_eq_some_iff.mp H
         obtain ⟨t558, A360, H⟩ := H
         (try dsimp only at H)
         have A36 := Aside0.mk A360
         clear A360
         by_cases c37 : t558 = true
         ·
          subst c37
          rw [if_pos rfl] at H
          replace H := Option.bind_eq_some_iff.mp H
          obtain ⟨t559, A380, H⟩ := H
          (try dsimp only at H)
          have A38 := Aside0.mk A380
          clear A380
          by_cases c39 : t559 = true
          ·
           subst c39
           rw [if_pos rfl] at H
           replace H := Option.bind_eq_some_iff.mp H
           obtain ⟨t560, A400, H⟩ := H
           (try dsimp only at H)
           have A40 := Aside0.mk A400
           clear A400
           by_cases c41 : t560 = true
           ·
            subst c41
            rw [if_pos rfl] at H
            replace H := Option.bind_eq_some_iff.mp H
            obtain ⟨t561, A420, H⟩ := H
            (try dsimp only at H)
            have A42 := Aside0.mk A420
            clear A420
            replace H := Option.bind_eq_some_iff.mp H
            obtain ⟨t564, A430, H⟩ := H
            (try dsimp only at H)
            have A43 := Aside0.mk A430
            clear A430
            by_cases c44 : t564 = true
            ·
             subst c44
             rw [if_pos rfl] at H
             by_cases c45 : (t531.length : Int) = x8_1
             ·
              rw [if_pos c45] at H
              have c45b0 : ((t531.length : Int) == x8_1) = true := beq_iff_eq.mpr c45
              have c45b1 : ((t531.length : Int) != x8_1) = false := bne_eq_false_iff_eq.mpr c45
              clear c45
              replace H := Option.bind_eq_some_iff.mp H
              obtain ⟨t565, A460, H⟩ := H
              (try dsimp only at H)
              have A46 := Aside0.mk A460
              clear A460
              replace H := Option.bind_eq_some_iff.mp H
              obtain ⟨t566, A470, H⟩ := H
              (try dsimp only at H)
              have A47 := Aside0.mk A470
              clear A470
              by_cases c48 : (t565 == ((t566.length : Int) == 0)) = true
              ·
               rw [if_pos c48] at H
               have c48b0 : (t565 == ((t566.length : Int) == 0)) = true := c48
               (try (have c48b1 : decide (t565 = ((t566.length : Int) == 0)) = true := by simpa using c48))
               (try (have c48b2 : (t565 == ((t566.length : Int) == 0)) = true := by simpa using c48))
               clear c48
               replace H := Option.bind_eq_some_iff.mp H
               obtain ⟨t569, A490, H⟩ := H
               (try dsimp only at H)
               have A49 := Aside0.mk A490
               clear A490
               replace H := Option.bind_eq_some_iff.mp H
               obtain ⟨t570, A500, H⟩ := H
               (try dsimp only at H)
               have A50 := Aside0.mk A500
               clear A500
               by_cases c51 : (t569 == t570) = true
               ·
                rw [if_pos c51] at H
                have c51b0 : (t569 == t570) = true := c51
                (try (have c51b1 : decide (t569 = t570) = true := by simpa using c51))
                (try (have c51b2 : (t569 == t570) = true := by simpa using c51))
                clear c51
                replace H := Option.bind_eq_some_iff.mp H
                obtain ⟨t571, A520, H⟩ := H
                (try dsimp only at H)
                have A52 := Aside0.mk A520
                clear A520
                replace H := Option.bind_eq_some_iff.mp H
                obtain ⟨t572, A530, H⟩ := H
                (try dsimp only at H)
                have A53 := Aside0.mk A530
                clear A530
                by_cases c54 : (t571 == t572) = true
                ·
                 rw [if_pos c54] at H
                 have c54b0 : (t571 == t572) = true := c54
                 (try (have c54b1 : decide (t571 = t572) = true := by simpa using c54))
                 (try (have c54b2 : (t571 == t572) = true := by simpa using c54))
                 clear c54
                 replace H := Option.bind_eq_some_iff.mp H
                 obtain ⟨t573, A550, H⟩ := H
                 (try dsimp only at H)
                 have A55 := Aside0.mk A550
                 clear A550
                 replace H := Option.bind_eq_some_iff.mp H
                 obtain ⟨t574, A560, H⟩ := H
                 (try dsimp only at H)
                 have A56 := Aside0.mk A560
                 clear A560
                 by_cases c57 : (t573 == t574) = true
                 ·
                  rw [if_pos c57] at H
                  have c57b0 : (t573 == t574) = true := c57
                  (try (have c57b1 : decide (t573 = t574) = true := by simpa using c57))
                  (try (have c57b2 : (t573 == t574) = true := by simpa using c57))
                  clear c57
                  replace H := Option.bind_eq_some_iff.mp H
                  obtain ⟨t575, A580, H⟩ := H
                  (try dsimp only at H)
                  have A58 := Aside0.mk A580
                  clear A580
                  replace H := Option.bind_eq_some_iff.mp H
                  obtain ⟨t578, A590, H⟩ := H
                  (try dsimp only at H)
                  have A59 := Aside0.mk A590
                  clear A590
                  replace H := Option.bind_eq_some_iff.mp H
                  obtain ⟨t581, A600, H⟩ := H
                  (try dsimp only at H)
                  have A60 := Aside0.mk A600
                  clear A600
                  by_cases c61 : t581 = true
                  ·
                   subst c61
                   rw [if_pos rfl] at H
                   replace H := Option.bind_eq_some_iff.mp H
                   obtain ⟨t582, A620, H⟩ := H
                   (try dsimp only at H)
                   have A62 := Aside0.mk A620
                   clear A620
                   replace H := Option.bind_eq_some_iff.mp H
                   obtain ⟨t585, A630, H⟩ := H
                   (try dsimp only at H)
                   have A63 := Aside0.mk A630
                   clear A630
                   replace H := Option.bind_eq_some_iff.mp H
                   obtain ⟨t588, A640, H⟩ := H
                   (try dsimp only at H)
                   have A64 := Aside0.mk A640
                   clear A640
                   by_cases c65 : t588 = true
                   ·
                    subst c65
                    rw [if_pos rfl] at H
                    replace H := Option.bind_eq_some_iff.mp H
                    obtain ⟨t589, A660, H⟩ := H
                    (try dsimp only at H)
                    have A66 := Aside0.mk A660
                    clear A660
                    replace H := Option.bind_eq_some_iff.mp H
                    obtain ⟨t590, A670, H⟩ := H
                    (try dsimp only at H)
                    have A67 := Aside0.mk A670
                    clear A670
                    by_cases c68 : (t589 == t590) = true
                    ·
                     rw [if_pos c68] at H
                     have c68b0 : (t589 == t590) = true := c68
                     (try (have c68b1 : decide (t589 = t590) = true := by simpa using c68))
                     (try (have c68b2 : (t589 == t590) = true := by simpa using c68))
                     clear c68
                     replace H := Option.bind_eq_some_iff.mp H
                     obtain ⟨t591, A690, H⟩ := H
                     (try dsimp only at H)
                     have A69 := Aside0.mk A690
                     clear A690
                     replace H := Option.bind_eq_some_iff.mp H
                     obtain ⟨t594, A700, H⟩ := H
                     (try dsimp only at H)
                     have A70 := Aside0.mk A700
                     clear A700
                     by_cases c71 : t594 = true
                     ·
                      subst c71
                      rw [if_pos rfl] at H
                      replace H := Option.bind_eq_some_iff.mp H
                      obtain ⟨t595, A720, H⟩ := H
                      (try dsimp only at H)
                      have A72 := Aside0.mk A720
                      clear A720
                      replace H := Option.bind_eq_some_iff.mp H
                      obtain ⟨t598, A730, H⟩ := H
                      (try dsimp only at H)
                      have A73 := Aside0.mk A730
                      clear A730
                      replace H := Option.bind_eq_some_iff.mp H
                      obtain ⟨t601, A740, H⟩ := H
                      (try dsimp only at H)
                      have A74 := Aside0.mk A740
                      clear A740
                      have HT := Option.some.inj H
                      obtain ⟨Ao75, co75, eo75⟩ := Kd.R_slice HO_7.out
                      subst eo75
                      try go_wp2_with (first | ((with_reducible refine gate_callee (f := 69) rfl ?_); refine goesL_ (some 80) rfl rfl Try.func69 z12_14 rfl #[.slice A0 l0.length c0] rfl z12_1 ?_; (with_reducible refine (spec_DrawKnowIn.calls k2 _ _ l0 t542 t543 _ ?side1 ?side2 A31.out).mono ?_); (case side1 => repeat (first | exact (Kd.C_below HR0.out HB.out) | (with_reducible refine Kd.C_alloc ?_ _) | (with_reducible refine Kd.C_drewN ?_ _) | (with_reducible refine Kd.C_drew ?_))); (case side2 => exact HC0.out); rintro e w76 ⟨v544, v546, rfl, ho0, ho1, hb⟩; refine ⟨_, rfl, ?_⟩; have n0_ := Aside0.mk (Kd.R_mono (Kd.R_told (Kd.R_told (Kd.R_old z12_5 hb) (Kd.R_base ho0)) (Kd.R_base ho1)) (fun _ h_ => h_.1)); have n1_ := Aside0.mk (Kd.R_mono (Kd.R_told (Kd.R_told (Kd.R_old z12_4 hb) (Kd.R_base ho0)) (Kd.R_base ho1)) (fun _ h_ => h_.1)); have n2_ := Aside0.mk (Kd.R_mono (Kd.R_told (Kd.R_told (Kd.R_old z12_3 hb) (Kd.R_base ho0)) (Kd.R_base ho1)) (fun _ h_ => h_.1)); have n3_ := Aside0.mk (Kd.R_mono (Kd.R_told (Kd.R_told (Kd.R_old z12_2 hb) (Kd.R_base ho0)) (Kd.R_base ho1)) (fun _ h_ => h_.1)); have n4_ := Aside0.mk (Kd.R_below z12_7 hb); have n5_ := Aside0.mk (Kd.R_lower (Kd.R_new' (Kd.R_new' (Kd.R_new' (Kd.R_new' ho0 (Kd.R_lt z12_5)) (Kd.R_lt z12_4)) (Kd.R_lt z12_3)) (Kd.R_lt z12_2)) (below_size z12_6)); have n6_ := Aside0.mk (Kd.R_lower (Kd.R_new' (Kd.R_new' (Kd.R_new' (Kd.R_new' ho1 (Kd.R_lt z12_5)) (Kd.R_lt z12_4)) (Kd.R_lt z12_3)) (Kd.R_lt z12_2)) (below_size z12_6)); have n7_ := Aside0.mk (below_step z12_6 hb); clear HO_3; clear HO_4; clear HO_5; clear HO_6; clear HO_7; clear HB; have HO_3 := n0_; have HO_4 := n1_; have HO_5 := n2_; have HO_6 := n3_; have HO_7 := n4_; have HO545 := n5_; have HO547 := n6_; have HB := n7_; clear n0_ n1_ n2_ n3_ n4_ n5_ n6_ n7_; (try clear ho0); (try clear ho1)) | ((with_reducible refine gate_callee (f := 70) rfl ?_); refine goesL_ (some 85) rfl rfl Try.func70 z12_14 rfl #[.slice A0 l0.length c0] rfl z12_1 ?_; (with_reducible refine (spec_DrawKnows.calls k2 _ _ l0 t548 t551 t552 _ ?side1 ?side2 A32.out).mono ?_); (case side1 => repeat (first | exact (Kd.C_below HR0.out HB.out) | (with_reducible refine Kd.C_alloc ?_ _) | (with_reducible refine Kd.C_drewN ?_ _) | (with_reducible refine Kd.C_drew ?_))); (case side2 => exact HC0.out); rintro e w77 ⟨v549, rfl, ho0, hb⟩; refine ⟨_, rfl, ?_⟩; have n0_ := Aside0.mk (Kd.R_elder' z12_5 (Kd.R_base ho0) hb); have n1_ := Aside0.mk (Kd.R_elder' z12_4 (Kd.R_base ho0) hb); have n2_ := Aside0.mk (Kd.R_elder' z12_3 (Kd.R_base ho0) hb); have n3_ := Aside0.mk (Kd.R_elder' z12_2 (Kd.R_base ho0) hb); have n4_ := Aside0.mk (Kd.R_below z12_7 hb); have n5_ := Aside0.mk (Kd.R_elder' z12_9 (Kd.R_base ho0) hb); have n6_ := Aside0.mk (Kd.R_elder' z12_8 (Kd.R_base ho0) hb); have n7_ := Aside0.mk (Kd.R_lower (Kd.R_new' (Kd.R_new' (Kd.R_new' (Kd.R_new' (Kd.R_new' (Kd.R_new' ho0 (Kd.R_lt z12_5)) (Kd.R_lt z12_4)) (Kd.R_lt z12_3)) (Kd.R_lt z12_2)) (Kd.R_lt z12_9)) (Kd.R_lt z12_8)) (below_size z12_6)); have n8_ := Aside0.mk (below_step z12_6 hb); clear HO_3; clear HO_4; clear HO_5; clear HO_6; clear HO_7; clear HO545; clear HO547; clear HB; have HO_3 := n0_; have HO_4 := n1_; have HO_5 := n2_; have HO_6 := n3_; have HO_7 := n4_; have HO545 := n5_; have HO547 := n6_; have HO550 := n7_; have HB := n8_; clear n0_ n1_ n2_ n3_ n4_ n5_ n6_ n7_ n8_; (try clear ho0)) | ((with_reducible refine gate_dst (N := 14) rfl ?_); (try (refine gate_guard (by rfl) ?_; dsimp only)); refine box_event ?hg (N := 14) ?hd (cs := #[.int .i64 0, .int .i64 0]) (t := 29) ?hr ?_; (case hd => rfl); (case hg => rfl); (case hr => first | (go_simp; done) | (go_simp; rfl)); intro gb553 hg w78 hbox hb; have n0_ := Aside0.mk (Kd.R_below z12_5 hb); have n1_ := Aside0.mk (Kd.R_below z12_4 hb); have n2_ := Aside0.mk (Kd.R_below z12_3 hb); have n3_ := Aside0.mk (Kd.R_below z12_2 hb); have n4_ := Aside0.mk (Kd.R_below (Kd.R_elderB z12_7 gb553 (Nat.le_of_eq hg.symm)) hb); have n5_ := Aside0.mk (Kd.R_below z12_9 hb); have n6_ := Aside0.mk (Kd.R_below z12_8 hb); have n7_ := Aside0.mk (Kd.R_below z12_11 hb); have n8_ := Aside0.mk (below_step z12_6 hb); have n9_ := Aside0.mk (hbox); have n10_ := Aside0.mk ((by rw [hg]; exact (below_size z12_6) : w.heap.size ≤ gb553)); have n11_ := Aside0.mk ((by rw [hg]; exact (below_size z12_6) : w.heap.size ≤ gb553)); clear HO_3; clear HO_4; clear HO_5; clear HO_6; clear HO_7; clear HO545; clear HO547; clear HO550; clear HB; have HO_3 := n0_; have HO_4 := n1_; have HO_5 := n2_; have HO_6 := n3_; have HO_7 := n4_; have HO545 := n5_; have HO547 := n6_; have HO550 := n7_; have HB := n8_; have BK553 := n9_; have GW553 := n10_; have GE553 := n11_; clear n0_ n1_ n2_ n3_ n4_ n5_ n6_ n7_ n8_ n9_ n10_ n11_; clear hb hbox hg; have hcz79_0 : w78.cell? ⟨gb553, 0, none⟩ = some (.int .i64 0) := (blk_cell BK553.out 0).trans rfl; have hcz79_1 : w78.cell? ⟨gb553, 1, none⟩ = some (.int .i64 0) := (blk_cell BK553.out 1).trans rfl; have hfz79_0 := blk_frozen BK553.out 0; have hfz79_1 := blk_frozen BK553.out 1) | ((with_reducible refine gate_callee (f := 71) rfl ?_); refine goesL_ (some 89) rfl rfl Try.func71 z12_14 rfl #[.slice A0 l0.length c0] rfl z12_1 ?_; (with_reducible refine (spec_DrawDotOk.calls k2 _ _ l0 t554 t555 _ ?side1 ?side2 A33.out).mono ?_); (case side1 => exact Kd.C_below HR0.out z12_18); (case side2 => exact HC0.out); rintro e w80 ⟨rfl, hb⟩; refine ⟨_, rfl, ?_⟩; have n0_ := Aside0.mk (Kd.R_below (by (with_reducible repeat (first | apply Kd.R_alloc | apply Kd.R_drewN | apply Kd.R_drew)); exact (Kd.R_mono (Kd.R_far (p := ⟨gb553, 1, none⟩) (Kd.R_far (p := ⟨gb553, 0, none⟩) (Kd.R_types HO_3.out BK553.out (by decide)) (fun _ hk => by first | exact hk.2 | trivial) (.int .i64 t551)) (fun _ hk => by first | exact hk.2 | trivial) (.int .i64 t552)) (fun _ h_ => h_.1))) hb); have n1_ := Aside0.mk (Kd.R_below (by (with_reducible repeat (first | apply Kd.R_alloc | apply Kd.R_drewN | apply Kd.R_drew)); exact (Kd.R_mono (Kd.R_far (p := ⟨gb553, 1, none⟩) (Kd.R_far (p := ⟨gb553, 0, none⟩) (Kd.R_types HO_4.out BK553.out (by decide)) (fun _ hk => by first | exact hk.2 | trivial) (.int .i64 t551)) (fun _ hk => by first | exact hk.2 | trivial) (.int .i64 t552)) (fun _ h_ => h_.1))) hb); have n2_ := Aside0.mk (Kd.R_below (by (with_reducible repeat (first | apply Kd.R_alloc | apply Kd.R_drewN | apply Kd.R_drew)); exact (Kd.R_mono (Kd.R_far (p := ⟨gb553, 1, none⟩) (Kd.R_far (p := ⟨gb553, 0, none⟩) (Kd.R_types HO_5.out BK553.out (by decide)) (fun _ hk => by first | exact hk.2 | trivial) (.int .i64 t551)) (fun _ hk => by first | exact hk.2 | trivial) (.int .i64 t552)) (fun _ h_ => h_.1))) hb); have n3_ := Aside0.mk (Kd.R_below (by (with_reducible repeat (first | apply Kd.R_alloc | apply Kd.R_drewN | apply Kd.R_drew)); exact (Kd.R_mono (Kd.R_far (p := ⟨gb553, 1, none⟩) (Kd.R_far (p := ⟨gb553, 0, none⟩) (Kd.R_types HO_6.out BK553.out (by decide)) (fun _ hk => by first | exact hk.2 | trivial) (.int .i64 t551)) (fun _ hk => by first | exact hk.2 | trivial) (.int .i64 t552)) (fun _ h_ => h_.1))) hb); have n4_ := Aside0.mk (Kd.R_below (by (with_reducible repeat (first | apply Kd.R_alloc | apply Kd.R_drewN | apply Kd.R_drew)); exact (Kd.R_mono (Kd.R_far (p := ⟨gb553, 1, none⟩) (Kd.R_far (p := ⟨gb553, 0, none⟩) (Kd.R_mono HO_7.out (fun k_ hk => (⟨hk, hk.2⟩ : _ ∧ k_ ≠ gb553))) (fun _ hk => by first | exact hk.2 | trivial) (.int .i64 t551)) (fun _ hk => by first | exact hk.2 | trivial) (.int .i64 t552)) (fun _ h_ => h_.1))) hb); have n5_ := Aside0.mk (Kd.R_below (by (with_reducible repeat (first | apply Kd.R_alloc | apply Kd.R_drewN | apply Kd.R_drew)); exact (Kd.R_mono (Kd.R_far (p := ⟨gb553, 1, none⟩) (Kd.R_far (p := ⟨gb553, 0, none⟩) (Kd.R_types HO545.out BK553.out (by decide)) (fun _ hk => by first | exact hk.2 | trivial) (.int .i64 t551)) (fun _ hk => by first | exact hk.2 | trivial) (.int .i64 t552)) (fun _ h_ => h_.1))) hb); have n6_ := Aside0.mk (Kd.R_below (by (with_reducible repeat (first | apply Kd.R_alloc | apply Kd.R_drewN | apply Kd.R_drew)); exact (Kd.R_mono (Kd.R_far (p := ⟨gb553, 1, none⟩) (Kd.R_far (p := ⟨gb553, 0, none⟩) (Kd.R_types HO547.out BK553.out (by decide)) (fun _ hk => by first | exact hk.2 | trivial) (.int .i64 t551)) (fun _ hk => by first | exact hk.2 | trivial) (.int .i64 t552)) (fun _ h_ => h_.1))) hb); have n7_ := Aside0.mk (Kd.R_below (by (with_reducible repeat (first | apply Kd.R_alloc | apply Kd.R_drewN | apply Kd.R_drew)); exact (Kd.R_mono (Kd.R_far (p := ⟨gb553, 1, none⟩) (Kd.R_far (p := ⟨gb553, 0, none⟩) (Kd.R_types HO550.out BK553.out (by decide)) (fun _ hk => by first | exact hk.2 | trivial) (.int .i64 t551)) (fun _ hk => by first | exact hk.2 | trivial) (.int .i64 t552)) (fun _ h_ => h_.1))) hb); have n8_ := Aside0.mk (blk_below (g := gb553) (o := .cells #[.int .i64 t551, .int .i64 t552] 29 (0, 0)) (by (with_reducible repeat (first | refine blk_drewN ?_ _ | refine blk_drew ?_ | refine blk_alloc ?_ _)); refine blk_put (cs := #[.int .i64 t551, .int .i64 0]) ?_ 1 _ rfl; (with_reducible repeat (first | refine blk_drewN ?_ _ | refine blk_drew ?_ | refine blk_alloc ?_ _)); refine blk_put (cs := #[.int .i64 0, .int .i64 0]) ?_ 0 _ rfl; (with_reducible repeat (first | refine blk_drewN ?_ _ | refine blk_drew ?_ | refine blk_alloc ?_ _)); exact BK553.out) hb); have n9_ := Aside0.mk (below_step z12_18 hb); clear HO_3; clear HO_4; clear HO_5; clear HO_6; clear HO_7; clear HO545; clear HO547; clear HO550; clear BK553; clear HB; have HO_3 := n0_; have HO_4 := n1_; have HO_5 := n2_; have HO_6 := n3_; have HO_7 := n4_; have HO545 := n5_; have HO547 := n6_; have HO550 := n7_; have BK553 := n8_; have HB := n9_; clear n0_ n1_ n2_ n3_ n4_ n5_ n6_ n7_ n8_ n9_) | ((with_reducible refine gate_dst (N := 15) rfl ?_); (try (refine gate_guard (by rfl) ?_; dsimp only)); refine box_event ?hg (N := 15) ?hd (cs := #[.int .i64 0, .int .i64 0]) (t := 29) ?hr ?_; (case hd => rfl); (case hg => rfl); (case hr => first | (go_simp; done) | (go_simp; rfl)); intro gb556 hg w81 hbox hb; have n0_ := Aside0.mk (Kd.R_below z12_5 hb); have n1_ := Aside0.mk (Kd.R_below z12_4 hb); have n2_ := Aside0.mk (Kd.R_below z12_3 hb); have n3_ := Aside0.mk (Kd.R_below z12_2 hb); have n4_ := Aside0.mk (Kd.R_below (Kd.R_elderB z12_7 gb556 (Nat.le_of_eq hg.symm)) hb); have n5_ := Aside0.mk (Kd.R_below z12_9 hb); have n6_ := Aside0.mk (Kd.R_below z12_8 hb); have n7_ := Aside0.mk (Kd.R_below z12_11 hb); have n8_ := Aside0.mk (blk_below (g := gb553) (o := .cells #[.int .i64 t551, .int .i64 t552] 29 (0, 0)) z12_10 hb); have n9_ := Aside0.mk (below_step z12_18 hb); have n10_ := Aside0.mk (hbox); have n11_ := Aside0.mk ((by rw [hg]; exact (below_size z12_18) : w.heap.size ≤ gb556)); have n12_ := Aside0.mk ((by rw [hg]; exact (below_size z12_18) : w.heap.size ≤ gb556)); have n13_ := Aside0.mk ((by rw [hg]; exact Nat.ne_of_lt (blk_lt (g := gb553) (o := .cells #[.int .i64 t551, .int .i64 t552] 29 (0, 0)) z12_10) : gb553 ≠ gb556)); have n14_ := Aside0.mk ((by rw [hg]; exact Nat.ne_of_gt (blk_lt (g := gb553) (o := .cells #[.int .i64 t551, .int .i64 t552] 29 (0, 0)) z12_10) : gb556 ≠ gb553)); clear HO_3; clear HO_4; clear HO_5; clear HO_6; clear HO_7; clear HO545; clear HO547; clear HO550; clear BK553; clear HB; have HO_3 := n0_; have HO_4 := n1_; have HO_5 := n2_; have HO_6 := n3_; have HO_7 := n4_; have HO545 := n5_; have HO547 := n6_; have HO550 := n7_; have BK553 := n8_; have HB := n9_; have BK556 := n10_; have GW556 := n11_; have GE556 := n12_; have NB553_556 := n13_; have NB556_553 := n14_; clear n0_ n1_ n2_ n3_ n4_ n5_ n6_ n7_ n8_ n9_ n10_ n11_ n12_ n13_ n14_; clear hb hbox hg; have hnb82 := NB556_553.out; have hnc82 := NB553_556.out; have hcz83_0 : w81.cell? ⟨gb556, 0, none⟩ = some (.int .i64 0) := (blk_cell BK556.out 0).trans rfl; have hcz83_1 : w81.cell? ⟨gb556, 1, none⟩ = some (.int .i64 0) := (blk_cell BK556.out 1).trans rfl; have hfz83_0 := blk_frozen BK556.out 0; have hfz83_1 := blk_frozen BK556.out 1))
                      have n0_ : Aside0 (Kd.R (Kd.int .i64) 3 ((w81.setCell ⟨gb556, 0, none⟩ (.int .i64 t554)).setCell ⟨gb556, 1, none⟩ (.int .i64 t555)) w.heap.size (fun k_ => some k_ ≠ (.slice Ao10 t520.length co10 : Value).ownBlock ∧ some k_ ≠ (.slice Ao13 t525.length co13 : Value).ownBlock ∧ some k_ ≠ (v529 : Value).ownBlock ∧ some k_ ≠ (v544 : Value).ownBlock ∧ some k_ ≠ (v546 : Value).ownBlock ∧ some k_ ≠ (v549 : Value).ownBlock) (.slice Ao9 t519.length co9) t519) := ⟨by (with_reducible repeat (first | apply Kd.R_alloc | apply Kd.R_drewN | apply Kd.R_drew)); exact Kd.R_mono (Kd.R_far (p := ⟨gb556, 1, none⟩) (Kd.R_far (p := ⟨gb556, 0, none⟩) (Kd.R_types HO_3.out BK556.out (by decide)) (fun _ hk => by first | exact hk.2 | trivial) (.int .i64 t554)) (fun _ hk => by first | exact hk.2 | trivial) (.int .i64 t555)) (fun _ hk => ⟨hk.1.1.1.1.1, ⟨hk.1.1.1.1.2.1, ⟨hk.1.1.1.1.2.2, ⟨hk.1.1.1.2, ⟨hk.1.1.2, hk.1.2⟩⟩⟩⟩⟩)⟩
                      have n1_ : Aside0 (Kd.R (Kd.int .i64) 3 ((w81.setCell ⟨gb556, 0, none⟩ (.int .i64 t554)).setCell ⟨gb556, 1, none⟩ (.int .i64 t555)) w.heap.size (fun k_ => some k_ ≠ (.slice Ao9 t519.length co9 : Value).ownBlock ∧ some k_ ≠ (.slice Ao13 t525.length co13 : Value).ownBlock ∧ some k_ ≠ (v529 : Value).ownBlock ∧ some k_ ≠ (v544 : Value).ownBlock ∧ some k_ ≠ (v546 : Value).ownBlock ∧ some k_ ≠ (v549 : Value).ownBlock) (.slice Ao10 t520.length co10) t520) := ⟨by (with_reducible repeat (first | apply Kd.R_alloc | apply Kd.R_drewN | apply Kd.R_drew)); exact Kd.R_mono (Kd.R_far (p := ⟨gb556, 1, none⟩) (Kd.R_far (p := ⟨gb556, 0, none⟩) (Kd.R_types HO_4.out BK556.out (by decide)) (fun _ hk => by first | exact hk.2 | trivial) (.int .i64 t554)) (fun _ hk => by first | exact hk.2 | trivial) (.int .i64 t555)) (fun _ hk => ⟨hk.1.1.1.1.1, ⟨hk.1.1.1.1.2.1, ⟨hk.1.1.1.1.2.2, ⟨hk.1.1.1.2, ⟨hk.1.1.2, hk.1.2⟩⟩⟩⟩⟩)⟩
                      have n2_ : Aside0 (Kd.R (Kd.int .i64) 3 ((w81.setCell ⟨gb556, 0, none⟩ (.int .i64 t554)).setCell ⟨gb556, 1, none⟩ (.int .i64 t555)) w.heap.size (fun k_ => some k_ ≠ (.slice Ao9 t519.length co9 : Value).ownBlock ∧ some k_ ≠ (.slice Ao10 t520.length co10 : Value).ownBlock ∧ some k_ ≠ (v529 : Value).ownBlock ∧ some k_ ≠ (v544 : Value).ownBlock ∧ some k_ ≠ (v546 : Value).ownBlock ∧ some k_ ≠ (v549 : Value).ownBlock) (.slice Ao13 t525.length co13) t525) := ⟨by (with_reducible repeat (first | apply Kd.R_alloc | apply Kd.R_drewN | apply Kd.R_drew)); exact Kd.R_mono (Kd.R_far (p := ⟨gb556, 1, none⟩) (Kd.R_far (p := ⟨gb556, 0, none⟩) (Kd.R_types HO_5.out BK556.out (by decide)) (fun _ hk => by first | exact hk.2 | trivial) (.int .i64 t554)) (fun _ hk => by first | exact hk.2 | trivial) (.int .i64 t555)) (fun _ hk => ⟨hk.1.1.1.1.1, ⟨hk.1.1.1.1.2.1, ⟨hk.1.1.1.1.2.2, ⟨hk.1.1.1.2, ⟨hk.1.1.2, hk.1.2⟩⟩⟩⟩⟩)⟩
                      have n3_ : Aside0 (Kd.R (Kd.int .i64) 3 ((w81.setCell ⟨gb556, 0, none⟩ (.int .i64 t554)).setCell ⟨gb556, 1, none⟩ (.int .i64 t555)) w.heap.size (fun k_ => some k_ ≠ (.slice Ao9 t519.length co9 : Value).ownBlock ∧ some k_ ≠ (.slice Ao10 t520.length co10 : Value).ownBlock ∧ some k_ ≠ (.slice Ao13 t525.length co13 : Value).ownBlock ∧ some k_ ≠ (v544 : Value).ownBlock ∧ some k_ ≠ (v546 : Value).ownBlock ∧ some k_ ≠ (v549 : Value).ownBlock) v529 t528) := ⟨by (with_reducible repeat (first | apply Kd.R_alloc | apply Kd.R_drewN | apply Kd.R_drew)); exact Kd.R_mono (Kd.R_far (p := ⟨gb556, 1, none⟩) (Kd.R_far (p := ⟨gb556, 0, none⟩) (Kd.R_types HO_6.out BK556.out (by decide)) (fun _ hk => by first | exact hk.2 | trivial) (.int .i64 t554)) (fun _ hk => by first | exact hk.2 | trivial) (.int .i64 t555)) (fun _ hk => ⟨hk.1.1.1.1.1, ⟨hk.1.1.1.1.2.1, ⟨hk.1.1.1.1.2.2, ⟨hk.1.1.1.2, ⟨hk.1.1.2, hk.1.2⟩⟩⟩⟩⟩)⟩
                      have n4_ : Aside0 (Kd.R k29 29 ((w81.setCell ⟨gb556, 0, none⟩ (.int .i64 t554)).setCell ⟨gb556, 1, none⟩ (.int .i64 t555)) w.heap.size (fun k_ => k_ ≠ gb553 ∧ k_ ≠ gb556) (.slice Ao75 t531.length co75) t531) := ⟨by (with_reducible repeat (first | apply Kd.R_alloc | apply Kd.R_drewN | apply Kd.R_drew)); exact Kd.R_mono (Kd.R_far (p := ⟨gb556, 1, none⟩) (Kd.R_far (p := ⟨gb556, 0, none⟩) (Kd.R_mono HO_7.out (fun k_ hk => (⟨hk, hk.2⟩ : _ ∧ k_ ≠ gb556))) (fun _ hk => by first | exact hk.2 | trivial) (.int .i64 t554)) (fun _ hk => by first | exact hk.2 | trivial) (.int .i64 t555)) (fun _ hk => ⟨hk.1.1.2, hk.1.2⟩)⟩
                      have n5_ : Aside0 (Kd.R (Kd.int .i64) 3 ((w81.setCell ⟨gb556, 0, none⟩ (.int .i64 t554)).setCell ⟨gb556, 1, none⟩ (.int .i64 t555)) w.heap.size (fun k_ => some k_ ≠ (.slice Ao9 t519.length co9 : Value).ownBlock ∧ some k_ ≠ (.slice Ao10 t520.length co10 : Value).ownBlock ∧ some k_ ≠ (.slice Ao13 t525.length co13 : Value).ownBlock ∧ some k_ ≠ (v529 : Value).ownBlock ∧ some k_ ≠ (v546 : Value).ownBlock ∧ some k_ ≠ (v549 : Value).ownBlock) v544 t542) := ⟨by (with_reducible repeat (first | apply Kd.R_alloc | apply Kd.R_drewN | apply Kd.R_drew)); exact Kd.R_mono (Kd.R_far (p := ⟨gb556, 1, none⟩) (Kd.R_far (p := ⟨gb556, 0, none⟩) (Kd.R_types HO545.out BK556.out (by decide)) (fun _ hk => by first | exact hk.2 | trivial) (.int .i64 t554)) (fun _ hk => by first | exact hk.2 | trivial) (.int .i64 t555)) (fun _ hk => ⟨hk.1.1.1.1.1.2, ⟨hk.1.1.1.1.2, ⟨hk.1.1.1.2, ⟨hk.1.1.2, ⟨hk.1.1.1.1.1.1, hk.1.2⟩⟩⟩⟩⟩)⟩
                      have n6_ : Aside0 (Kd.R (Kd.int .i64) 3 ((w81.setCell ⟨gb556, 0, none⟩ (.int .i64 t554)).setCell ⟨gb556, 1, none⟩ (.int .i64 t555)) w.heap.size (fun k_ => some k_ ≠ (.slice Ao9 t519.length co9 : Value).ownBlock ∧ some k_ ≠ (.slice Ao10 t520.length co10 : Value).ownBlock ∧ some k_ ≠ (.slice Ao13 t525.length co13 : Value).ownBlock ∧ some k_ ≠ (v529 : Value).ownBlock ∧ some k_ ≠ (v544 : Value).ownBlock ∧ some k_ ≠ (v549 : Value).ownBlock) v546 t543) := ⟨by (with_reducible repeat (first | apply Kd.R_alloc | apply Kd.R_drewN | apply Kd.R_drew)); exact Kd.R_mono (Kd.R_far (p := ⟨gb556, 1, none⟩) (Kd.R_far (p := ⟨gb556, 0, none⟩) (Kd.R_types HO547.out BK556.out (by decide)) (fun _ hk => by first | exact hk.2 | trivial) (.int .i64 t554)) (fun _ hk => by first | exact hk.2 | trivial) (.int .i64 t555)) (fun _ hk => ⟨hk.1.1.1.1.1.2, ⟨hk.1.1.1.1.2, ⟨hk.1.1.1.2, ⟨hk.1.1.2, ⟨hk.1.1.1.1.1.1, hk.1.2⟩⟩⟩⟩⟩)⟩
                      have n7_ : Aside0 (Kd.R (Kd.int .i64) 3 ((w81.setCell ⟨gb556, 0, none⟩ (.int .i64 t554)).setCell ⟨gb556, 1, none⟩ (.int .i64 t555)) w.heap.size (fun k_ => some k_ ≠ (.slice Ao9 t519.length co9 : Value).ownBlock ∧ some k_ ≠ (.slice Ao10 t520.length co10 : Value).ownBlock ∧ some k_ ≠ (.slice Ao13 t525.length co13 : Value).ownBlock ∧ some k_ ≠ (v529 : Value).ownBlock ∧ some k_ ≠ (v544 : Value).ownBlock ∧ some k_ ≠ (v546 : Value).ownBlock) v549 t548) := ⟨by (with_reducible repeat (first | apply Kd.R_alloc | apply Kd.R_drewN | apply Kd.R_drew)); exact Kd.R_mono (Kd.R_far (p := ⟨gb556, 1, none⟩) (Kd.R_far (p := ⟨gb556, 0, none⟩) (Kd.R_types HO550.out BK556.out (by decide)) (fun _ hk => by first | exact hk.2 | trivial) (.int .i64 t554)) (fun _ hk => by first | exact hk.2 | trivial) (.int .i64 t555)) (fun _ hk => ⟨hk.1.1.1.1.1.1.2, ⟨hk.1.1.1.1.1.2, ⟨hk.1.1.1.1.2, ⟨hk.1.1.1.2, ⟨hk.1.1.2, hk.1.2⟩⟩⟩⟩⟩)⟩
                      have n8_ : Aside0 (((w81.setCell ⟨gb556, 0, none⟩ (.int .i64 t554)).setCell ⟨gb556, 1, none⟩ (.int .i64 t555)).heap[gb553]? = some (.cells #[.int .i64 t551, .int .i64 t552] 29 (0, 0))) := ⟨by (with_reducible repeat (first | refine blk_drewN ?_ _ | refine blk_drew ?_ | refine blk_alloc ?_ _)); refine blk_far ?_ NB553_556.out _; (with_reducible repeat (first | refine blk_drewN ?_ _ | refine blk_drew ?_ | refine blk_alloc ?_ _)); refine blk_far ?_ NB553_556.out _; (with_reducible repeat (first | refine blk_drewN ?_ _ | refine blk_drew ?_ | refine blk_alloc ?_ _)); exact BK553.out⟩
                      have n9_ : Aside0 (((w81.setCell ⟨gb556, 0, none⟩ (.int .i64 t554)).setCell ⟨gb556, 1, none⟩ (.int .i64 t555)).heap[gb556]? = some (.cells #[.int .i64 t554, .int .i64 t555] 29 (0, 0))) := ⟨by (with_reducible repeat (first | refine blk_drewN ?_ _ | refine blk_drew ?_ | refine blk_alloc ?_ _)); refine blk_put (cs := #[.int .i64 t554, .int .i64 0]) ?_ 1 _ rfl; (with_reducible repeat (first | refine blk_drewN ?_ _ | refine blk_drew ?_ | refine blk_alloc ?_ _)); refine blk_put (cs := #[.int .i64 0, .int .i64 0]) ?_ 0 _ rfl; (with_reducible repeat (first | refine blk_drewN ?_ _ | refine blk_drew ?_ | refine blk_alloc ?_ _)); exact BK556.out⟩
                      have n10_ : Aside0 (Below w.heap.size w ((w81.setCell ⟨gb556, 0, none⟩ (.int .i64 t554)).setCell ⟨gb556, 1, none⟩ (.int .i64 t555))) := ⟨z12_0⟩
                      (try clear HO_3)
                      (try clear HO_4)
                      (try clear HO_5)
                      (try clear HO_6)
                      (try clear HO_7)
                      (try clear HO545)
                      (try clear HO547)
                      (try clear HO550)
                      (try clear BK553)
                      (try clear BK556)
                      (try clear HB)
                      generalize ((w81.setCell ⟨gb556, 0, none⟩ (.int .i64 t554)).setCell ⟨gb556, 1, none⟩ (.int .i64 t555)) = w84 at n0_ n1_ n2_ n3_ n4_ n5_ n6_ n7_ n8_ n9_ n10_ ⊢
                      have HO_3 := n0_
                      have HO_4 := n1_
                      have HO_5 := n2_
                      have HO_6 := n3_
                      have HO_7 := n4_
                      have HO545 := n5_
                      have HO547 := n6_
                      have HO550 := n7_
                      have BK553 := n8_
                      have BK556 := n9_
                      have HB := n10_
                      clear n0_ n1_ n2_ n3_ n4_ n5_ n6_ n7_ n8_ n9_ n10_
                      have n0_ := Aside0.mk (Kd.R_drew HO_3.out)
                      have n1_ := Aside0.mk (Kd.R_drew HO_4.out)
                      have n2_ := Aside0.mk (Kd.R_drew HO_5.out)
                      have n3_ := Aside0.mk (Kd.R_drew HO_6.out)
                      have n4_ := Aside0.mk (Kd.R_drew HO_7.out)
                      have n5_ := Aside0.mk (Kd.R_drew HO545.out)
                      have n6_ := Aside0.mk (Kd.R_drew HO547.out)
                      have n7_ := Aside0.mk (Kd.R_drew HO550.out)
                      have n8_ := Aside0.mk (blk_drew BK553.out)
                      have n9_ := Aside0.mk (blk_drew BK556.out)
                      have n10_ := Aside0.mk (below_drew1 HB.out)
                      clear HO_3
                      clear HO_4
                      clear HO_5
                      clear HO_6
                      clear HO_7
                      clear HO545
                      clear HO547
                      clear HO550
                      clear BK553
                      clear BK556
                      clear HB
                      have HO_3 := n0_
                      have HO_4 := n1_
                      have HO_5 := n2_
                      have HO_6 := n3_
                      have HO_7 := n4_
                      have HO545 := n5_
                      have HO547 := n6_
                      have HO550 := n7_
                      have BK553 := n8_
                      have BK556 := n9_
                      have HB := n10_
                      clear n0_ n1_ n2_ n3_ n4_ n5_ n6_ n7_ n8_ n9_ n10_
                      refine start_ (n := 107) (S := fun w' => w'.cell? ⟨gb553, 0, none⟩ = some (.int .i64 t551) ∧ w'.cell? ⟨gb553, 1, none⟩ = some (.int .i64 t552) ∧ w'.cell? ⟨gb556, 0, none⟩ = some (.int .i64 t554) ∧ w'.cell? ⟨gb556, 1, none⟩ = some (.int .i64 t555)) (ds := []) #[false, false, false, false, false, false, false, false, false, false, false, false, false, false, false, false, false, false, false, false, false, false, false, false, false, false, false, false, false, false, false, false, false, false, false, false, false, false, false, false, false, false, false, false, false, false, false, false, false, false, false, false, false, false, false, false, false, false, false, false, false, false, false, false, false, false, false, false, false, false, false, false, false, false, false, false, false, false, false, false, false, false, false, false, false, false, false, false, false, false, false, false, false, false, false, false, false, false, false, false, false, false, false, false, false, false, false] z12_14 rfl rfl ⟨(blk_cell BK553.out 0).trans rfl, (blk_cell BK553.out 1).trans rfl, (blk_cell BK556.out 0).trans rfl, (blk_cell BK556.out 1).trans rfl⟩ (fun hHeld => ?_); refine with_tabW laws_FnKnows.tab20 laws_FnKnows.bits20 (fun HT_ HW_ => ?_)
                      generalize w84.drew = w85 at HO_3 HO_4 HO_5 HO_6 HO_7 HO545 HO547 HO550 BK553 BK556 HB hHeld ⊢
                      refine pure_ (i := 0) (N := some 90) (v := ?_) (a' := ?_) #[true, false, false, false, false, false, false, false, false, false, false, false, false, false, false, false, false, false, false, false, false, false, false, false, false, false, false, false, false, false, false, false, false, false, false, false, false, false, false, false, false, false, false, false, false, false, false, false, false, false, false, false, false, false, false, false, false, false, false, false, false, false, false, false, false, false, false, false, false, false, false, false, false, false, false, false, false, false, false, false, false, false, false, false, false, false, false, false, false, false, false, false, false, false, false, false, false, false, false, false, false, false, false, false, false, false, false] rfl rfl (any_of HT_.out z12_14) (fun _ _ _ h => h) (Or.inl ⟨by rfl, ?_⟩) ?_ ?_
                      rotate_left
                      ·
                       intro w'
                       go_simp
                       with_reducible rfl
                      rotate_left
                      ·
                       simp only [Act.put, List.setIfInBounds_toArray, List.set_cons_zero, List.set_cons_succ, i64_w, i32_w]
                       rfl
                      refine pure_ (i := 1) (N := some 91) (v := ?_) (a' := ?_) #[true, true, false, false, false, false, false, false, false, false, false, false, false, false, false, false, false, false, false, false, false, false, false, false, false, false, false, false, false, false, false, false, false, false, false, false, false, false, false, false, false, false, false, false, false, false, false, false, false, false, false, false, false, false, false, false, false, false, false, false, false, false, false, false, false, false, false, false, false, false, false, false, false, false, false, false, false, false, false, false, false, false, false, false, false, false, false, false, false, false, false, false, false, false, false, false, false, false, false, false, false, false, false, false, false, false, false] rfl rfl (any_of HT_.out z12_14) (fun _ _ _ h => h) (Or.inl ⟨by rfl, ?_⟩) ?_ ?_
                      rotate_left
                      ·
                       intro w'
                       go_simp
                       with_reducible rfl
                      rotate_left
                      ·
                       simp only [Act.put, List.setIfInBounds_toArray, List.set_cons_zero, List.set_cons_succ, i64_w, i32_w]
                       rfl
                      refine one_ (i := 2) (N := some 92) #[true, true, true, false, false, false, false, false, false, false, false, false, false, false, false, false, false, false, false, false, false, false, false, false, false, false, false, false, false, false, false, false, false, false, false, false, false, false, false, false, false, false, false, false, false, false, false, false, false, false, false, false, false, false, false, false, false, false, false, false, false, false, false, false, false, false, false, false, false, false, false, false, false, false, false, false, false, false, false, false, false, false, false, false, false, false, false, false, false, false, false, false, false, false, false, false, false, false, false, false, false, false, false, false, false, false, false] rfl rfl (one_of HT_.out z12_14) (by decide) (fun K hK => ?_)
                      refine goes_ Try.func72 z12_14 rfl #[.slice Ao9 t519.length co9, .slice Ao13 t525.length co13] (by rfl) rfl rfl z12_1 ?_
                      with_reducible refine (impl_KnowIn.calls k2 _ _ t519 _ _ t525 true _ ?side1 ?side2 ?side3 ?side4 A34.out).mono ?_
                      (case side1 => repeat (first | exact (Kd.R_reads' HO_3.out).2.2 | (with_reducible refine Kd.C_alloc ?_ _) | (with_reducible refine Kd.C_drewN ?_ _) | (with_reducible refine Kd.C_drew ?_)))
                      (case side2 => exact (Kd.R_reads' HO_3.out).2.1)
                      (case side3 => repeat (first | exact (Kd.R_reads' HO_5.out).2.2 | (with_reducible refine Kd.C_alloc ?_ _) | (with_reducible refine Kd.C_drewN ?_ _) | (with_reducible refine Kd.C_drew ?_)))
                      (case side4 => exact (Kd.R_reads' HO_5.out).2.1)
                      rintro e w' ⟨rfl, ⟨nd, rfl⟩⟩
                      refine ⟨_, rfl, ?_⟩
                      refine hK.out _ _ ⟨(blk_cell BK553.out 0).trans rfl, (blk_cell BK553.out 1).trans rfl, (blk_cell BK556.out 0).trans rfl, (blk_cell BK556.out 1).trans rfl⟩ (fun hHeld => ?_)
                      clear hK K
                      refine norm_ (a' := ?_) ?_ ?_
                      rotate_left
                      ·
                       show Act.put _ (some 92) _ = _
                       simp only [Act.put, List.setIfInBounds_toArray, List.set_cons_zero, List.set_cons_succ, i64_w, i32_w]
                       rfl
                      refine pure_ (i := 3) (N := some 93) (v := ?_) (a' := ?_) #[true, true, true, true, false, false, false, false, false, false, false, false, false, false, false, false, false, false, false, false, false, false, false, false, false, false, false, false, false, false, false, false, false, false, false, false, false, false, false, false, false, false, false, false, false, false, false, false, false, false, false, false, false, false, false, false, false, false, false, false, false, false, false, false, false, false, false, false, false, false, false, false, false, false, false, false, false, false, false, false, false, false, false, false, false, false, false, false, false, false, false, false, false, false, false, false, false, false, false, false, false, false, false, false, false, false, false] rfl rfl (any_of HT_.out z12_14) (fun _ _ _ h => h) (Or.inl ⟨by rfl, ?_⟩) ?_ ?_
                      rotate_left
                      ·
                       intro w'
                       go_simp
                       with_reducible rfl
                      rotate_left
                      ·
                       simp only [Act.put, List.setIfInBounds_toArray, List.set_cons_zero, List.set_cons_succ, i64_w, i32_w]
                       rfl
                      refine pure_ (i := 4) (N := some 94) (v := ?_) (a' := ?_) #[true, true, true, true, true, false, false, false, false, false, false, false, false, false, false, false, false, false, false, false, false, false, false, false, false, false, false, false, false, false, false, false, false, false, false, false, false, false, false, false, false, false, false, false, false, false, false, false, false, false, false, false, false, false, false, false, false, false, false, false, false, false, false, false, false, false, false, false, false, false, false, false, false, false, false, false, false, false, false, false, false, false, false, false, false, false, false, false, false, false, false, false, false, false, false, false, false, false, false, false, false, false, false, false, false, false, false] rfl rfl (any_of HT_.out z12_14) (fun _ _ _ h => h) (Or.inl ⟨by rfl, ?_⟩) ?_ ?_
                      rotate_left
                      ·
                       intro w'
                       go_simp
                       with_reducible rfl
                      rotate_left
                      ·
                       simp only [Act.put, List.setIfInBounds_toArray, List.set_cons_zero, List.set_cons_succ, i64_w, i32_w]
                       rfl
                      refine pure_ (i := 5) (N := some 95) (v := ?_) (a' := ?_) #[true, true, true, true, true, true, false, false, false, false, false, false, false, false, false, false, false, false, false, false, false, false, false, false, false, false, false, false, false, false, false, false, false, false, false, false, false, false, false, false, false, false, false, false, false, false, false, false, false, false, false, false, false, false, false, false, false, false, false, false, false, false, false, false, false, false, false, false, false, false, false, false, false, false, false, false, false, false, false, false, false, false, false, false, false, false, false, false, false, false, false, false, false, false, false, false, false, false, false, false, false, false, false, false, false, false, false] rfl rfl (any_of HT_.out z12_14) (fun _ _ _ h => h) (Or.inl ⟨by rfl, ?_⟩) ?_ ?_
                      rotate_left
                      ·
                       intro w'
                       go_simp
                       with_reducible rfl
                      rotate_left
                      ·
                       simp only [Act.put, List.setIfInBounds_toArray, List.set_cons_zero, List.set_cons_succ, i64_w, i32_w]
                       rfl
                      refine one_ (i := 6) (N := some 96) #[true, true, true, true, true, true, true, false, false, false, false, false, false, false, false, false, false, false, false, false, false, false, false, false, false, false, false, false, false, false, false, false, false, false, false, false, false, false, false, false, false, false, false, false, false, false, false, false, false, false, false, false, false, false, false, false, false, false, false, false, false, false, false, false, false, false, false, false, false, false, false, false, false, false, false, false, false, false, false, false, false, false, false, false, false, false, false, false, false, false, false, false, false, false, false, false, false, false, false, false, false, false, false, false, false, false, false] rfl rfl (one_of HT_.out z12_14) (by decide) (fun K hK => ?_)
                      refine goes_ Try.func72 z12_14 rfl #[.slice Ao10 t520.length co10, .slice Ao13 t525.length co13] (by rfl) rfl rfl z12_1 ?_
                      with_reducible refine (impl_KnowIn.calls k2 _ _ t520 _ _ t525 true _ ?side1 ?side2 ?side3 ?side4 A36.out).mono ?_
                      (case side1 => repeat (first | exact (Kd.R_reads' HO_4.out).2.2 | (with_reducible refine Kd.C_alloc ?_ _) | (with_reducible refine Kd.C_drewN ?_ _) | (with_reducible refine Kd.C_drew ?_)))
                      (case side2 => exact (Kd.R_reads' HO_4.out).2.1)
                      (case side3 => repeat (first | exact (Kd.R_reads' HO_5.out).2.2 | (with_reducible refine Kd.C_alloc ?_ _) | (with_reducible refine Kd.C_drewN ?_ _) | (with_reducible refine Kd.C_drew ?_)))
                      (case side4 => exact (Kd.R_reads' HO_5.out).2.1)
                      rintro e w' ⟨rfl, ⟨nd, rfl⟩⟩
                      refine ⟨_, rfl, ?_⟩
                      obtain ⟨Ao86, co86, eo86⟩ := Kd.R_slice HO_6.out
                      (first | subst eo86 | (injection eo86 with f1_ f2_ f3_; have f4_ := f1_.symm; have f5_ := f3_.symm; clear f1_ f2_ f3_; subst f4_; subst f5_))
                      refine hK.out _ _ ⟨(blk_cell BK553.out 0).trans rfl, (blk_cell BK553.out 1).trans rfl, (blk_cell BK556.out 0).trans rfl, (blk_cell BK556.out 1).trans rfl⟩ (fun hHeld => ?_)
                      clear hK K
                      refine norm_ (a' := ?_) ?_ ?_
                      rotate_left
                      ·
                       show Act.put _ (some 96) _ = _
                       simp only [Act.put, List.setIfInBounds_toArray, List.set_cons_zero, List.set_cons_succ, i64_w, i32_w]
                       rfl
                      refine pure_ (i := 7) (N := some 97) (v := ?_) (a' := ?_) #[true, true, true, true, true, true, true, true, false, false, false, false, false, false, false, false, false, false, false, false, false, false, false, false, false, false, false, false, false, false, false, false, false, false, false, false, false, false, false, false, false, false, false, false, false, false, false, false, false, false, false, false, false, false, false, false, false, false, false, false, false, false, false, false, false, false, false, false, false, false, false, false, false, false, false, false, false, false, false, false, false, false, false, false, false, false, false, false, false, false, false, false, false, false, false, false, false, false, false, false, false, false, false, false, false, false, false] rfl rfl (any_of HT_.out z12_14) (fun _ _ _ h => h) (Or.inl ⟨by rfl, ?_⟩) ?_ ?_
                      rotate_left
                      ·
                       intro w'
                       go_simp
                       with_reducible rfl
                      rotate_left
                      ·
                       simp only [Act.put, List.setIfInBounds_toArray, List.set_cons_zero, List.set_cons_succ, i64_w, i32_w]
                       rfl
                      refine pure_ (i := 8) (N := some 98) (v := ?_) (a' := ?_) #[true, true, true, true, true, true, true, true, true, false, false, false, false, false, false, false, false, false, false, false, false, false, false, false, false, false, false, false, false, false, false, false, false, false, false, false, false, false, false, false, false, false, false, false, false, false, false, false, false, false, false, false, false, false, false, false, false, false, false, false, false, false, false, false, false, false, false, false, false, false, false, false, false, false, false, false, false, false, false, false, false, false, false, false, false, false, false, false, false, false, false, false, false, false, false, false, false, false, false, false, false, false, false, false, false, false, false] rfl rfl (any_of HT_.out z12_14) (fun _ _ _ h => h) (Or.inl ⟨by rfl, ?_⟩) ?_ ?_
                      rotate_left
                      ·
                       intro w'
                       go_simp
                       with_reducible rfl
                      rotate_left
                      ·
                       simp only [Act.put, List.setIfInBounds_toArray, List.set_cons_zero, List.set_cons_succ, i64_w, i32_w]
                       rfl
                      refine pure_ (i := 9) (N := some 99) (v := ?_) (a' := ?_) #[true, true, true, true, true, true, true, true, true, true, false, false, false, false, false, false, false, false, false, false, false, false, false, false, false, false, false, false, false, false, false, false, false, false, false, false, false, false, false, false, false, false, false, false, false, false, false, false, false, false, false, false, false, false, false, false, false, false, false, false, false, false, false, false, false, false, false, false, false, false, false, false, false, false, false, false, false, false, false, false, false, false, false, false, false, false, false, false, false, false, false, false, false, false, false, false, false, false, false, false, false, false, false, false, false, false, false] rfl rfl (any_of HT_.out z12_14) (fun _ _ _ h => h) (Or.inl ⟨by rfl, ?_⟩) ?_ ?_
                      rotate_left
                      ·
                       intro w'
                       go_simp
                       with_reducible rfl
                      rotate_left
                      ·
                       simp only [Act.put, List.setIfInBounds_toArray, List.set_cons_zero, List.set_cons_succ, i64_w, i32_w]
                       rfl
                      refine pure_ (i := 10) (N := some 100) (v := ?_) (a' := ?_) #[true, true, true, true, true, true, true, true, true, true, true, false, false, false, false, false, false, false, false, false, false, false, false, false, false, false, false, false, false, false, false, false, false, false, false, false, false, false, false, false, false, false, false, false, false, false, false, false, false, false, false, false, false, false, false, false, false, false, false, false, false, false, false, false, false, false, false, false, false, false, false, false, false, false, false, false, false, false, false, false, false, false, false, false, false, false, false, false, false, false, false, false, false, false, false, false, false, false, false, false, false, false, false, false, false, false, false] rfl rfl (any_of HT_.out z12_14) (fun _ _ _ h => h) (Or.inl ⟨by rfl, ?_⟩) ?_ ?_
                      rotate_left
                      ·
                       intro w'
                       go_simp
                       with_reducible rfl
                      rotate_left
                      ·
                       simp only [Act.put, List.setIfInBounds_toArray, List.set_cons_zero, List.set_cons_succ, i64_w, i32_w]
                       rfl
                      refine one_ (i := 11) (N := some 101) #[true, true, true, true, true, true, true, true, true, true, true, true, false, false, false, false, false, false, false, false, false, false, false, false, false, false, false, false, false, false, false, false, false, false, false, false, false, false, false, false, false, false, false, false, false, false, false, false, false, false, false, false, false, false, false, false, false, false, false, false, false, false, false, false, false, false, false, false, false, false, false, false, false, false, false, false, false, false, false, false, false, false, false, false, false, false, false, false, false, false, false, false, false, false, false, false, false, false, false, false, false, false, false, false, false, false, false] rfl rfl (one_of HT_.out z12_14) (by decide) (fun K hK => ?_)
                      refine goes_ Try.func72 z12_14 rfl #[.slice Ao86 t528.length co86, .slice Ao9 t519.length co9] (by rfl) rfl rfl z12_1 ?_
                      with_reducible refine (impl_KnowIn.calls k2 _ _ t528 _ _ t519 true _ ?side1 ?side2 ?side3 ?side4 A38.out).mono ?_
                      (case side1 => repeat (first | exact (Kd.R_reads' HO_6.out).2.2 | (with_reducible refine Kd.C_alloc ?_ _) | (with_reducible refine Kd.C_drewN ?_ _) | (with_reducible refine Kd.C_drew ?_)))
                      (case side2 => exact (Kd.R_reads' HO_6.out).2.1)
                      (case side3 => repeat (first | exact (Kd.R_reads' HO_3.out).2.2 | (with_reducible refine Kd.C_alloc ?_ _) | (with_reducible refine Kd.C_drewN ?_ _) | (with_reducible refine Kd.C_drew ?_)))
                      (case side4 => exact (Kd.R_reads' HO_3.out).2.1)
                      rintro e w' ⟨rfl, ⟨nd, rfl⟩⟩
                      refine ⟨_, rfl, ?_⟩
                      refine hK.out _ _ ⟨(blk_cell BK553.out 0).trans rfl, (blk_cell BK553.out 1).trans rfl, (blk_cell BK556.out 0).trans rfl, (blk_cell BK556.out 1).trans rfl⟩ (fun hHeld => ?_)
                      clear hK K
                      refine norm_ (a' := ?_) ?_ ?_
                      rotate_left
                      ·
                       show Act.put _ (some 101) _ = _
                       simp only [Act.put, List.setIfInBounds_toArray, List.set_cons_zero, List.set_cons_succ, i64_w, i32_w]
                       rfl
                      refine pure_ (i := 12) (N := some 102) (v := ?_) (a' := ?_) #[true, true, true, true, true, true, true, true, true, true, true, true, true, false, false, false, false, false, false, false, false, false, false, false, false, false, false, false, false, false, false, false, false, false, false, false, false, false, false, false, false, false, false, false, false, false, false, false, false, false, false, false, false, false, false, false, false, false, false, false, false, false, false, false, false, false, false, false, false, false, false, false, false, false, false, false, false, false, false, false, false, false, false, false, false, false, false, false, false, false, false, false, false, false, false, false, false, false, false, false, false, false, false, false, false, false, false] rfl rfl (any_of HT_.out z12_14) (fun _ _ _ h => h) (Or.inl ⟨by rfl, ?_⟩) ?_ ?_
                      rotate_left
                      ·
                       intro w'
                       go_simp
                       with_reducible rfl
                      rotate_left
                      ·
                       simp only [Act.put, List.setIfInBounds_toArray, List.set_cons_zero, List.set_cons_succ, i64_w, i32_w]
                       rfl
                      refine pure_ (i := 13) (N := some 103) (v := ?_) (a' := ?_) #[true, true, true, true, true, true, true, true, true, true, true, true, true, true, false, false, false, false, false, false, false, false, false, false, false, false, false, false, false, false, false, false, false, false, false, false, false, false, false, false, false, false, false, false, false, false, false, false, false, false, false, false, false, false, false, false, false, false, false, false, false, false, false, false, false, false, false, false, false, false, false, false, false, false, false, false, false, false, false, false, false, false, false, false, false, false, false, false, false, false, false, false, false, false, false, false, false, false, false, false, false, false, false, false, false, false, false] rfl rfl (any_of HT_.out z12_14) (fun _ _ _ h => h) (Or.inl ⟨by rfl, ?_⟩) ?_ ?_
                      rotate_left
                      ·
                       intro w'
                       go_simp
                       with_reducible rfl
                      rotate_left
                      ·
                       simp only [Act.put, List.setIfInBounds_toArray, List.set_cons_zero, List.set_cons_succ, i64_w, i32_w]
                       rfl
                      refine pure_ (i := 14) (N := some 104) (v := ?_) (a' := ?_) #[true, true, true, true, true, true, true, true, true, true, true, true, true, true, true, false, false, false, false, false, false, false, false, false, false, false, false, false, false, false, false, false, false, false, false, false, false, false, false, false, false, false, false, false, false, false, false, false, false, false, false, false, false, false, false, false, false, false, false, false, false, false, false, false, false, false, false, false, false, false, false, false, false, false, false, false, false, false, false, false, false, false, false, false, false, false, false, false, false, false, false, false, false, false, false, false, false, false, false, false, false, false, false, false, false, false, false] rfl rfl (any_of HT_.out z12_14) (fun _ _ _ h => h) (Or.inl ⟨by rfl, ?_⟩) ?_ ?_
                      rotate_left
                      ·
                       intro w'
                       go_simp
                       with_reducible rfl
                      rotate_left
                      ·
                       simp only [Act.put, List.setIfInBounds_toArray, List.set_cons_zero, List.set_cons_succ, i64_w, i32_w]
                       rfl
                      refine pure_ (i := 15) (N := some 105) (v := ?_) (a' := ?_) #[true, true, true, true, true, true, true, true, true, true, true, true, true, true, true, true, false, false, false, false, false, false, false, false, false, false, false, false, false, false, false, false, false, false, false, false, false, false, false, false, false, false, false, false, false, false, false, false, false, false, false, false, false, false, false, false, false, false, false, false, false, false, false, false, false, false, false, false, false, false, false, false, false, false, false, false, false, false, false, false, false, false, false, false, false, false, false, false, false, false, false, false, false, false, false, false, false, false, false, false, false, false, false, false, false, false, false] rfl rfl (any_of HT_.out z12_14) (fun _ _ _ h => h) (Or.inl ⟨by rfl, ?_⟩) ?_ ?_
                      rotate_left
                      ·
                       intro w'
                       go_simp
                       with_reducible rfl
                      rotate_left
                      ·
                       simp only [Act.put, List.setIfInBounds_toArray, List.set_cons_zero, List.set_cons_succ, i64_w, i32_w]
                       rfl
                      refine one_ (i := 16) (N := some 106) #[true, true, true, true, true, true, true, true, true, true, true, true, true, true, true, true, true, false, false, false, false, false, false, false, false, false, false, false, false, false, false, false, false, false, false, false, false, false, false, false, false, false, false, false, false, false, false, false, false, false, false, false, false, false, false, false, false, false, false, false, false, false, false, false, false, false, false, false, false, false, false, false, false, false, false, false, false, false, false, false, false, false, false, false, false, false, false, false, false, false, false, false, false, false, false, false, false, false, false, false, false, false, false, false, false, false, false] rfl rfl (one_of HT_.out z12_14) (by decide) (fun K hK => ?_)
                      refine goes_ Try.func72 z12_14 rfl #[.slice Ao86 t528.length co86, .slice Ao10 t520.length co10] (by rfl) rfl rfl z12_1 ?_
                      with_reducible refine (impl_KnowIn.calls k2 _ _ t528 _ _ t520 true _ ?side1 ?side2 ?side3 ?side4 A40.out).mono ?_
                      (case side1 => repeat (first | exact (Kd.R_reads' HO_6.out).2.2 | (with_reducible refine Kd.C_alloc ?_ _) | (with_reducible refine Kd.C_drewN ?_ _) | (with_reducible refine Kd.C_drew ?_)))
                      (case side2 => exact (Kd.R_reads' HO_6.out).2.1)
                      (case side3 => repeat (first | exact (Kd.R_reads' HO_4.out).2.2 | (with_reducible refine Kd.C_alloc ?_ _) | (with_reducible refine Kd.C_drewN ?_ _) | (with_reducible refine Kd.C_drew ?_)))
                      (case side4 => exact (Kd.R_reads' HO_4.out).2.1)
                      rintro e w' ⟨rfl, ⟨nd, rfl⟩⟩
                      refine ⟨_, rfl, ?_⟩
                      refine hK.out _ _ ⟨(blk_cell BK553.out 0).trans rfl, (blk_cell BK553.out 1).trans rfl, (blk_cell BK556.out 0).trans rfl, (blk_cell BK556.out 1).trans rfl⟩ (fun hHeld => ?_)
                      clear hK K
                      refine norm_ (a' := ?_) ?_ ?_
                      rotate_left
                      ·
                       show Act.put _ (some 106) _ = _
                       simp only [Act.put, List.setIfInBounds_toArray, List.set_cons_zero, List.set_cons_succ, i64_w, i32_w]
                       rfl
                      refine pure_ (i := 17) (N := some 107) (v := ?_) (a' := ?_) #[true, true, true, true, true, true, true, true, true, true, true, true, true, true, true, true, true, true, false, false, false, false, false, false, false, false, false, false, false, false, false, false, false, false, false, false, false, false, false, false, false, false, false, false, false, false, false, false, false, false, false, false, false, false, false, false, false, false, false, false, false, false, false, false, false, false, false, false, false, false, false, false, false, false, false, false, false, false, false, false, false, false, false, false, false, false, false, false, false, false, false, false, false, false, false, false, false, false, false, false, false, false, false, false, false, false, false] rfl rfl (any_of HT_.out z12_14) (fun _ _ _ h => h) (Or.inl ⟨by rfl, ?_⟩) ?_ ?_
                      rotate_left
                      ·
                       intro w'
                       go_simp
                       with_reducible rfl
                      rotate_left
                      ·
                       simp only [Act.put, List.setIfInBounds_toArray, List.set_cons_zero, List.set_cons_succ, i64_w, i32_w]
                       rfl
                      refine pure_ (i := 18) (N := some 108) (v := ?_) (a' := ?_) #[true, true, true, true, true, true, true, true, true, true, true, true, true, true, true, true, true, true, true, false, false, false, false, false, false, false, false, false, false, false, false, false, false, false, false, false, false, false, false, false, false, false, false, false, false, false, false, false, false, false, false, false, false, false, false, false, false, false, false, false, false, false, false, false, false, false, false, false, false, false, false, false, false, false, false, false, false, false, false, false, false, false, false, false, false, false, false, false, false, false, false, false, false, false, false, false, false, false, false, false, false, false, false, false, false, false, false] rfl rfl (any_of HT_.out z12_14) (fun _ _ _ h => h) (Or.inl ⟨by rfl, ?_⟩) ?_ ?_
                      rotate_left
                      ·
                       intro w'
                       go_simp
                       with_reducible rfl
                      rotate_left
                      ·
                       simp only [Act.put, List.setIfInBounds_toArray, List.set_cons_zero, List.set_cons_succ, i64_w, i32_w]
                       rfl
                      refine pure_ (i := 19) (N := some 109) (v := ?_) (a' := ?_) #[true, true, true, true, true, true, true, true, true, true, true, true, true, true, true, true, true, true, true, true, false, false, false, false, false, false, false, false, false, false, false, false, false, false, false, false, false, false, false, false, false, false, false, false, false, false, false, false, false, false, false, false, false, false, false, false, false, false, false, false, false, false, false, false, false, false, false, false, false, false, false, false, false, false, false, false, false, false, false, false, false, false, false, false, false, false, false, false, false, false, false, false, false, false, false, false, false, false, false, false, false, false, false, false, false, false, false] rfl rfl (any_of HT_.out z12_14) (fun _ _ _ h => h) (Or.inl ⟨by rfl, ?_⟩) ?_ ?_
                      rotate_left
                      ·
                       intro w'
                       go_simp
                       with_reducible rfl
                      rotate_left
                      ·
                       simp only [Act.put, List.setIfInBounds_toArray, List.set_cons_zero, List.set_cons_succ, i64_w, i32_w]
                       rfl
                      refine pure_ (i := 20) (N := some 110) (v := ?_) (a' := ?_) #[true, true, true, true, true, true, true, true, true, true, true, true, true, true, true, true, true, true, true, true, true, false, false, false, false, false, false, false, false, false, false, false, false, false, false, false, false, false, false, false, false, false, false, false, false, false, false, false, false, false, false, false, false, false, false, false, false, false, false, false, false, false, false, false, false, false, false, false, false, false, false, false, false, false, false, false, false, false, false, false, false, false, false, false, false, false, false, false, false, false, false, false, false, false, false, false, false, false, false, false, false, false, false, false, false, false, false] rfl rfl (any_of HT_.out z12_14) (fun _ _ _ h => h) (Or.inl ⟨by rfl, ?_⟩) ?_ ?_
                      rotate_left
                      ·
                       intro w'
                       go_simp
                       with_reducible rfl
                      rotate_left
                      ·
                       simp only [Act.put, List.setIfInBounds_toArray, List.set_cons_zero, List.set_cons_succ, i64_w, i32_w]
                       rfl
                      refine pure_ (i := 22) (N := some 112) (v := ?_) (a' := ?_) #[true, true, true, true, true, true, true, true, true, true, true, true, true, true, true, true, true, true, true, true, true, false, true, false, false, false, false, false, false, false, false, false, false, false, false, false, false, false, false, false, false, false, false, false, false, false, false, false, false, false, false, false, false, false, false, false, false, false, false, false, false, false, false, false, false, false, false, false, false, false, false, false, false, false, false, false, false, false, false, false, false, false, false, false, false, false, false, false, false, false, false, false, false, false, false, false, false, false, false, false, false, false, false, false, false, false, false] rfl rfl (any_of HT_.out z12_14) (fun _ _ _ h => h) (Or.inl ⟨by rfl, ?_⟩) ?_ ?_
                      rotate_left
                      ·
                       intro w'
                       go_simp
                       with_reducible rfl
                      rotate_left
                      ·
                       simp only [Act.put, List.setIfInBounds_toArray, List.set_cons_zero, List.set_cons_succ, i64_w, i32_w]
                       rfl
                      refine one_ (i := 21) (N := some 111) #[true, true, true, true, true, true, true, true, true, true, true, true, true, true, true, true, true, true, true, true, true, true, true, false, false, false, false, false, false, false, false, false, false, false, false, false, false, false, false, false, false, false, false, false, false, false, false, false, false, false, false, false, false, false, false, false, false, false, false, false, false, false, false, false, false, false, false, false, false, false, false, false, false, false, false, false, false, false, false, false, false, false, false, false, false, false, false, false, false, false, false, false, false, false, false, false, false, false, false, false, false, false, false, false, false, false, false] rfl rfl (one_of HT_.out z12_14) (by decide) (fun K hK => ?_)
                      refine goes_ Try.func64 z12_14 rfl #[.slice Ao10 t520.length co10, .slice Ao9 t519.length co9] (by rfl) rfl rfl z12_1 ?_
                      with_reducible refine (impl_KnowMax.calls k2 _ _ t520 _ _ t519 t561 _ ?side1 ?side2 ?side3 ?side4 A42.out).mono ?_
                      (case side1 => repeat (first | exact (Kd.R_reads' HO_4.out).2.2 | (with_reducible refine Kd.C_alloc ?_ _) | (with_reducible refine Kd.C_drewN ?_ _) | (with_reducible refine Kd.C_drew ?_)))
                      (case side2 => exact (Kd.R_reads' HO_4.out).2.1)
                      (case side3 => repeat (first | exact (Kd.R_reads' HO_3.out).2.2 | (with_reducible refine Kd.C_alloc ?_ _) | (with_reducible refine Kd.C_drewN ?_ _) | (with_reducible refine Kd.C_drew ?_)))
                      (case side4 => exact (Kd.R_reads' HO_3.out).2.1)
                      rintro e w87 ⟨v562, rfl, ho0, hb⟩
                      refine ⟨_, rfl, ?_⟩
                      have n0_ := Aside0.mk (Kd.R_elder' z12_5 (Kd.R_base ho0) hb)
                      have n1_ := Aside0.mk (Kd.R_elder' z12_4 (Kd.R_base ho0) hb)
                      have n2_ := Aside0.mk (Kd.R_elder' z12_3 (Kd.R_base ho0) hb)
                      have n3_ := Aside0.mk (Kd.R_elder' z12_2 (Kd.R_base ho0) hb)
                      have n4_ := Aside0.mk (Kd.R_below z12_7 hb)
                      have n5_ := Aside0.mk (Kd.R_elder' z12_9 (Kd.R_base ho0) hb)
                      have n6_ := Aside0.mk (Kd.R_elder' z12_8 (Kd.R_base ho0) hb)
                      have n7_ := Aside0.mk (Kd.R_elder' z12_11 (Kd.R_base ho0) hb)
                      have n8_ := Aside0.mk (Kd.R_lower (Kd.R_new' (Kd.R_new' (Kd.R_new' (Kd.R_new' (Kd.R_new' (Kd.R_new' (Kd.R_new' ho0 (Kd.R_lt z12_5)) (Kd.R_lt z12_4)) (Kd.R_lt z12_3)) (Kd.R_lt z12_2)) (Kd.R_lt z12_9)) (Kd.R_lt z12_8)) (Kd.R_lt z12_11)) (below_size z12_0))
                      have n9_ := Aside0.mk (blk_below (g := gb553) (o := .cells #[.int .i64 t551, .int .i64 t552] 29 (0, 0)) z12_10 hb)
                      have n10_ := Aside0.mk (blk_below (g := gb556) (o := .cells #[.int .i64 t554, .int .i64 t555] 29 (0, 0)) z12_12 hb)
                      have n11_ := Aside0.mk (below_step z12_0 hb)
                      clear HO_3
                      clear HO_4
                      clear HO_5
                      clear HO_6
                      clear HO_7
                      clear HO545
                      clear HO547
                      clear HO550
                      clear BK553
                      clear BK556
                      clear HB
                      have HO_3 := n0_
                      have HO_4 := n1_
                      have HO_5 := n2_
                      have HO_6 := n3_
                      have HO_7 := n4_
                      have HO545 := n5_
                      have HO547 := n6_
                      have HO550 := n7_
                      have HO563 := n8_
                      have BK553 := n9_
                      have BK556 := n10_
                      have HB := n11_
                      clear n0_ n1_ n2_ n3_ n4_ n5_ n6_ n7_ n8_ n9_ n10_ n11_
                      (try clear hb)
                      (try clear hb2)
                      (try clear hk)
                      (try clear hi)
                      (try clear ho0)
                      obtain ⟨Ao88, co88, eo88⟩ := Kd.R_slice HO563.out
                      (first | subst eo88 | (injection eo88 with f1_ f2_ f3_; have f4_ := f1_.symm; have f5_ := f3_.symm; clear f1_ f2_ f3_; subst f4_; subst f5_))
                      refine hK.out _ _ ⟨(blk_cell BK553.out 0).trans rfl, (blk_cell BK553.out 1).trans rfl, (blk_cell BK556.out 0).trans rfl, (blk_cell BK556.out 1).trans rfl⟩ (fun hHeld => ?_)
                      clear hK K
                      refine norm_ (a' := ?_) ?_ ?_
                      rotate_left
                      ·
                       show Act.put _ (some 111) _ = _
                       simp only [Act.put, List.setIfInBounds_toArray, List.set_cons_zero, List.set_cons_succ, i64_w, i32_w]
                       rfl
                      refine one_ (i := 23) (N := some 113) #[true, true, true, true, true, true, true, true, true, true, true, true, true, true, true, true, true, true, true, true, true, true, true, true, false, false, false, false, false, false, false, false, false, false, false, false, false, false, false, false, false, false, false, false, false, false, false, false, false, false, false, false, false, false, false, false, false, false, false, false, false, false, false, false, false, false, false, false, false, false, false, false, false, false, false, false, false, false, false, false, false, false, false, false, false, false, false, false, false, false, false, false, false, false, false, false, false, false, false, false, false, false, false, false, false, false, false] rfl rfl (one_of HT_.out z12_14) (by decide) (fun K hK => ?_)
                      refine goes_ Try.func73 z12_14 rfl #[.slice Ao88 t561.length co88, .slice Ao13 t525.length co13] (by rfl) rfl rfl z12_1 ?_
                      with_reducible refine (laws_sameInts.calls k2 _ _ t561 _ _ t525 true _ ?side1 ?side2 ?side3 ?side4 A43.out).mono ?_
                      (case side1 => repeat (first | exact (Kd.R_reads' HO563.out).2.2 | (with_reducible refine Kd.C_alloc ?_ _) | (with_reducible refine Kd.C_drewN ?_ _) | (with_reducible refine Kd.C_drew ?_)))
                      (case side2 => exact (Kd.R_reads' HO563.out).2.1)
                      (case side3 => repeat (first | exact (Kd.R_reads' HO_5.out).2.2 | (with_reducible refine Kd.C_alloc ?_ _) | (with_reducible refine Kd.C_drewN ?_ _) | (with_reducible refine Kd.C_drew ?_)))
                      (case side4 => exact (Kd.R_reads' HO_5.out).2.1)
                      rintro e w' ⟨rfl, ⟨nd, rfl⟩⟩
                      refine ⟨_, rfl, ?_⟩
                      refine hK.out _ _ ⟨(blk_cell BK553.out 0).trans rfl, (blk_cell BK553.out 1).trans rfl, (blk_cell BK556.out 0).trans rfl, (blk_cell BK556.out 1).trans rfl⟩ (fun hHeld => ?_)
                      clear hK K
                      refine norm_ (a' := ?_) ?_ ?_
                      rotate_left
                      ·
                       show Act.put _ (some 113) _ = _
                       simp only [Act.put, List.setIfInBounds_toArray, List.set_cons_zero, List.set_cons_succ, i64_w, i32_w]
                       rfl
                      refine pure_ (i := 24) (N := some 114) (v := ?_) (a' := ?_) #[true, true, true, true, true, true, true, true, true, true, true, true, true, true, true, true, true, true, true, true, true, true, true, true, true, false, false, false, false, false, false, false, false, false, false, false, false, false, false, false, false, false, false, false, false, false, false, false, false, false, false, false, false, false, false, false, false, false, false, false, false, false, false, false, false, false, false, false, false, false, false, false, false, false, false, false, false, false, false, false, false, false, false, false, false, false, false, false, false, false, false, false, false, false, false, false, false, false, false, false, false, false, false, false, false, false, false] rfl rfl (any_of HT_.out z12_14) (fun _ _ _ h => h) (Or.inl ⟨by rfl, ?_⟩) ?_ ?_
                      rotate_left
                      ·
                       intro w'
                       go_simp
                       with_reducible rfl
                      rotate_left
                      ·
                       simp only [Act.put, List.setIfInBounds_toArray, List.set_cons_zero, List.set_cons_succ, i64_w, i32_w]
                       rfl
                      refine pure_ (i := 25) (N := some 115) (v := ?_) (a' := ?_) #[true, true, true, true, true, true, true, true, true, true, true, true, true, true, true, true, true, true, true, true, true, true, true, true, true, true, false, false, false, false, false, false, false, false, false, false, false, false, false, false, false, false, false, false, false, false, false, false, false, false, false, false, false, false, false, false, false, false, false, false, false, false, false, false, false, false, false, false, false, false, false, false, false, false, false, false, false, false, false, false, false, false, false, false, false, false, false, false, false, false, false, false, false, false, false, false, false, false, false, false, false, false, false, false, false, false, false] rfl rfl (any_of HT_.out z12_14) (fun _ _ _ h => h) (Or.inl ⟨by rfl, ?_⟩) ?_ ?_
                      rotate_left
                      ·
                       intro w'
                       go_simp
                       with_reducible rfl
                      rotate_left
                      ·
                       simp only [Act.put, List.setIfInBounds_toArray, List.set_cons_zero, List.set_cons_succ, i64_w, i32_w]
                       rfl
                      refine pure_ (i := 26) (N := some 116) (v := ?_) (a' := ?_) #[true, true, true, true, true, true, true, true, true, true, true, true, true, true, true, true, true, true, true, true, true, true, true, true, true, true, true, false, false, false, false, false, false, false, false, false, false, false, false, false, false, false, false, false, false, false, false, false, false, false, false, false, false, false, false, false, false, false, false, false, false, false, false, false, false, false, false, false, false, false, false, false, false, false, false, false, false, false, false, false, false, false, false, false, false, false, false, false, false, false, false, false, false, false, false, false, false, false, false, false, false, false, false, false, false, false, false] rfl rfl (any_of HT_.out z12_14) (fun _ _ _ h => h) (Or.inl ⟨by rfl, ?_⟩) ?_ ?_
                      rotate_left
                      ·
                       intro w'
                       go_simp
                       with_reducible rfl
                      rotate_left
                      ·
                       simp only [Act.put, List.setIfInBounds_toArray, List.set_cons_zero, List.set_cons_succ, i64_w, i32_w]
                       rfl
                      refine pure_ (i := 27) (N := some 117) (v := ?_) (a' := ?_) #[true, true, true, true, true, true, true, true, true, true, true, true, true, true, true, true, true, true, true, true, true, true, true, true, true, true, true, true, false, false, false, false, false, false, false, false, false, false, false, false, false, false, false, false, false, false, false, false, false, false, false, false, false, false, false, false, false, false, false, false, false, false, false, false, false, false, false, false, false, false, false, false, false, false, false, false, false, false, false, false, false, false, false, false, false, false, false, false, false, false, false, false, false, false, false, false, false, false, false, false, false, false, false, false, false, false, false] rfl rfl (any_of HT_.out z12_14) (fun _ _ _ h => h) (Or.inl ⟨by rfl, ?_⟩) ?_ ?_
                      rotate_left
                      ·
                       intro w'
                       go_simp
                       with_reducible rfl
                      rotate_left
                      ·
                       simp only [Act.put, List.setIfInBounds_toArray, List.set_cons_zero, List.set_cons_succ, i64_w, i32_w]
                       rfl
                      refine pure_ (i := 28) (N := some 118) (v := ?_) (a' := ?_) #[true, true, true, true, true, true, true, true, true, true, true, true, true, true, true, true, true, true, true, true, true, true, true, true, true, true, true, true, true, false, false, false, false, false, false, false, false, false, false, false, false, false, false, false, false, false, false, false, false, false, false, false, false, false, false, false, false, false, false, false, false, false, false, false, false, false, false, false, false, false, false, false, false, false, false, false, false, false, false, false, false, false, false, false, false, false, false, false, false, false, false, false, false, false, false, false, false, false, false, false, false, false, false, false, false, false, false] rfl rfl (any_of HT_.out z12_14) (fun _ _ _ h => h) (Or.inl ⟨by rfl, ?_⟩) ?_ ?_
                      rotate_left
                      ·
                       intro w'
                       go_simp
                       with_reducible rfl
                      rotate_left
                      ·
                       simp only [Act.put, List.setIfInBounds_toArray, List.set_cons_zero, List.set_cons_succ, i64_w, i32_w]
                       rfl
                      refine pure_ (i := 29) (N := some 119) (v := ?_) (a' := ?_) #[true, true, true, true, true, true, true, true, true, true, true, true, true, true, true, true, true, true, true, true, true, true, true, true, true, true, true, true, true, true, false, false, false, false, false, false, false, false, false, false, false, false, false, false, false, false, false, false, false, false, false, false, false, false, false, false, false, false, false, false, false, false, false, false, false, false, false, false, false, false, false, false, false, false, false, false, false, false, false, false, false, false, false, false, false, false, false, false, false, false, false, false, false, false, false, false, false, false, false, false, false, false, false, false, false, false, false] rfl rfl (any_of HT_.out z12_14) (fun _ _ _ h => h) (Or.inl ⟨by rfl, ?_⟩) ?_ ?_
                      rotate_left
                      ·
                       intro w'
                       go_simp
                       with_reducible rfl
                      rotate_left
                      ·
                       simp only [Act.put, List.setIfInBounds_toArray, List.set_cons_zero, List.set_cons_succ, i64_w, i32_w]
                       rfl
                      refine pure_ (i := 30) (N := some 120) (v := ?_) (a' := ?_) #[true, true, true, true, true, true, true, true, true, true, true, true, true, true, true, true, true, true, true, true, true, true, true, true, true, true, true, true, true, true, true, false, false, false, false, false, false, false, false, false, false, false, false, false, false, false, false, false, false, false, false, false, false, false, false, false, false, false, false, false, false, false, false, false, false, false, false, false, false, false, false, false, false, false, false, false, false, false, false, false, false, false, false, false, false, false, false, false, false, false, false, false, false, false, false, false, false, false, false, false, false, false, false, false, false, false, false] rfl rfl (any_of HT_.out z12_14) (fun _ _ _ h => h) (Or.inl ⟨by rfl, ?_⟩) ?_ ?_
                      rotate_left
                      ·
                       intro w'
                       go_simp
                       with_reducible rfl
                      rotate_left
                      ·
                       simp only [Act.put, List.setIfInBounds_toArray, List.set_cons_zero, List.set_cons_succ, i64_w, i32_w]
                       rfl
                      refine pure_ (i := 31) (N := some 121) (v := ?_) (a' := ?_) #[true, true, true, true, true, true, true, true, true, true, true, true, true, true, true, true, true, true, true, true, true, true, true, true, true, true, true, true, true, true, true, true, false, false, false, false, false, false, false, false, false, false, false, false, false, false, false, false, false, false, false, false, false, false, false, false, false, false, false, false, false, false, false, false, false, false, false, false, false, false, false, false, false, false, false, false, false, false, false, false, false, false, false, false, false, false, false, false, false, false, false, false, false, false, false, false, false, false, false, false, false, false, false, false, false, false, false] rfl rfl (any_of HT_.out z12_14) (fun _ _ _ h => h) (Or.inl ⟨by rfl, ?_⟩) ?_ ?_
                      rotate_left
                      ·
                       intro w'
                       go_simp
                       with_reducible rfl
                      rotate_left
                      ·
                       simp only [Act.put, List.setIfInBounds_toArray, List.set_cons_zero, List.set_cons_succ, i64_w, i32_w]
                       rfl
                      refine pure_ (i := 32) (N := some 122) (v := ?_) (a' := ?_) #[true, true, true, true, true, true, true, true, true, true, true, true, true, true, true, true, true, true, true, true, true, true, true, true, true, true, true, true, true, true, true, true, true, false, false, false, false, false, false, false, false, false, false, false, false, false, false, false, false, false, false, false, false, false, false, false, false, false, false, false, false, false, false, false, false, false, false, false, false, false, false, false, false, false, false, false, false, false, false, false, false, false, false, false, false, false, false, false, false, false, false, false, false, false, false, false, false, false, false, false, false, false, false, false, false, false, false] rfl rfl (any_of HT_.out z12_14) (fun _ _ _ h => h) (Or.inl ⟨by rfl, ?_⟩) ?_ ?_
                      rotate_left
                      ·
                       intro w'
                       go_simp
                       with_reducible rfl
                      rotate_left
                      ·
                       simp only [Act.put, List.setIfInBounds_toArray, List.set_cons_zero, List.set_cons_succ, i64_w, i32_w]
                       rfl
                      refine pure_ (i := 33) (N := some 123) (v := ?_) (a' := ?_) #[true, true, true, true, true, true, true, true, true, true, true, true, true, true, true, true, true, true, true, true, true, true, true, true, true, true, true, true, true, true, true, true, true, true, false, false, false, false, false, false, false, false, false, false, false, false, false, false, false, false, false, false, false, false, false, false, false, false, false, false, false, false, false, false, false, false, false, false, false, false, false, false, false, false, false, false, false, false, false, false, false, false, false, false, false, false, false, false, false, false, false, false, false, false, false, false, false, false, false, false, false, false, false, false, false, false, false] rfl rfl (any_of HT_.out z12_14) (fun _ _ _ h => h) (Or.inl ⟨by rfl, ?_⟩) ?_ ?_
                      rotate_left
                      ·
                       intro w'
                       go_simp
                       with_reducible rfl
                      rotate_left
                      ·
                       simp only [Act.put, List.setIfInBounds_toArray, List.set_cons_zero, List.set_cons_succ, i64_w, i32_w]
                       rfl
                      refine pure_ (i := 35) (N := some 125) (v := ?_) (a' := ?_) #[true, true, true, true, true, true, true, true, true, true, true, true, true, true, true, true, true, true, true, true, true, true, true, true, true, true, true, true, true, true, true, true, true, true, false, true, false, false, false, false, false, false, false, false, false, false, false, false, false, false, false, false, false, false, false, false, false, false, false, false, false, false, false, false, false, false, false, false, false, false, false, false, false, false, false, false, false, false, false, false, false, false, false, false, false, false, false, false, false, false, false, false, false, false, false, false, false, false, false, false, false, false, false, false, false, false, false] rfl rfl (any_of HT_.out z12_14) (fun _ _ _ h => h) (Or.inl ⟨by rfl, ?_⟩) ?_ ?_
                      rotate_left
                      ·
                       intro w'
                       go_simp
                       with_reducible rfl
                      rotate_left
                      ·
                       simp only [Act.put, List.setIfInBounds_toArray, List.set_cons_zero, List.set_cons_succ, i64_w, i32_w]
                       rfl
                      refine pure_ (i := 36) (N := some 126) (v := ?_) (a' := ?_) #[true, true, true, true, true, true, true, true, true, true, true, true, true, true, true, true, true, true, true, true, true, true, true, true, true, true, true, true, true, true, true, true, true, true, false, true, true, false, false, false, false, false, false, false, false, false, false, false, false, false, false, false, false, false, false, false, false, false, false, false, false, false, false, false, false, false, false, false, false, false, false, false, false, false, false, false, false, false, false, false, false, false, false, false, false, false, false, false, false, false, false, false, false, false, false, false, false, false, false, false, false, false, false, false, false, false, false] rfl rfl (any_of HT_.out z12_14) (fun _ _ _ h => h) (Or.inl ⟨by rfl, ?_⟩) ?_ ?_
                      rotate_left
                      ·
                       intro w'
                       go_simp
                       with_reducible rfl
                      rotate_left
                      ·
                       simp only [Act.put, List.setIfInBounds_toArray, List.set_cons_zero, List.set_cons_succ, i64_w, i32_w]
                       rfl
                      refine one_ (i := 34) (N := some 124) #[true, true, true, true, true, true, true, true, true, true, true, true, true, true, true, true, true, true, true, true, true, true, true, true, true, true, true, true, true, true, true, true, true, true, true, true, true, false, false, false, false, false, false, false, false, false, false, false, false, false, false, false, false, false, false, false, false, false, false, false, false, false, false, false, false, false, false, false, false, false, false, false, false, false, false, false, false, false, false, false, false, false, false, false, false, false, false, false, false, false, false, false, false, false, false, false, false, false, false, false, false, false, false, false, false, false, false] rfl rfl (one_of HT_.out z12_14) (by decide) (fun K hK => ?_)
                      refine goes_ Try.func72 z12_14 rfl #[.slice Ao9 t519.length co9, .slice Ao10 t520.length co10] (by rfl) rfl rfl z12_1 ?_
                      with_reducible refine (impl_KnowIn.calls k2 _ _ t519 _ _ t520 t565 _ ?side1 ?side2 ?side3 ?side4 A46.out).mono ?_
                      (case side1 => repeat (first | exact (Kd.R_reads' HO_3.out).2.2 | (with_reducible refine Kd.C_alloc ?_ _) | (with_reducible refine Kd.C_drewN ?_ _) | (with_reducible refine Kd.C_drew ?_)))
                      (case side2 => exact (Kd.R_reads' HO_3.out).2.1)
                      (case side3 => repeat (first | exact (Kd.R_reads' HO_4.out).2.2 | (with_reducible refine Kd.C_alloc ?_ _) | (with_reducible refine Kd.C_drewN ?_ _) | (with_reducible refine Kd.C_drew ?_)))
                      (case side4 => exact (Kd.R_reads' HO_4.out).2.1)
                      rintro e w' ⟨rfl, ⟨nd, rfl⟩⟩
                      refine ⟨_, rfl, ?_⟩
                      refine hK.out _ _ ⟨(blk_cell BK553.out 0).trans rfl, (blk_cell BK553.out 1).trans rfl, (blk_cell BK556.out 0).trans rfl, (blk_cell BK556.out 1).trans rfl⟩ (fun hHeld => ?_)
                      clear hK K
                      refine norm_ (a' := ?_) ?_ ?_
                      rotate_left
                      ·
                       show Act.put _ (some 124) _ = _
                       simp only [Act.put, List.setIfInBounds_toArray, List.set_cons_zero, List.set_cons_succ, i64_w, i32_w]
                       rfl
                      refine one_ (i := 37) (N := some 127) #[true, true, true, true, true, true, true, true, true, true, true, true, true, true, true, true, true, true, true, true, true, true, true, true, true, true, true, true, true, true, true, true, true, true, true, true, true, true, false, false, false, false, false, false, false, false, false, false, false, false, false, false, false, false, false, false, false, false, false, false, false, false, false, false, false, false, false, false, false, false, false, false, false, false, false, false, false, false, false, false, false, false, false, false, false, false, false, false, false, false, false, false, false, false, false, false, false, false, false, false, false, false, false, false, false, false, false] rfl rfl (one_of HT_.out z12_14) (by decide) (fun K hK => ?_)
                      refine goes_ Try.func66 z12_14 rfl #[.slice Ao10 t520.length co10, .slice Ao9 t519.length co9] (by rfl) rfl rfl z12_1 ?_
                      with_reducible refine (impl_DotsIn.calls k2 _ _ t520 _ _ t519 t566 _ ?side1 ?side2 ?side3 ?side4 A47.out).mono ?_
                      (case side1 => repeat (first | exact (Kd.R_reads' HO_4.out).2.2 | (with_reducible refine Kd.C_alloc ?_ _) | (with_reducible refine Kd.C_drewN ?_ _) | (with_reducible refine Kd.C_drew ?_)))
                      (case side2 => exact (Kd.R_reads' HO_4.out).2.1)
                      (case side3 => repeat (first | exact (Kd.R_reads' HO_3.out).2.2 | (with_reducible refine Kd.C_alloc ?_ _) | (with_reducible refine Kd.C_drewN ?_ _) | (with_reducible refine Kd.C_drew ?_)))
                      (case side4 => exact (Kd.R_reads' HO_3.out).2.1)
                      rintro e w89 ⟨v567, rfl, ho0, hb⟩
                      refine ⟨_, rfl, ?_⟩
                      have n0_ := Aside0.mk (Kd.R_below z12_5 hb)
                      have n1_ := Aside0.mk (Kd.R_below z12_4 hb)
                      have n2_ := Aside0.mk (Kd.R_below z12_3 hb)
                      have n3_ := Aside0.mk (Kd.R_below z12_2 hb)
                      have n4_ := Aside0.mk (Kd.R_elder' z12_7 (Kd.R_base ho0) hb)
                      have n5_ := Aside0.mk (Kd.R_below z12_9 hb)
                      have n6_ := Aside0.mk (Kd.R_below z12_8 hb)
                      have n7_ := Aside0.mk (Kd.R_below z12_11 hb)
                      have n8_ := Aside0.mk (Kd.R_below z12_13 hb)
                      have n9_ := Aside0.mk (Kd.R_lower (Kd.R_newB (Kd.R_newB (Kd.R_new' ho0 (Kd.R_lt z12_7)) (g := gb553) (o := .cells #[.int .i64 t551, .int .i64 t552] 29 (0, 0)) z12_10) (g := gb556) (o := .cells #[.int .i64 t554, .int .i64 t555] 29 (0, 0)) z12_12) (below_size z12_0))
                      have n10_ := Aside0.mk (blk_below (g := gb553) (o := .cells #[.int .i64 t551, .int .i64 t552] 29 (0, 0)) z12_10 hb)
                      have n11_ := Aside0.mk (blk_below (g := gb556) (o := .cells #[.int .i64 t554, .int .i64 t555] 29 (0, 0)) z12_12 hb)
                      have n12_ := Aside0.mk (below_step z12_0 hb)
                      clear HO_3
                      clear HO_4
                      clear HO_5
                      clear HO_6
                      clear HO_7
                      clear HO545
                      clear HO547
                      clear HO550
                      clear HO563
                      clear BK553
                      clear BK556
                      clear HB
                      have HO_3 := n0_
                      have HO_4 := n1_
                      have HO_5 := n2_
                      have HO_6 := n3_
                      have HO_7 := n4_
                      have HO545 := n5_
                      have HO547 := n6_
                      have HO550 := n7_
                      have HO563 := n8_
                      have HO568 := n9_
                      have BK553 := n10_
                      have BK556 := n11_
                      have HB := n12_
                      clear n0_ n1_ n2_ n3_ n4_ n5_ n6_ n7_ n8_ n9_ n10_ n11_ n12_
                      (try clear hb)
                      (try clear hb2)
                      (try clear hk)
                      (try clear hi)
                      (try clear ho0)
                      obtain ⟨Ao90, co90, eo90⟩ := Kd.R_slice HO568.out
                      (first | subst eo90 | (injection eo90 with f1_ f2_ f3_; have f4_ := f1_.symm; have f5_ := f3_.symm; clear f1_ f2_ f3_; subst f4_; subst f5_))
                      obtain ⟨Ao91, co91, eo91⟩ := Kd.R_slice HO545.out
                      (first | subst eo91 | (injection eo91 with f1_ f2_ f3_; have f4_ := f1_.symm; have f5_ := f3_.symm; clear f1_ f2_ f3_; subst f4_; subst f5_))
                      obtain ⟨Ao92, co92, eo92⟩ := Kd.R_slice HO547.out
                      (first | subst eo92 | (injection eo92 with f1_ f2_ f3_; have f4_ := f1_.symm; have f5_ := f3_.symm; clear f1_ f2_ f3_; subst f4_; subst f5_))
                      refine hK.out _ _ ⟨(blk_cell BK553.out 0).trans rfl, (blk_cell BK553.out 1).trans rfl, (blk_cell BK556.out 0).trans rfl, (blk_cell BK556.out 1).trans rfl⟩ (fun hHeld => ?_)
                      clear hK K
                      refine norm_ (a' := ?_) ?_ ?_
                      rotate_left
                      ·
                       show Act.put _ (some 127) _ = _
                       simp only [Act.put, List.setIfInBounds_toArray, List.set_cons_zero, List.set_cons_succ, i64_w, i32_w]
                       rfl
                      refine pure_ (i := 38) (N := some 128) (v := ?_) (a' := ?_) #[true, true, true, true, true, true, true, true, true, true, true, true, true, true, true, true, true, true, true, true, true, true, true, true, true, true, true, true, true, true, true, true, true, true, true, true, true, true, true, false, false, false, false, false, false, false, false, false, false, false, false, false, false, false, false, false, false, false, false, false, false, false, false, false, false, false, false, false, false, false, false, false, false, false, false, false, false, false, false, false, false, false, false, false, false, false, false, false, false, false, false, false, false, false, false, false, false, false, false, false, false, false, false, false, false, false, false] rfl rfl (any_of HT_.out z12_14) (fun _ _ _ h => h) (Or.inl ⟨by rfl, ?_⟩) ?_ ?_
                      rotate_left
                      ·
                       intro w'
                       go_simp
                       with_reducible rfl
                      rotate_left
                      ·
                       simp only [Act.put, List.setIfInBounds_toArray, List.set_cons_zero, List.set_cons_succ, i64_w, i32_w]
                       rfl
                      refine pure_ (i := 39) (N := some 129) (v := ?_) (a' := ?_) #[true, true, true, true, true, true, true, true, true, true, true, true, true, true, true, true, true, true, true, true, true, true, true, true, true, true, true, true, true, true, true, true, true, true, true, true, true, true, true, true, false, false, false, false, false, false, false, false, false, false, false, false, false, false, false, false, false, false, false, false, false, false, false, false, false, false, false, false, false, false, false, false, false, false, false, false, false, false, false, false, false, false, false, false, false, false, false, false, false, false, false, false, false, false, false, false, false, false, false, false, false, false, false, false, false, false, false] rfl rfl (any_of HT_.out z12_14) (fun _ _ _ h => h) (Or.inl ⟨by rfl, ?_⟩) ?_ ?_
                      rotate_left
                      ·
                       intro w'
                       go_simp
                       with_reducible rfl
                      rotate_left
                      ·
                       simp only [Act.put, List.setIfInBounds_toArray, List.set_cons_zero, List.set_cons_succ, i64_w, i32_w]
                       rfl
                      refine pure_ (i := 40) (N := some 130) (v := ?_) (a' := ?_) #[true, true, true, true, true, true, true, true, true, true, true, true, true, true, true, true, true, true, true, true, true, true, true, true, true, true, true, true, true, true, true, true, true, true, true, true, true, true, true, true, true, false, false, false, false, false, false, false, false, false, false, false, false, false, false, false, false, false, false, false, false, false, false, false, false, false, false, false, false, false, false, false, false, false, false, false, false, false, false, false, false, false, false, false, false, false, false, false, false, false, false, false, false, false, false, false, false, false, false, false, false, false, false, false, false, false, false] rfl rfl (any_of HT_.out z12_14) (fun _ _ _ h => h) (Or.inl ⟨by rfl, ?_⟩) ?_ ?_
                      rotate_left
                      ·
                       intro w'
                       go_simp
                       with_reducible rfl
                      rotate_left
                      ·
                       simp only [Act.put, List.setIfInBounds_toArray, List.set_cons_zero, List.set_cons_succ, i64_w, i32_w]
                       rfl
                      refine pure_ (i := 41) (N := some 131) (v := ?_) (a' := ?_) #[true, true, true, true, true, true, true, true, true, true, true, true, true, true, true, true, true, true, true, true, true, true, true, true, true, true, true, true, true, true, true, true, true, true, true, true, true, true, true, true, true, true, false, false, false, false, false, false, false, false, false, false, false, false, false, false, false, false, false, false, false, false, false, false, false, false, false, false, false, false, false, false, false, false, false, false, false, false, false, false, false, false, false, false, false, false, false, false, false, false, false, false, false, false, false, false, false, false, false, false, false, false, false, false, false, false, false] rfl rfl (any_of HT_.out z12_14) (fun _ _ _ h => h) (Or.inl ⟨by rfl, ?_⟩) ?_ ?_
                      rotate_left
                      ·
                       intro w'
                       go_simp
                       with_reducible rfl
                      rotate_left
                      ·
                       simp only [Act.put, List.setIfInBounds_toArray, List.set_cons_zero, List.set_cons_succ, i64_w, i32_w]
                       rfl
                      refine pure_ (i := 42) (N := some 132) (v := ?_) (a' := ?_) #[true, true, true, true, true, true, true, true, true, true, true, true, true, true, true, true, true, true, true, true, true, true, true, true, true, true, true, true, true, true, true, true, true, true, true, true, true, true, true, true, true, true, true, false, false, false, false, false, false, false, false, false, false, false, false, false, false, false, false, false, false, false, false, false, false, false, false, false, false, false, false, false, false, false, false, false, false, false, false, false, false, false, false, false, false, false, false, false, false, false, false, false, false, false, false, false, false, false, false, false, false, false, false, false, false, false, false] rfl rfl (any_of HT_.out z12_14) (fun _ _ _ h => h) (Or.inl ⟨by rfl, ?_⟩) ?_ ?_
                      rotate_left
                      ·
                       intro w'
                       go_simp
                       with_reducible rfl
                      rotate_left
                      ·
                       simp only [Act.put, List.setIfInBounds_toArray, List.set_cons_zero, List.set_cons_succ, i64_w, i32_w]
                       rfl
                      refine pure_ (i := 43) (N := some 133) (v := ?_) (a' := ?_) #[true, true, true, true, true, true, true, true, true, true, true, true, true, true, true, true, true, true, true, true, true, true, true, true, true, true, true, true, true, true, true, true, true, true, true, true, true, true, true, true, true, true, true, true, false, false, false, false, false, false, false, false, false, false, false, false, false, false, false, false, false, false, false, false, false, false, false, false, false, false, false, false, false, false, false, false, false, false, false, false, false, false, false, false, false, false, false, false, false, false, false, false, false, false, false, false, false, false, false, false, false, false, false, false, false, false, false] rfl rfl (any_of HT_.out z12_14) (fun _ _ _ h => h) (Or.inl ⟨by rfl, ?_⟩) ?_ ?_
                      rotate_left
                      ·
                       intro w'
                       go_simp
                       with_reducible rfl
                      rotate_left
                      ·
                       simp only [Act.put, List.setIfInBounds_toArray, List.set_cons_zero, List.set_cons_succ, i64_w, i32_w]
                       rfl
                      refine pure_ (i := 44) (N := some 134) (v := ?_) (a' := ?_) #[true, true, true, true, true, true, true, true, true, true, true, true, true, true, true, true, true, true, true, true, true, true, true, true, true, true, true, true, true, true, true, true, true, true, true, true, true, true, true, true, true, true, true, true, true, false, false, false, false, false, false, false, false, false, false, false, false, false, false, false, false, false, false, false, false, false, false, false, false, false, false, false, false, false, false, false, false, false, false, false, false, false, false, false, false, false, false, false, false, false, false, false, false, false, false, false, false, false, false, false, false, false, false, false, false, false, false] rfl rfl (any_of HT_.out z12_14) (fun _ _ _ h => h) (Or.inl ⟨by rfl, ?_⟩) ?_ ?_
                      rotate_left
                      ·
                       intro w'
                       go_simp
                       with_reducible rfl
                      rotate_left
                      ·
                       simp only [Act.put, List.setIfInBounds_toArray, List.set_cons_zero, List.set_cons_succ, i64_w, i32_w]
                       rfl
                      refine pure_ (i := 46) (N := some 136) (v := ?_) (a' := ?_) #[true, true, true, true, true, true, true, true, true, true, true, true, true, true, true, true, true, true, true, true, true, true, true, true, true, true, true, true, true, true, true, true, true, true, true, true, true, true, true, true, true, true, true, true, true, false, true, false, false, false, false, false, false, false, false, false, false, false, false, false, false, false, false, false, false, false, false, false, false, false, false, false, false, false, false, false, false, false, false, false, false, false, false, false, false, false, false, false, false, false, false, false, false, false, false, false, false, false, false, false, false, false, false, false, false, false, false] rfl rfl (any_of HT_.out z12_14) (fun _ _ _ h => h) (Or.inl ⟨by rfl, ?_⟩) ?_ ?_
                      rotate_left
                      ·
                       intro w'
                       go_simp
                       with_reducible rfl
                      rotate_left
                      ·
                       simp only [Act.put, List.setIfInBounds_toArray, List.set_cons_zero, List.set_cons_succ, i64_w, i32_w]
                       rfl
                      refine pure_ (i := 47) (N := some 137) (v := ?_) (a' := ?_) #[true, true, true, true, true, true, true, true, true, true, true, true, true, true, true, true, true, true, true, true, true, true, true, true, true, true, true, true, true, true, true, true, true, true, true, true, true, true, true, true, true, true, true, true, true, false, true, true, false, false, false, false, false, false, false, false, false, false, false, false, false, false, false, false, false, false, false, false, false, false, false, false, false, false, false, false, false, false, false, false, false, false, false, false, false, false, false, false, false, false, false, false, false, false, false, false, false, false, false, false, false, false, false, false, false, false, false] rfl rfl (any_of HT_.out z12_14) (fun _ _ _ h => h) (Or.inl ⟨by rfl, ?_⟩) ?_ ?_
                      rotate_left
                      ·
                       intro w'
                       go_simp
                       with_reducible rfl
                      rotate_left
                      ·
                       simp only [Act.put, List.setIfInBounds_toArray, List.set_cons_zero, List.set_cons_succ, i64_w, i32_w]
                       rfl
                      refine one_ (i := 45) (N := some 135) #[true, true, true, true, true, true, true, true, true, true, true, true, true, true, true, true, true, true, true, true, true, true, true, true, true, true, true, true, true, true, true, true, true, true, true, true, true, true, true, true, true, true, true, true, true, true, true, true, false, false, false, false, false, false, false, false, false, false, false, false, false, false, false, false, false, false, false, false, false, false, false, false, false, false, false, false, false, false, false, false, false, false, false, false, false, false, false, false, false, false, false, false, false, false, false, false, false, false, false, false, false, false, false, false, false, false, false] rfl rfl (one_of HT_.out z12_14) (by decide) (fun K hK => ?_)
                      refine goes_ Try.func72 z12_14 rfl #[.slice Ao91 t542.length co91, .slice Ao92 t543.length co92] (by rfl) rfl rfl z12_1 ?_
                      with_reducible refine (impl_KnowIn.calls k2 _ _ t542 _ _ t543 t569 _ ?side1 ?side2 ?side3 ?side4 A49.out).mono ?_
                      (case side1 => repeat (first | exact (Kd.R_reads' HO545.out).2.2 | (with_reducible refine Kd.C_alloc ?_ _) | (with_reducible refine Kd.C_drewN ?_ _) | (with_reducible refine Kd.C_drew ?_)))
                      (case side2 => exact (Kd.R_reads' HO545.out).2.1)
                      (case side3 => repeat (first | exact (Kd.R_reads' HO547.out).2.2 | (with_reducible refine Kd.C_alloc ?_ _) | (with_reducible refine Kd.C_drewN ?_ _) | (with_reducible refine Kd.C_drew ?_)))
                      (case side4 => exact (Kd.R_reads' HO547.out).2.1)
                      rintro e w' ⟨rfl, ⟨nd, rfl⟩⟩
                      refine ⟨_, rfl, ?_⟩
                      refine hK.out _ _ ⟨(blk_cell BK553.out 0).trans rfl, (blk_cell BK553.out 1).trans rfl, (blk_cell BK556.out 0).trans rfl, (blk_cell BK556.out 1).trans rfl⟩ (fun hHeld => ?_)
                      clear hK K
                      refine norm_ (a' := ?_) ?_ ?_
                      rotate_left
                      ·
                       show Act.put _ (some 135) _ = _
                       simp only [Act.put, List.setIfInBounds_toArray, List.set_cons_zero, List.set_cons_succ, i64_w, i32_w]
                       rfl
                      refine one_ (i := 48) (N := some 138) #[true, true, true, true, true, true, true, true, true, true, true, true, true, true, true, true, true, true, true, true, true, true, true, true, true, true, true, true, true, true, true, true, true, true, true, true, true, true, true, true, true, true, true, true, true, true, true, true, true, false, false, false, false, false, false, false, false, false, false, false, false, false, false, false, false, false, false, false, false, false, false, false, false, false, false, false, false, false, false, false, false, false, false, false, false, false, false, false, false, false, false, false, false, false, false, false, false, false, false, false, false, false, false, false, false, false, false] rfl rfl (one_of HT_.out z12_14) (by decide) (fun K hK => ?_)
                      refine goes_ Try.func74 z12_14 rfl #[.slice Ao91 t542.length co91, .slice Ao92 t543.length co92] (by rfl) rfl rfl z12_1 ?_
                      with_reducible refine (spec_KnowIn.calls k2 _ _ t542 _ _ t543 t570 _ ?side1 ?side2 ?side3 ?side4 A50.out).mono ?_
                      (case side1 => repeat (first | exact (Kd.R_reads' HO545.out).2.2 | (with_reducible refine Kd.C_alloc ?_ _) | (with_reducible refine Kd.C_drewN ?_ _) | (with_reducible refine Kd.C_drew ?_)))
                      (case side2 => exact (Kd.R_reads' HO545.out).2.1)
                      (case side3 => repeat (first | exact (Kd.R_reads' HO547.out).2.2 | (with_reducible refine Kd.C_alloc ?_ _) | (with_reducible refine Kd.C_drewN ?_ _) | (with_reducible refine Kd.C_drew ?_)))
                      (case side4 => exact (Kd.R_reads' HO547.out).2.1)
                      rintro e w' ⟨rfl, ⟨nd, rfl⟩⟩
                      refine ⟨_, rfl, ?_⟩
                      obtain ⟨Ao93, co93, eo93⟩ := Kd.R_slice HO550.out
                      (first | subst eo93 | (injection eo93 with f1_ f2_ f3_; have f4_ := f1_.symm; have f5_ := f3_.symm; clear f1_ f2_ f3_; subst f4_; subst f5_))
                      refine hK.out _ _ ⟨(blk_cell BK553.out 0).trans rfl, (blk_cell BK553.out 1).trans rfl, (blk_cell BK556.out 0).trans rfl, (blk_cell BK556.out 1).trans rfl⟩ (fun hHeld => ?_)
                      clear hK K
                      refine norm_ (a' := ?_) ?_ ?_
                      rotate_left
                      ·
                       show Act.put _ (some 138) _ = _
                       simp only [Act.put, List.setIfInBounds_toArray, List.set_cons_zero, List.set_cons_succ, i64_w, i32_w]
                       rfl
                      refine pure_ (i := 49) (N := some 139) (v := ?_) (a' := ?_) #[true, true, true, true, true, true, true, true, true, true, true, true, true, true, true, true, true, true, true, true, true, true, true, true, true, true, true, true, true, true, true, true, true, true, true, true, true, true, true, true, true, true, true, true, true, true, true, true, true, true, false, false, false, false, false, false, false, false, false, false, false, false, false, false, false, false, false, false, false, false, false, false, false, false, false, false, false, false, false, false, false, false, false, false, false, false, false, false, false, false, false, false, false, false, false, false, false, false, false, false, false, false, false, false, false, false, false] rfl rfl (any_of HT_.out z12_14) (fun _ _ _ h => h) (Or.inl ⟨by rfl, ?_⟩) ?_ ?_
                      rotate_left
                      ·
                       intro w'
                       go_simp
                       with_reducible rfl
                      rotate_left
                      ·
                       simp only [Act.put, List.setIfInBounds_toArray, List.set_cons_zero, List.set_cons_succ, i64_w, i32_w]
                       rfl
                      refine pure_ (i := 50) (N := some 140) (v := ?_) (a' := ?_) #[true, true, true, true, true, true, true, true, true, true, true, true, true, true, true, true, true, true, true, true, true, true, true, true, true, true, true, true, true, true, true, true, true, true, true, true, true, true, true, true, true, true, true, true, true, true, true, true, true, true, true, false, false, false, false, false, false, false, false, false, false, false, false, false, false, false, false, false, false, false, false, false, false, false, false, false, false, false, false, false, false, false, false, false, false, false, false, false, false, false, false, false, false, false, false, false, false, false, false, false, false, false, false, false, false, false, false] rfl rfl (any_of HT_.out z12_14) (fun _ _ _ h => h) (Or.inl ⟨by rfl, ?_⟩) ?_ ?_
                      rotate_left
                      ·
                       intro w'
                       go_simp
                       with_reducible rfl
                      rotate_left
                      ·
                       simp only [Act.put, List.setIfInBounds_toArray, List.set_cons_zero, List.set_cons_succ, i64_w, i32_w]
                       rfl
                      refine pure_ (i := 51) (N := some 141) (v := ?_) (a' := ?_) #[true, true, true, true, true, true, true, true, true, true, true, true, true, true, true, true, true, true, true, true, true, true, true, true, true, true, true, true, true, true, true, true, true, true, true, true, true, true, true, true, true, true, true, true, true, true, true, true, true, true, true, true, false, false, false, false, false, false, false, false, false, false, false, false, false, false, false, false, false, false, false, false, false, false, false, false, false, false, false, false, false, false, false, false, false, false, false, false, false, false, false, false, false, false, false, false, false, false, false, false, false, false, false, false, false, false, false] rfl rfl (any_of HT_.out z12_14) (fun _ _ _ h => h) (Or.inl ⟨by rfl, ?_⟩) ?_ ?_
                      rotate_left
                      ·
                       intro w'
                       go_simp
                       with_reducible rfl
                      rotate_left
                      ·
                       simp only [Act.put, List.setIfInBounds_toArray, List.set_cons_zero, List.set_cons_succ, i64_w, i32_w]
                       rfl
                      refine pure_ (i := 52) (N := some 142) (v := ?_) (a' := ?_) #[true, true, true, true, true, true, true, true, true, true, true, true, true, true, true, true, true, true, true, true, true, true, true, true, true, true, true, true, true, true, true, true, true, true, true, true, true, true, true, true, true, true, true, true, true, true, true, true, true, true, true, true, true, false, false, false, false, false, false, false, false, false, false, false, false, false, false, false, false, false, false, false, false, false, false, false, false, false, false, false, false, false, false, false, false, false, false, false, false, false, false, false, false, false, false, false, false, false, false, false, false, false, false, false, false, false, false] rfl rfl (any_of HT_.out z12_14) (fun _ _ _ h => h) (Or.inl ⟨by rfl, ?_⟩) ?_ ?_
                      rotate_left
                      ·
                       intro w'
                       go_simp
                       with_reducible rfl
                      rotate_left
                      ·
                       simp only [Act.put, List.setIfInBounds_toArray, List.set_cons_zero, List.set_cons_succ, i64_w, i32_w]
                       rfl
                      refine pure_ (i := 55) (N := some 145) (v := ?_) (a' := ?_) #[true, true, true, true, true, true, true, true, true, true, true, true, true, true, true, true, true, true, true, true, true, true, true, true, true, true, true, true, true, true, true, true, true, true, true, true, true, true, true, true, true, true, true, true, true, true, true, true, true, true, true, true, true, false, false, true, false, false, false, false, false, false, false, false, false, false, false, false, false, false, false, false, false, false, false, false, false, false, false, false, false, false, false, false, false, false, false, false, false, false, false, false, false, false, false, false, false, false, false, false, false, false, false, false, false, false, false] rfl rfl (any_of HT_.out z12_14) (fun _ _ _ h => h) (Or.inl ⟨by rfl, ?_⟩) ?_ ?_
                      rotate_left
                      ·
                       intro w'
                       go_simp
                       with_reducible rfl
                      rotate_left
                      ·
                       simp only [Act.put, List.setIfInBounds_toArray, List.set_cons_zero, List.set_cons_succ, i64_w, i32_w]
                       rfl
                      refine take_ (i := 53) (N := some 143) (v := ?_) (a' := ?_) #[true, true, true, true, true, true, true, true, true, true, true, true, true, true, true, true, true, true, true, true, true, true, true, true, true, true, true, true, true, true, true, true, true, true, true, true, true, true, true, true, true, true, true, true, true, true, true, true, true, true, true, true, true, true, false, true, false, false, false, false, false, false, false, false, false, false, false, false, false, false, false, false, false, false, false, false, false, false, false, false, false, false, false, false, false, false, false, false, false, false, false, false, false, false, false, false, false, false, false, false, false, false, false, false, false, false, false] rfl rfl (take_ofW HT_.out HW_.out z12_14) (fun _ _ _ h => h) (Or.inl ⟨by rfl, ?_⟩) hHeld ?_ ?_
                      rotate_left
                      ·
                       rintro w' ⟨s0, s1, s2, s3⟩
                       go_simp
                       with_reducible rfl
                      rotate_left
                      ·
                       simp only [Act.put, List.setIfInBounds_toArray, List.set_cons_zero, List.set_cons_succ, i64_w, i32_w]
                       rfl
                      refine take_ (i := 56) (N := some 146) (v := ?_) (a' := ?_) #[true, true, true, true, true, true, true, true, true, true, true, true, true, true, true, true, true, true, true, true, true, true, true, true, true, true, true, true, true, true, true, true, true, true, true, true, true, true, true, true, true, true, true, true, true, true, true, true, true, true, true, true, true, true, false, true, true, false, false, false, false, false, false, false, false, false, false, false, false, false, false, false, false, false, false, false, false, false, false, false, false, false, false, false, false, false, false, false, false, false, false, false, false, false, false, false, false, false, false, false, false, false, false, false, false, false, false] rfl rfl (take_ofW HT_.out HW_.out z12_14) (fun _ _ _ h => h) (Or.inl ⟨by rfl, ?_⟩) hHeld ?_ ?_
                      rotate_left
                      ·
                       rintro w' ⟨s0, s1, s2, s3⟩
                       go_simp
                       with_reducible rfl
                      rotate_left
                      ·
                       simp only [Act.put, List.setIfInBounds_toArray, List.set_cons_zero, List.set_cons_succ, i64_w, i32_w]
                       rfl
                      refine one_ (i := 54) (N := some 144) #[true, true, true, true, true, true, true, true, true, true, true, true, true, true, true, true, true, true, true, true, true, true, true, true, true, true, true, true, true, true, true, true, true, true, true, true, true, true, true, true, true, true, true, true, true, true, true, true, true, true, true, true, true, true, true, true, true, false, false, false, false, false, false, false, false, false, false, false, false, false, false, false, false, false, false, false, false, false, false, false, false, false, false, false, false, false, false, false, false, false, false, false, false, false, false, false, false, false, false, false, false, false, false, false, false, false, false] rfl rfl (one_of HT_.out z12_14) (by decide) (fun K hK => ?_)
                      refine goes_ Try.func67 z12_14 rfl #[.slice Ao93 t548.length co93, .agg #[.int .i64 t551, .int .i64 t552]] (by rfl) rfl rfl z12_1 ?_
                      with_reducible refine (impl_Knows.calls k2 _ _ t548 t551 t552 t571 _ ?side1 ?side2 A52.out).mono ?_
                      (case side1 => repeat (first | exact (Kd.R_reads' HO550.out).2.2 | (with_reducible refine Kd.C_alloc ?_ _) | (with_reducible refine Kd.C_drewN ?_ _) | (with_reducible refine Kd.C_drew ?_)))
                      (case side2 => exact (Kd.R_reads' HO550.out).2.1)
                      rintro e w94 ⟨rfl, hb⟩
                      refine ⟨_, rfl, ?_⟩
                      have n0_ := Aside0.mk (Kd.R_below z12_5 hb)
                      have n1_ := Aside0.mk (Kd.R_below z12_4 hb)
                      have n2_ := Aside0.mk (Kd.R_below z12_3 hb)
                      have n3_ := Aside0.mk (Kd.R_below z12_2 hb)
                      have n4_ := Aside0.mk (Kd.R_below z12_7 hb)
                      have n5_ := Aside0.mk (Kd.R_below z12_9 hb)
                      have n6_ := Aside0.mk (Kd.R_below z12_8 hb)
                      have n7_ := Aside0.mk (Kd.R_below z12_11 hb)
                      have n8_ := Aside0.mk (Kd.R_below z12_13 hb)
                      have n9_ := Aside0.mk (Kd.R_below z12_15 hb)
                      have n10_ := Aside0.mk (blk_below (g := gb553) (o := .cells #[.int .i64 t551, .int .i64 t552] 29 (0, 0)) z12_10 hb)
                      have n11_ := Aside0.mk (blk_below (g := gb556) (o := .cells #[.int .i64 t554, .int .i64 t555] 29 (0, 0)) z12_12 hb)
                      have n12_ := Aside0.mk (below_step z12_0 hb)
                      clear HO_3
                      clear HO_4
                      clear HO_5
                      clear HO_6
                      clear HO_7
                      clear HO545
                      clear HO547
                      clear HO550
                      clear HO563
                      clear HO568
                      clear BK553
                      clear BK556
                      clear HB
                      have HO_3 := n0_
                      have HO_4 := n1_
                      have HO_5 := n2_
                      have HO_6 := n3_
                      have HO_7 := n4_
                      have HO545 := n5_
                      have HO547 := n6_
                      have HO550 := n7_
                      have HO563 := n8_
                      have HO568 := n9_
                      have BK553 := n10_
                      have BK556 := n11_
                      have HB := n12_
                      clear n0_ n1_ n2_ n3_ n4_ n5_ n6_ n7_ n8_ n9_ n10_ n11_ n12_
                      (try clear hb)
                      (try clear hb2)
                      (try clear hk)
                      (try clear hi)
                      refine hK.out _ _ ⟨(blk_cell BK553.out 0).trans rfl, (blk_cell BK553.out 1).trans rfl, (blk_cell BK556.out 0).trans rfl, (blk_cell BK556.out 1).trans rfl⟩ (fun hHeld => ?_)
                      clear hK K
                      refine norm_ (a' := ?_) ?_ ?_
                      rotate_left
                      ·
                       show Act.put _ (some 144) _ = _
                       simp only [Act.put, List.setIfInBounds_toArray, List.set_cons_zero, List.set_cons_succ, i64_w, i32_w]
                       rfl
                      refine one_ (i := 57) (N := some 147) #[true, true, true, true, true, true, true, true, true, true, true, true, true, true, true, true, true, true, true, true, true, true, true, true, true, true, true, true, true, true, true, true, true, true, true, true, true, true, true, true, true, true, true, true, true, true, true, true, true, true, true, true, true, true, true, true, true, true, false, false, false, false, false, false, false, false, false, false, false, false, false, false, false, false, false, false, false, false, false, false, false, false, false, false, false, false, false, false, false, false, false, false, false, false, false, false, false, false, false, false, false, false, false, false, false, false, false] rfl rfl (one_of HT_.out z12_14) (by decide) (fun K hK => ?_)
                      refine goes_ Try.func75 z12_14 rfl #[.slice Ao93 t548.length co93, .agg #[.int .i64 t551, .int .i64 t552]] (by rfl) rfl rfl z12_1 ?_
                      with_reducible refine (spec_Knows.calls k2 _ _ t548 t551 t552 t572 _ ?side1 ?side2 A53.out).mono ?_
                      (case side1 => repeat (first | exact (Kd.R_reads' HO550.out).2.2 | (with_reducible refine Kd.C_alloc ?_ _) | (with_reducible refine Kd.C_drewN ?_ _) | (with_reducible refine Kd.C_drew ?_)))
                      (case side2 => exact (Kd.R_reads' HO550.out).2.1)
                      rintro e w95 ⟨rfl, hb⟩
                      refine ⟨_, rfl, ?_⟩
                      have n0_ := Aside0.mk (Kd.R_below z12_5 hb)
                      have n1_ := Aside0.mk (Kd.R_below z12_4 hb)
                      have n2_ := Aside0.mk (Kd.R_below z12_3 hb)
                      have n3_ := Aside0.mk (Kd.R_below z12_2 hb)
                      have n4_ := Aside0.mk (Kd.R_below z12_7 hb)
                      have n5_ := Aside0.mk (Kd.R_below z12_9 hb)
                      have n6_ := Aside0.mk (Kd.R_below z12_8 hb)
                      have n7_ := Aside0.mk (Kd.R_below z12_11 hb)
                      have n8_ := Aside0.mk (Kd.R_below z12_13 hb)
                      have n9_ := Aside0.mk (Kd.R_below z12_15 hb)
                      have n10_ := Aside0.mk (blk_below (g := gb553) (o := .cells #[.int .i64 t551, .int .i64 t552] 29 (0, 0)) z12_10 hb)
                      have n11_ := Aside0.mk (blk_below (g := gb556) (o := .cells #[.int .i64 t554, .int .i64 t555] 29 (0, 0)) z12_12 hb)
                      have n12_ := Aside0.mk (below_step z12_0 hb)
                      clear HO_3
                      clear HO_4
                      clear HO_5
                      clear HO_6
                      clear HO_7
                      clear HO545
                      clear HO547
                      clear HO550
                      clear HO563
                      clear HO568
                      clear BK553
                      clear BK556
                      clear HB
                      have HO_3 := n0_
                      have HO_4 := n1_
                      have HO_5 := n2_
                      have HO_6 := n3_
                      have HO_7 := n4_
                      have HO545 := n5_
                      have HO547 := n6_
                      have HO550 := n7_
                      have HO563 := n8_
                      have HO568 := n9_
                      have BK553 := n10_
                      have BK556 := n11_
                      have HB := n12_
                      clear n0_ n1_ n2_ n3_ n4_ n5_ n6_ n7_ n8_ n9_ n10_ n11_ n12_
                      (try clear hb)
                      (try clear hb2)
                      (try clear hk)
                      (try clear hi)
                      refine hK.out _ _ ⟨(blk_cell BK553.out 0).trans rfl, (blk_cell BK553.out 1).trans rfl, (blk_cell BK556.out 0).trans rfl, (blk_cell BK556.out 1).trans rfl⟩ (fun hHeld => ?_)
                      clear hK K
                      refine norm_ (a' := ?_) ?_ ?_
                      rotate_left
                      ·
                       show Act.put _ (some 147) _ = _
                       simp only [Act.put, List.setIfInBounds_toArray, List.set_cons_zero, List.set_cons_succ, i64_w, i32_w]
                       rfl
                      refine pure_ (i := 58) (N := some 148) (v := ?_) (a' := ?_) #[true, true, true, true, true, true, true, true, true, true, true, true, true, true, true, true, true, true, true, true, true, true, true, true, true, true, true, true, true, true, true, true, true, true, true, true, true, true, true, true, true, true, true, true, true, true, true, true, true, true, true, true, true, true, true, true, true, true, true, false, false, false, false, false, false, false, false, false, false, false, false, false, false, false, false, false, false, false, false, false, false, false, false, false, false, false, false, false, false, false, false, false, false, false, false, false, false, false, false, false, false, false, false, false, false, false, false] rfl rfl (any_of HT_.out z12_14) (fun _ _ _ h => h) (Or.inl ⟨by rfl, ?_⟩) ?_ ?_
                      rotate_left
                      ·
                       intro w'
                       go_simp
                       with_reducible rfl
                      rotate_left
                      ·
                       simp only [Act.put, List.setIfInBounds_toArray, List.set_cons_zero, List.set_cons_succ, i64_w, i32_w]
                       rfl
                      refine pure_ (i := 59) (N := some 149) (v := ?_) (a' := ?_) #[true, true, true, true, true, true, true, true, true, true, true, true, true, true, true, true, true, true, true, true, true, true, true, true, true, true, true, true, true, true, true, true, true, true, true, true, true, true, true, true, true, true, true, true, true, true, true, true, true, true, true, true, true, true, true, true, true, true, true, true, false, false, false, false, false, false, false, false, false, false, false, false, false, false, false, false, false, false, false, false, false, false, false, false, false, false, false, false, false, false, false, false, false, false, false, false, false, false, false, false, false, false, false, false, false, false, false] rfl rfl (any_of HT_.out z12_14) (fun _ _ _ h => h) (Or.inl ⟨by rfl, ?_⟩) ?_ ?_
                      rotate_left
                      ·
                       intro w'
                       go_simp
                       with_reducible rfl
                      rotate_left
                      ·
                       simp only [Act.put, List.setIfInBounds_toArray, List.set_cons_zero, List.set_cons_succ, i64_w, i32_w]
                       rfl
                      refine pure_ (i := 60) (N := some 150) (v := ?_) (a' := ?_) #[true, true, true, true, true, true, true, true, true, true, true, true, true, true, true, true, true, true, true, true, true, true, true, true, true, true, true, true, true, true, true, true, true, true, true, true, true, true, true, true, true, true, true, true, true, true, true, true, true, true, true, true, true, true, true, true, true, true, true, true, true, false, false, false, false, false, false, false, false, false, false, false, false, false, false, false, false, false, false, false, false, false, false, false, false, false, false, false, false, false, false, false, false, false, false, false, false, false, false, false, false, false, false, false, false, false, false] rfl rfl (any_of HT_.out z12_14) (fun _ _ _ h => h) (Or.inl ⟨by rfl, ?_⟩) ?_ ?_
                      rotate_left
                      ·
                       intro w'
                       go_simp
                       with_reducible rfl
                      rotate_left
                      ·
                       simp only [Act.put, List.setIfInBounds_toArray, List.set_cons_zero, List.set_cons_succ, i64_w, i32_w]
                       rfl
                      refine take_ (i := 61) (N := some 151) (v := ?_) (a' := ?_) #[true, true, true, true, true, true, true, true, true, true, true, true, true, true, true, true, true, true, true, true, true, true, true, true, true, true, true, true, true, true, true, true, true, true, true, true, true, true, true, true, true, true, true, true, true, true, true, true, true, true, true, true, true, true, true, true, true, true, true, true, true, true, false, false, false, false, false, false, false, false, false, false, false, false, false, false, false, false, false, false, false, false, false, false, false, false, false, false, false, false, false, false, false, false, false, false, false, false, false, false, false, false, false, false, false, false, false] rfl rfl (take_ofW HT_.out HW_.out z12_14) (fun _ _ _ h => h) (Or.inl ⟨by rfl, ?_⟩) hHeld ?_ ?_
                      rotate_left
                      ·
                       rintro w' ⟨s0, s1, s2, s3⟩
                       go_simp
                       with_reducible rfl
                      rotate_left
                      ·
                       simp only [Act.put, List.setIfInBounds_toArray, List.set_cons_zero, List.set_cons_succ, i64_w, i32_w]
                       rfl
                      refine take_ (i := 63) (N := some 153) (v := ?_) (a' := ?_) #[true, true, true, true, true, true, true, true, true, true, true, true, true, true, true, true, true, true, true, true, true, true, true, true, true, true, true, true, true, true, true, true, true, true, true, true, true, true, true, true, true, true, true, true, true, true, true, true, true, true, true, true, true, true, true, true, true, true, true, true, true, true, false, true, false, false, false, false, false, false, false, false, false, false, false, false, false, false, false, false, false, false, false, false, false, false, false, false, false, false, false, false, false, false, false, false, false, false, false, false, false, false, false, false, false, false, false] rfl rfl (take_ofW HT_.out HW_.out z12_14) (fun _ _ _ h => h) (Or.inl ⟨by rfl, ?_⟩) hHeld ?_ ?_
                      rotate_left
                      ·
                       rintro w' ⟨s0, s1, s2, s3⟩
                       go_simp
                       with_reducible rfl
                      rotate_left
                      ·
                       simp only [Act.put, List.setIfInBounds_toArray, List.set_cons_zero, List.set_cons_succ, i64_w, i32_w]
                       rfl
                      refine one_ (i := 62) (N := some 152) #[true, true, true, true, true, true, true, true, true, true, true, true, true, true, true, true, true, true, true, true, true, true, true, true, true, true, true, true, true, true, true, true, true, true, true, true, true, true, true, true, true, true, true, true, true, true, true, true, true, true, true, true, true, true, true, true, true, true, true, true, true, true, true, true, false, false, false, false, false, false, false, false, false, false, false, false, false, false, false, false, false, false, false, false, false, false, false, false, false, false, false, false, false, false, false, false, false, false, false, false, false, false, false, false, false, false, false] rfl rfl (one_of HT_.out z12_14) (by decide) (fun K hK => ?_)
                      refine goes_ Try.func68 z12_14 rfl #[.agg #[.int .i64 t554, .int .i64 t555]] (by rfl) rfl rfl z12_1 ?_
                      with_reducible refine (impl_DotOk.calls t554 t555 t573 _ A55.out).mono ?_
                      rintro e w96 ⟨rfl, hb⟩
                      refine ⟨_, rfl, ?_⟩
                      have n0_ := Aside0.mk (Kd.R_below z12_5 hb)
                      have n1_ := Aside0.mk (Kd.R_below z12_4 hb)
                      have n2_ := Aside0.mk (Kd.R_below z12_3 hb)
                      have n3_ := Aside0.mk (Kd.R_below z12_2 hb)
                      have n4_ := Aside0.mk (Kd.R_below z12_7 hb)
                      have n5_ := Aside0.mk (Kd.R_below z12_9 hb)
                      have n6_ := Aside0.mk (Kd.R_below z12_8 hb)
                      have n7_ := Aside0.mk (Kd.R_below z12_11 hb)
                      have n8_ := Aside0.mk (Kd.R_below z12_13 hb)
                      have n9_ := Aside0.mk (Kd.R_below z12_15 hb)
                      have n10_ := Aside0.mk (blk_below (g := gb553) (o := .cells #[.int .i64 t551, .int .i64 t552] 29 (0, 0)) z12_10 hb)
                      have n11_ := Aside0.mk (blk_below (g := gb556) (o := .cells #[.int .i64 t554, .int .i64 t555] 29 (0, 0)) z12_12 hb)
                      have n12_ := Aside0.mk (below_step z12_0 hb)
                      clear HO_3
                      clear HO_4
                      clear HO_5
                      clear HO_6
                      clear HO_7
                      clear HO545
                      clear HO547
                      clear HO550
                      clear HO563
                      clear HO568
                      clear BK553
                      clear BK556
                      clear HB
                      have HO_3 := n0_
                      have HO_4 := n1_
                      have HO_5 := n2_
                      have HO_6 := n3_
                      have HO_7 := n4_
                      have HO545 := n5_
                      have HO547 := n6_
                      have HO550 := n7_
                      have HO563 := n8_
                      have HO568 := n9_
                      have BK553 := n10_
                      have BK556 := n11_
                      have HB := n12_
                      clear n0_ n1_ n2_ n3_ n4_ n5_ n6_ n7_ n8_ n9_ n10_ n11_ n12_
                      (try clear hb)
                      (try clear hb2)
                      (try clear hk)
                      (try clear hi)
                      refine hK.out _ _ ⟨(blk_cell BK553.out 0).trans rfl, (blk_cell BK553.out 1).trans rfl, (blk_cell BK556.out 0).trans rfl, (blk_cell BK556.out 1).trans rfl⟩ (fun hHeld => ?_)
                      clear hK K
                      refine norm_ (a' := ?_) ?_ ?_
                      rotate_left
                      ·
                       show Act.put _ (some 152) _ = _
                       simp only [Act.put, List.setIfInBounds_toArray, List.set_cons_zero, List.set_cons_succ, i64_w, i32_w]
                       rfl
                      refine one_ (i := 64) (N := some 154) #[true, true, true, true, true, true, true, true, true, true, true, true, true, true, true, true, true, true, true, true, true, true, true, true, true, true, true, true, true, true, true, true, true, true, true, true, true, true, true, true, true, true, true, true, true, true, true, true, true, true, true, true, true, true, true, true, true, true, true, true, true, true, true, true, true, false, false, false, false, false, false, false, false, false, false, false, false, false, false, false, false, false, false, false, false, false, false, false, false, false, false, false, false, false, false, false, false, false, false, false, false, false, false, false, false, false, false] rfl rfl (one_of HT_.out z12_14) (by decide) (fun K hK => ?_)
                      refine goes_ Try.func76 z12_14 rfl #[.agg #[.int .i64 t554, .int .i64 t555]] (by rfl) rfl rfl z12_1 ?_
                      with_reducible refine (spec_DotOk.calls t554 t555 t574 _ A56.out).mono ?_
                      rintro e w97 ⟨rfl, hb⟩
                      refine ⟨_, rfl, ?_⟩
                      have n0_ := Aside0.mk (Kd.R_below z12_5 hb)
                      have n1_ := Aside0.mk (Kd.R_below z12_4 hb)
                      have n2_ := Aside0.mk (Kd.R_below z12_3 hb)
                      have n3_ := Aside0.mk (Kd.R_below z12_2 hb)
                      have n4_ := Aside0.mk (Kd.R_below z12_7 hb)
                      have n5_ := Aside0.mk (Kd.R_below z12_9 hb)
                      have n6_ := Aside0.mk (Kd.R_below z12_8 hb)
                      have n7_ := Aside0.mk (Kd.R_below z12_11 hb)
                      have n8_ := Aside0.mk (Kd.R_below z12_13 hb)
                      have n9_ := Aside0.mk (Kd.R_below z12_15 hb)
                      have n10_ := Aside0.mk (blk_below (g := gb553) (o := .cells #[.int .i64 t551, .int .i64 t552] 29 (0, 0)) z12_10 hb)
                      have n11_ := Aside0.mk (blk_below (g := gb556) (o := .cells #[.int .i64 t554, .int .i64 t555] 29 (0, 0)) z12_12 hb)
                      have n12_ := Aside0.mk (below_step z12_0 hb)
                      clear HO_3
                      clear HO_4
                      clear HO_5
                      clear HO_6
                      clear HO_7
                      clear HO545
                      clear HO547
                      clear HO550
                      clear HO563
                      clear HO568
                      clear BK553
                      clear BK556
                      clear HB
                      have HO_3 := n0_
                      have HO_4 := n1_
                      have HO_5 := n2_
                      have HO_6 := n3_
                      have HO_7 := n4_
                      have HO545 := n5_
                      have HO547 := n6_
                      have HO550 := n7_
                      have HO563 := n8_
                      have HO568 := n9_
                      have BK553 := n10_
                      have BK556 := n11_
                      have HB := n12_
                      clear n0_ n1_ n2_ n3_ n4_ n5_ n6_ n7_ n8_ n9_ n10_ n11_ n12_
                      (try clear hb)
                      (try clear hb2)
                      (try clear hk)
                      (try clear hi)
                      refine hK.out _ _ ⟨(blk_cell BK553.out 0).trans rfl, (blk_cell BK553.out 1).trans rfl, (blk_cell BK556.out 0).trans rfl, (blk_cell BK556.out 1).trans rfl⟩ (fun hHeld => ?_)
                      clear hK K
                      refine norm_ (a' := ?_) ?_ ?_
                      rotate_left
                      ·
                       show Act.put _ (some 154) _ = _
                       simp only [Act.put, List.setIfInBounds_toArray, List.set_cons_zero, List.set_cons_succ, i64_w, i32_w]
                       rfl
                      refine pure_ (i := 65) (N := some 155) (v := ?_) (a' := ?_) #[true, true, true, true, true, true, true, true, true, true, true, true, true, true, true, true, true, true, true, true, true, true, true, true, true, true, true, true, true, true, true, true, true, true, true, true, true, true, true, true, true, true, true, true, true, true, true, true, true, true, true, true, true, true, true, true, true, true, true, true, true, true, true, true, true, true, false, false, false, false, false, false, false, false, false, false, false, false, false, false, false, false, false, false, false, false, false, false, false, false, false, false, false, false, false, false, false, false, false, false, false, false, false, false, false, false, false] rfl rfl (any_of HT_.out z12_14) (fun _ _ _ h => h) (Or.inl ⟨by rfl, ?_⟩) ?_ ?_
                      rotate_left
                      ·
                       intro w'
                       go_simp
                       with_reducible rfl
                      rotate_left
                      ·
                       simp only [Act.put, List.setIfInBounds_toArray, List.set_cons_zero, List.set_cons_succ, i64_w, i32_w]
                       rfl
                      refine pure_ (i := 66) (N := some 156) (v := ?_) (a' := ?_) #[true, true, true, true, true, true, true, true, true, true, true, true, true, true, true, true, true, true, true, true, true, true, true, true, true, true, true, true, true, true, true, true, true, true, true, true, true, true, true, true, true, true, true, true, true, true, true, true, true, true, true, true, true, true, true, true, true, true, true, true, true, true, true, true, true, true, true, false, false, false, false, false, false, false, false, false, false, false, false, false, false, false, false, false, false, false, false, false, false, false, false, false, false, false, false, false, false, false, false, false, false, false, false, false, false, false, false] rfl rfl (any_of HT_.out z12_14) (fun _ _ _ h => h) (Or.inl ⟨by rfl, ?_⟩) ?_ ?_
                      rotate_left
                      ·
                       intro w'
                       go_simp
                       with_reducible rfl
                      rotate_left
                      ·
                       simp only [Act.put, List.setIfInBounds_toArray, List.set_cons_zero, List.set_cons_succ, i64_w, i32_w]
                       rfl
                      refine pure_ (i := 67) (N := some 157) (v := ?_) (a' := ?_) #[true, true, true, true, true, true, true, true, true, true, true, true, true, true, true, true, true, true, true, true, true, true, true, true, true, true, true, true, true, true, true, true, true, true, true, true, true, true, true, true, true, true, true, true, true, true, true, true, true, true, true, true, true, true, true, true, true, true, true, true, true, true, true, true, true, true, true, true, false, false, false, false, false, false, false, false, false, false, false, false, false, false, false, false, false, false, false, false, false, false, false, false, false, false, false, false, false, false, false, false, false, false, false, false, false, false, false] rfl rfl (any_of HT_.out z12_14) (fun _ _ _ h => h) (Or.inl ⟨by rfl, ?_⟩) ?_ ?_
                      rotate_left
                      ·
                       intro w'
                       go_simp
                       with_reducible rfl
                      rotate_left
                      ·
                       simp only [Act.put, List.setIfInBounds_toArray, List.set_cons_zero, List.set_cons_succ, i64_w, i32_w]
                       rfl
                      refine pure_ (i := 68) (N := some 158) (v := ?_) (a' := ?_) #[true, true, true, true, true, true, true, true, true, true, true, true, true, true, true, true, true, true, true, true, true, true, true, true, true, true, true, true, true, true, true, true, true, true, true, true, true, true, true, true, true, true, true, true, true, true, true, true, true, true, true, true, true, true, true, true, true, true, true, true, true, true, true, true, true, true, true, true, true, false, false, false, false, false, false, false, false, false, false, false, false, false, false, false, false, false, false, false, false, false, false, false, false, false, false, false, false, false, false, false, false, false, false, false, false, false, false] rfl rfl (any_of HT_.out z12_14) (fun _ _ _ h => h) (Or.inl ⟨by rfl, ?_⟩) ?_ ?_
                      rotate_left
                      ·
                       intro w'
                       go_simp
                       with_reducible rfl
                      rotate_left
                      ·
                       simp only [Act.put, List.setIfInBounds_toArray, List.set_cons_zero, List.set_cons_succ, i64_w, i32_w]
                       rfl
                      refine pure_ (i := 69) (N := some 159) (v := ?_) (a' := ?_) #[true, true, true, true, true, true, true, true, true, true, true, true, true, true, true, true, true, true, true, true, true, true, true, true, true, true, true, true, true, true, true, true, true, true, true, true, true, true, true, true, true, true, true, true, true, true, true, true, true, true, true, true, true, true, true, true, true, true, true, true, true, true, true, true, true, true, true, true, true, true, false, false, false, false, false, false, false, false, false, false, false, false, false, false, false, false, false, false, false, false, false, false, false, false, false, false, false, false, false, false, false, false, false, false, false, false, false] rfl rfl (any_of HT_.out z12_14) (fun _ _ _ h => h) (Or.inl ⟨by rfl, ?_⟩) ?_ ?_
                      rotate_left
                      ·
                       intro w'
                       go_simp
                       with_reducible rfl
                      rotate_left
                      ·
                       simp only [Act.put, List.setIfInBounds_toArray, List.set_cons_zero, List.set_cons_succ, i64_w, i32_w]
                       rfl
                      refine pure_ (i := 71) (N := some 161) (v := ?_) (a' := ?_) #[true, true, true, true, true, true, true, true, true, true, true, true, true, true, true, true, true, true, true, true, true, true, true, true, true, true, true, true, true, true, true, true, true, true, true, true, true, true, true, true, true, true, true, true, true, true, true, true, true, true, true, true, true, true, true, true, true, true, true, true, true, true, true, true, true, true, true, true, true, true, false, true, false, false, false, false, false, false, false, false, false, false, false, false, false, false, false, false, false, false, false, false, false, false, false, false, false, false, false, false, false, false, false, false, false, false, false] rfl rfl (any_of HT_.out z12_14) (fun _ _ _ h => h) (Or.inl ⟨by rfl, ?_⟩) ?_ ?_
                      rotate_left
                      ·
                       intro w'
                       go_simp
                       with_reducible rfl
                      rotate_left
                      ·
                       simp only [Act.put, List.setIfInBounds_toArray, List.set_cons_zero, List.set_cons_succ, i64_w, i32_w]
                       rfl
                      refine pure_ (i := 72) (N := some 162) (v := ?_) (a' := ?_) #[true, true, true, true, true, true, true, true, true, true, true, true, true, true, true, true, true, true, true, true, true, true, true, true, true, true, true, true, true, true, true, true, true, true, true, true, true, true, true, true, true, true, true, true, true, true, true, true, true, true, true, true, true, true, true, true, true, true, true, true, true, true, true, true, true, true, true, true, true, true, false, true, true, false, false, false, false, false, false, false, false, false, false, false, false, false, false, false, false, false, false, false, false, false, false, false, false, false, false, false, false, false, false, false, false, false, false] rfl rfl (any_of HT_.out z12_14) (fun _ _ _ h => h) (Or.inl ⟨by rfl, ?_⟩) ?_ ?_
                      rotate_left
                      ·
                       intro w'
                       go_simp
                       with_reducible rfl
                      rotate_left
                      ·
                       simp only [Act.put, List.setIfInBounds_toArray, List.set_cons_zero, List.set_cons_succ, i64_w, i32_w]
                       rfl
                      refine one_ (i := 70) (N := some 160) #[true, true, true, true, true, true, true, true, true, true, true, true, true, true, true, true, true, true, true, true, true, true, true, true, true, true, true, true, true, true, true, true, true, true, true, true, true, true, true, true, true, true, true, true, true, true, true, true, true, true, true, true, true, true, true, true, true, true, true, true, true, true, true, true, true, true, true, true, true, true, true, true, true, false, false, false, false, false, false, false, false, false, false, false, false, false, false, false, false, false, false, false, false, false, false, false, false, false, false, false, false, false, false, false, false, false, false] rfl rfl (one_of HT_.out z12_14) (by decide) (fun K hK => ?_)
                      refine goes_ Try.func64 z12_14 rfl #[.slice Ao91 t542.length co91, .slice Ao92 t543.length co92] (by rfl) rfl rfl z12_1 ?_
                      with_reducible refine (impl_KnowMax.calls k2 _ _ t542 _ _ t543 t575 _ ?side1 ?side2 ?side3 ?side4 A58.out).mono ?_
                      (case side1 => repeat (first | exact (Kd.R_reads' HO545.out).2.2 | (with_reducible refine Kd.C_alloc ?_ _) | (with_reducible refine Kd.C_drewN ?_ _) | (with_reducible refine Kd.C_drew ?_)))
                      (case side2 => exact (Kd.R_reads' HO545.out).2.1)
                      (case side3 => repeat (first | exact (Kd.R_reads' HO547.out).2.2 | (with_reducible refine Kd.C_alloc ?_ _) | (with_reducible refine Kd.C_drewN ?_ _) | (with_reducible refine Kd.C_drew ?_)))
                      (case side4 => exact (Kd.R_reads' HO547.out).2.1)
                      rintro e w98 ⟨v576, rfl, ho0, hb⟩
                      refine ⟨_, rfl, ?_⟩
                      have n0_ := Aside0.mk (Kd.R_elder' z12_5 (Kd.R_base ho0) hb)
                      have n1_ := Aside0.mk (Kd.R_elder' z12_4 (Kd.R_base ho0) hb)
                      have n2_ := Aside0.mk (Kd.R_elder' z12_3 (Kd.R_base ho0) hb)
                      have n3_ := Aside0.mk (Kd.R_elder' z12_2 (Kd.R_base ho0) hb)
                      have n4_ := Aside0.mk (Kd.R_below z12_7 hb)
                      have n5_ := Aside0.mk (Kd.R_elder' z12_9 (Kd.R_base ho0) hb)
                      have n6_ := Aside0.mk (Kd.R_elder' z12_8 (Kd.R_base ho0) hb)
                      have n7_ := Aside0.mk (Kd.R_elder' z12_11 (Kd.R_base ho0) hb)
                      have n8_ := Aside0.mk (Kd.R_elder' z12_13 (Kd.R_base ho0) hb)
                      have n9_ := Aside0.mk (Kd.R_below z12_15 hb)
                      have n10_ := Aside0.mk (Kd.R_lower (Kd.R_new' (Kd.R_new' (Kd.R_new' (Kd.R_new' (Kd.R_new' (Kd.R_new' (Kd.R_new' (Kd.R_new' ho0 (Kd.R_lt z12_5)) (Kd.R_lt z12_4)) (Kd.R_lt z12_3)) (Kd.R_lt z12_2)) (Kd.R_lt z12_9)) (Kd.R_lt z12_8)) (Kd.R_lt z12_11)) (Kd.R_lt z12_13)) (below_size z12_0))
                      have n11_ := Aside0.mk (blk_below (g := gb553) (o := .cells #[.int .i64 t551, .int .i64 t552] 29 (0, 0)) z12_10 hb)
                      have n12_ := Aside0.mk (blk_below (g := gb556) (o := .cells #[.int .i64 t554, .int .i64 t555] 29 (0, 0)) z12_12 hb)
                      have n13_ := Aside0.mk (below_step z12_0 hb)
                      clear HO_3
                      clear HO_4
                      clear HO_5
                      clear HO_6
                      clear HO_7
                      clear HO545
                      clear HO547
                      clear HO550
                      clear HO563
                      clear HO568
                      clear BK553
                      clear BK556
                      clear HB
                      have HO_3 := n0_
                      have HO_4 := n1_
                      have HO_5 := n2_
                      have HO_6 := n3_
                      have HO_7 := n4_
                      have HO545 := n5_
                      have HO547 := n6_
                      have HO550 := n7_
                      have HO563 := n8_
                      have HO568 := n9_
                      have HO577 := n10_
                      have BK553 := n11_
                      have BK556 := n12_
                      have HB := n13_
                      clear n0_ n1_ n2_ n3_ n4_ n5_ n6_ n7_ n8_ n9_ n10_ n11_ n12_ n13_
                      (try clear hb)
                      (try clear hb2)
                      (try clear hk)
                      (try clear hi)
                      (try clear ho0)
                      refine hK.out _ _ ⟨(blk_cell BK553.out 0).trans rfl, (blk_cell BK553.out 1).trans rfl, (blk_cell BK556.out 0).trans rfl, (blk_cell BK556.out 1).trans rfl⟩ (fun hHeld => ?_)
                      clear hK K
                      refine norm_ (a' := ?_) ?_ ?_
                      rotate_left
                      ·
                       show Act.put _ (some 160) _ = _
                       simp only [Act.put, List.setIfInBounds_toArray, List.set_cons_zero, List.set_cons_succ, i64_w, i32_w]
                       rfl
                      refine one_ (i := 73) (N := some 163) #[true, true, true, true, true, true, true, true, true, true, true, true, true, true, true, true, true, true, true, true, true, true, true, true, true, true, true, true, true, true, true, true, true, true, true, true, true, true, true, true, true, true, true, true, true, true, true, true, true, true, true, true, true, true, true, true, true, true, true, true, true, true, true, true, true, true, true, true, true, true, true, true, true, true, false, false, false, false, false, false, false, false, false, false, false, false, false, false, false, false, false, false, false, false, false, false, false, false, false, false, false, false, false, false, false, false, false] rfl rfl (one_of HT_.out z12_14) (by decide) (fun K hK => ?_)
                      refine goes_ Try.func77 z12_14 rfl #[.slice Ao91 t542.length co91, .slice Ao92 t543.length co92] (by rfl) rfl rfl z12_1 ?_
                      with_reducible refine (spec_KnowMax.calls k2 _ _ t542 _ _ t543 t578 _ ?side1 ?side2 ?side3 ?side4 A59.out).mono ?_
                      (case side1 => repeat (first | exact (Kd.R_reads' HO545.out).2.2 | (with_reducible refine Kd.C_alloc ?_ _) | (with_reducible refine Kd.C_drewN ?_ _) | (with_reducible refine Kd.C_drew ?_)))
                      (case side2 => exact (Kd.R_reads' HO545.out).2.1)
                      (case side3 => repeat (first | exact (Kd.R_reads' HO547.out).2.2 | (with_reducible refine Kd.C_alloc ?_ _) | (with_reducible refine Kd.C_drewN ?_ _) | (with_reducible refine Kd.C_drew ?_)))
                      (case side4 => exact (Kd.R_reads' HO547.out).2.1)
                      rintro e w99 ⟨v579, rfl, ho0, hb⟩
                      refine ⟨_, rfl, ?_⟩
                      have n0_ := Aside0.mk (Kd.R_elder' z12_5 (Kd.R_base ho0) hb)
                      have n1_ := Aside0.mk (Kd.R_elder' z12_4 (Kd.R_base ho0) hb)
                      have n2_ := Aside0.mk (Kd.R_elder' z12_3 (Kd.R_base ho0) hb)
                      have n3_ := Aside0.mk (Kd.R_elder' z12_2 (Kd.R_base ho0) hb)
                      have n4_ := Aside0.mk (Kd.R_below z12_7 hb)
                      have n5_ := Aside0.mk (Kd.R_elder' z12_9 (Kd.R_base ho0) hb)
                      have n6_ := Aside0.mk (Kd.R_elder' z12_8 (Kd.R_base ho0) hb)
                      have n7_ := Aside0.mk (Kd.R_elder' z12_11 (Kd.R_base ho0) hb)
                      have n8_ := Aside0.mk (Kd.R_elder' z12_13 (Kd.R_base ho0) hb)
                      have n9_ := Aside0.mk (Kd.R_below z12_15 hb)
                      have n10_ := Aside0.mk (Kd.R_elder' z12_16 (Kd.R_base ho0) hb)
                      have n11_ := Aside0.mk (Kd.R_lower (Kd.R_new' (Kd.R_new' (Kd.R_new' (Kd.R_new' (Kd.R_new' (Kd.R_new' (Kd.R_new' (Kd.R_new' (Kd.R_new' ho0 (Kd.R_lt z12_5)) (Kd.R_lt z12_4)) (Kd.R_lt z12_3)) (Kd.R_lt z12_2)) (Kd.R_lt z12_9)) (Kd.R_lt z12_8)) (Kd.R_lt z12_11)) (Kd.R_lt z12_13)) (Kd.R_lt z12_16)) (below_size z12_0))
                      have n12_ := Aside0.mk (blk_below (g := gb553) (o := .cells #[.int .i64 t551, .int .i64 t552] 29 (0, 0)) z12_10 hb)
                      have n13_ := Aside0.mk (blk_below (g := gb556) (o := .cells #[.int .i64 t554, .int .i64 t555] 29 (0, 0)) z12_12 hb)
                      have n14_ := Aside0.mk (below_step z12_0 hb)
                      clear HO_3
                      clear HO_4
                      clear HO_5
                      clear HO_6
                      clear HO_7
                      clear HO545
                      clear HO547
                      clear HO550
                      clear HO563
                      clear HO568
                      clear HO577
                      clear BK553
                      clear BK556
                      clear HB
                      have HO_3 := n0_
                      have HO_4 := n1_
                      have HO_5 := n2_
                      have HO_6 := n3_
                      have HO_7 := n4_
                      have HO545 := n5_
                      have HO547 := n6_
                      have HO550 := n7_
                      have HO563 := n8_
                      have HO568 := n9_
                      have HO577 := n10_
                      have HO580 := n11_
                      have BK553 := n12_
                      have BK556 := n13_
                      have HB := n14_
                      clear n0_ n1_ n2_ n3_ n4_ n5_ n6_ n7_ n8_ n9_ n10_ n11_ n12_ n13_ n14_
                      (try clear hb)
                      (try clear hb2)
                      (try clear hk)
                      (try clear hi)
                      (try clear ho0)
                      obtain ⟨Ao100, co100, eo100⟩ := Kd.R_slice HO577.out
                      (first | subst eo100 | (injection eo100 with f1_ f2_ f3_; have f4_ := f1_.symm; have f5_ := f3_.symm; clear f1_ f2_ f3_; subst f4_; subst f5_))
                      obtain ⟨Ao101, co101, eo101⟩ := Kd.R_slice HO580.out
                      (first | subst eo101 | (injection eo101 with f1_ f2_ f3_; have f4_ := f1_.symm; have f5_ := f3_.symm; clear f1_ f2_ f3_; subst f4_; subst f5_))
                      refine hK.out _ _ ⟨(blk_cell BK553.out 0).trans rfl, (blk_cell BK553.out 1).trans rfl, (blk_cell BK556.out 0).trans rfl, (blk_cell BK556.out 1).trans rfl⟩ (fun hHeld => ?_)
                      clear hK K
                      refine norm_ (a' := ?_) ?_ ?_
                      rotate_left
                      ·
                       show Act.put _ (some 163) _ = _
                       simp only [Act.put, List.setIfInBounds_toArray, List.set_cons_zero, List.set_cons_succ, i64_w, i32_w]
                       rfl
                      refine one_ (i := 74) (N := some 164) #[true, true, true, true, true, true, true, true, true, true, true, true, true, true, true, true, true, true, true, true, true, true, true, true, true, true, true, true, true, true, true, true, true, true, true, true, true, true, true, true, true, true, true, true, true, true, true, true, true, true, true, true, true, true, true, true, true, true, true, true, true, true, true, true, true, true, true, true, true, true, true, true, true, true, true, false, false, false, false, false, false, false, false, false, false, false, false, false, false, false, false, false, false, false, false, false, false, false, false, false, false, false, false, false, false, false, false] rfl rfl (one_of HT_.out z12_14) (by decide) (fun K hK => ?_)
                      refine goes_ Try.func73 z12_14 rfl #[.slice Ao100 t575.length co100, .slice Ao101 t578.length co101] (by rfl) rfl rfl z12_1 ?_
                      with_reducible refine (laws_sameInts.calls k2 _ _ t575 _ _ t578 true _ ?side1 ?side2 ?side3 ?side4 A60.out).mono ?_
                      (case side1 => repeat (first | exact (Kd.R_reads' HO577.out).2.2 | (with_reducible refine Kd.C_alloc ?_ _) | (with_reducible refine Kd.C_drewN ?_ _) | (with_reducible refine Kd.C_drew ?_)))
                      (case side2 => exact (Kd.R_reads' HO577.out).2.1)
                      (case side3 => repeat (first | exact (Kd.R_reads' HO580.out).2.2 | (with_reducible refine Kd.C_alloc ?_ _) | (with_reducible refine Kd.C_drewN ?_ _) | (with_reducible refine Kd.C_drew ?_)))
                      (case side4 => exact (Kd.R_reads' HO580.out).2.1)
                      rintro e w' ⟨rfl, ⟨nd, rfl⟩⟩
                      refine ⟨_, rfl, ?_⟩
                      refine hK.out _ _ ⟨(blk_cell BK553.out 0).trans rfl, (blk_cell BK553.out 1).trans rfl, (blk_cell BK556.out 0).trans rfl, (blk_cell BK556.out 1).trans rfl⟩ (fun hHeld => ?_)
                      clear hK K
                      refine norm_ (a' := ?_) ?_ ?_
                      rotate_left
                      ·
                       show Act.put _ (some 164) _ = _
                       simp only [Act.put, List.setIfInBounds_toArray, List.set_cons_zero, List.set_cons_succ, i64_w, i32_w]
                       rfl
                      refine pure_ (i := 75) (N := some 165) (v := ?_) (a' := ?_) #[true, true, true, true, true, true, true, true, true, true, true, true, true, true, true, true, true, true, true, true, true, true, true, true, true, true, true, true, true, true, true, true, true, true, true, true, true, true, true, true, true, true, true, true, true, true, true, true, true, true, true, true, true, true, true, true, true, true, true, true, true, true, true, true, true, true, true, true, true, true, true, true, true, true, true, true, false, false, false, false, false, false, false, false, false, false, false, false, false, false, false, false, false, false, false, false, false, false, false, false, false, false, false, false, false, false, false] rfl rfl (any_of HT_.out z12_14) (fun _ _ _ h => h) (Or.inl ⟨by rfl, ?_⟩) ?_ ?_
                      rotate_left
                      ·
                       intro w'
                       go_simp
                       with_reducible rfl
                      rotate_left
                      ·
                       simp only [Act.put, List.setIfInBounds_toArray, List.set_cons_zero, List.set_cons_succ, i64_w, i32_w]
                       rfl
                      refine pure_ (i := 76) (N := some 166) (v := ?_) (a' := ?_) #[true, true, true, true, true, true, true, true, true, true, true, true, true, true, true, true, true, true, true, true, true, true, true, true, true, true, true, true, true, true, true, true, true, true, true, true, true, true, true, true, true, true, true, true, true, true, true, true, true, true, true, true, true, true, true, true, true, true, true, true, true, true, true, true, true, true, true, true, true, true, true, true, true, true, true, true, true, false, false, false, false, false, false, false, false, false, false, false, false, false, false, false, false, false, false, false, false, false, false, false, false, false, false, false, false, false, false] rfl rfl (any_of HT_.out z12_14) (fun _ _ _ h => h) (Or.inl ⟨by rfl, ?_⟩) ?_ ?_
                      rotate_left
                      ·
                       intro w'
                       go_simp
                       with_reducible rfl
                      rotate_left
                      ·
                       simp only [Act.put, List.setIfInBounds_toArray, List.set_cons_zero, List.set_cons_succ, i64_w, i32_w]
                       rfl
                      refine pure_ (i := 77) (N := some 167) (v := ?_) (a' := ?_) #[true, true, true, true, true, true, true, true, true, true, true, true, true, true, true, true, true, true, true, true, true, true, true, true, true, true, true, true, true, true, true, true, true, true, true, true, true, true, true, true, true, true, true, true, true, true, true, true, true, true, true, true, true, true, true, true, true, true, true, true, true, true, true, true, true, true, true, true, true, true, true, true, true, true, true, true, true, true, false, false, false, false, false, false, false, false, false, false, false, false, false, false, false, false, false, false, false, false, false, false, false, false, false, false, false, false, false] rfl rfl (any_of HT_.out z12_14) (fun _ _ _ h => h) (Or.inl ⟨by rfl, ?_⟩) ?_ ?_
                      rotate_left
                      ·
                       intro w'
                       go_simp
                       with_reducible rfl
                      rotate_left
                      ·
                       simp only [Act.put, List.setIfInBounds_toArray, List.set_cons_zero, List.set_cons_succ, i64_w, i32_w]
                       rfl
                      refine pure_ (i := 78) (N := some 168) (v := ?_) (a' := ?_) #[true, true, true, true, true, true, true, true, true, true, true, true, true, true, true, true, true, true, true, true, true, true, true, true, true, true, true, true, true, true, true, true, true, true, true, true, true, true, true, true, true, true, true, true, true, true, true, true, true, true, true, true, true, true, true, true, true, true, true, true, true, true, true, true, true, true, true, true, true, true, true, true, true, true, true, true, true, true, true, false, false, false, false, false, false, false, false, false, false, false, false, false, false, false, false, false, false, false, false, false, false, false, false, false, false, false, false] rfl rfl (any_of HT_.out z12_14) (fun _ _ _ h => h) (Or.inl ⟨by rfl, ?_⟩) ?_ ?_
                      rotate_left
                      ·
                       intro w'
                       go_simp
                       with_reducible rfl
                      rotate_left
                      ·
                       simp only [Act.put, List.setIfInBounds_toArray, List.set_cons_zero, List.set_cons_succ, i64_w, i32_w]
                       rfl
                      refine pure_ (i := 80) (N := some 170) (v := ?_) (a' := ?_) #[true, true, true, true, true, true, true, true, true, true, true, true, true, true, true, true, true, true, true, true, true, true, true, true, true, true, true, true, true, true, true, true, true, true, true, true, true, true, true, true, true, true, true, true, true, true, true, true, true, true, true, true, true, true, true, true, true, true, true, true, true, true, true, true, true, true, true, true, true, true, true, true, true, true, true, true, true, true, true, false, true, false, false, false, false, false, false, false, false, false, false, false, false, false, false, false, false, false, false, false, false, false, false, false, false, false, false] rfl rfl (any_of HT_.out z12_14) (fun _ _ _ h => h) (Or.inl ⟨by rfl, ?_⟩) ?_ ?_
                      rotate_left
                      ·
                       intro w'
                       go_simp
                       with_reducible rfl
                      rotate_left
                      ·
                       simp only [Act.put, List.setIfInBounds_toArray, List.set_cons_zero, List.set_cons_succ, i64_w, i32_w]
                       rfl
                      refine pure_ (i := 81) (N := some 171) (v := ?_) (a' := ?_) #[true, true, true, true, true, true, true, true, true, true, true, true, true, true, true, true, true, true, true, true, true, true, true, true, true, true, true, true, true, true, true, true, true, true, true, true, true, true, true, true, true, true, true, true, true, true, true, true, true, true, true, true, true, true, true, true, true, true, true, true, true, true, true, true, true, true, true, true, true, true, true, true, true, true, true, true, true, true, true, false, true, true, false, false, false, false, false, false, false, false, false, false, false, false, false, false, false, false, false, false, false, false, false, false, false, false, false] rfl rfl (any_of HT_.out z12_14) (fun _ _ _ h => h) (Or.inl ⟨by rfl, ?_⟩) ?_ ?_
                      rotate_left
                      ·
                       intro w'
                       go_simp
                       with_reducible rfl
                      rotate_left
                      ·
                       simp only [Act.put, List.setIfInBounds_toArray, List.set_cons_zero, List.set_cons_succ, i64_w, i32_w]
                       rfl
                      refine one_ (i := 79) (N := some 169) #[true, true, true, true, true, true, true, true, true, true, true, true, true, true, true, true, true, true, true, true, true, true, true, true, true, true, true, true, true, true, true, true, true, true, true, true, true, true, true, true, true, true, true, true, true, true, true, true, true, true, true, true, true, true, true, true, true, true, true, true, true, true, true, true, true, true, true, true, true, true, true, true, true, true, true, true, true, true, true, true, true, true, false, false, false, false, false, false, false, false, false, false, false, false, false, false, false, false, false, false, false, false, false, false, false, false, false] rfl rfl (one_of HT_.out z12_14) (by decide) (fun K hK => ?_)
                      refine goes_ Try.func65 z12_14 rfl #[.slice Ao91 t542.length co91, .slice Ao92 t543.length co92] (by rfl) rfl rfl z12_1 ?_
                      with_reducible refine (impl_KnowMin.calls k2 _ _ t542 _ _ t543 t582 _ ?side1 ?side2 ?side3 ?side4 A62.out).mono ?_
                      (case side1 => repeat (first | exact (Kd.R_reads' HO545.out).2.2 | (with_reducible refine Kd.C_alloc ?_ _) | (with_reducible refine Kd.C_drewN ?_ _) | (with_reducible refine Kd.C_drew ?_)))
                      (case side2 => exact (Kd.R_reads' HO545.out).2.1)
                      (case side3 => repeat (first | exact (Kd.R_reads' HO547.out).2.2 | (with_reducible refine Kd.C_alloc ?_ _) | (with_reducible refine Kd.C_drewN ?_ _) | (with_reducible refine Kd.C_drew ?_)))
                      (case side4 => exact (Kd.R_reads' HO547.out).2.1)
                      rintro e w102 ⟨v583, rfl, ho0, hb⟩
                      refine ⟨_, rfl, ?_⟩
                      have n0_ := Aside0.mk (Kd.R_elder' z12_5 (Kd.R_base ho0) hb)
                      have n1_ := Aside0.mk (Kd.R_elder' z12_4 (Kd.R_base ho0) hb)
                      have n2_ := Aside0.mk (Kd.R_elder' z12_3 (Kd.R_base ho0) hb)
                      have n3_ := Aside0.mk (Kd.R_elder' z12_2 (Kd.R_base ho0) hb)
                      have n4_ := Aside0.mk (Kd.R_below z12_7 hb)
                      have n5_ := Aside0.mk (Kd.R_elder' z12_9 (Kd.R_base ho0) hb)
                      have n6_ := Aside0.mk (Kd.R_elder' z12_8 (Kd.R_base ho0) hb)
                      have n7_ := Aside0.mk (Kd.R_elder' z12_11 (Kd.R_base ho0) hb)
                      have n8_ := Aside0.mk (Kd.R_elder' z12_13 (Kd.R_base ho0) hb)
                      have n9_ := Aside0.mk (Kd.R_below z12_15 hb)
                      have n10_ := Aside0.mk (Kd.R_elder' z12_16 (Kd.R_base ho0) hb)
                      have n11_ := Aside0.mk (Kd.R_elder' z12_17 (Kd.R_base ho0) hb)
                      have n12_ := Aside0.mk (Kd.R_lower (Kd.R_new' (Kd.R_new' (Kd.R_new' (Kd.R_new' (Kd.R_new' (Kd.R_new' (Kd.R_new' (Kd.R_new' (Kd.R_new' (Kd.R_new' ho0 (Kd.R_lt z12_5)) (Kd.R_lt z12_4)) (Kd.R_lt z12_3)) (Kd.R_lt z12_2)) (Kd.R_lt z12_9)) (Kd.R_lt z12_8)) (Kd.R_lt z12_11)) (Kd.R_lt z12_13)) (Kd.R_lt z12_16)) (Kd.R_lt z12_17)) (below_size z12_0))
                      have n13_ := Aside0.mk (blk_below (g := gb553) (o := .cells #[.int .i64 t551, .int .i64 t552] 29 (0, 0)) z12_10 hb)
                      have n14_ := Aside0.mk (blk_below (g := gb556) (o := .cells #[.int .i64 t554, .int .i64 t555] 29 (0, 0)) z12_12 hb)
                      have n15_ := Aside0.mk (below_step z12_0 hb)
                      clear HO_3
                      clear HO_4
                      clear HO_5
                      clear HO_6
                      clear HO_7
                      clear HO545
                      clear HO547
                      clear HO550
                      clear HO563
                      clear HO568
                      clear HO577
                      clear HO580
                      clear BK553
                      clear BK556
                      clear HB
                      have HO_3 := n0_
                      have HO_4 := n1_
                      have HO_5 := n2_
                      have HO_6 := n3_
                      have HO_7 := n4_
                      have HO545 := n5_
                      have HO547 := n6_
                      have HO550 := n7_
                      have HO563 := n8_
                      have HO568 := n9_
                      have HO577 := n10_
                      have HO580 := n11_
                      have HO584 := n12_
                      have BK553 := n13_
                      have BK556 := n14_
                      have HB := n15_
                      clear n0_ n1_ n2_ n3_ n4_ n5_ n6_ n7_ n8_ n9_ n10_ n11_ n12_ n13_ n14_ n15_
                      (try clear hb)
                      (try clear hb2)
                      (try clear hk)
                      (try clear hi)
                      (try clear ho0)
                      refine hK.out _ _ ⟨(blk_cell BK553.out 0).trans rfl, (blk_cell BK553.out 1).trans rfl, (blk_cell BK556.out 0).trans rfl, (blk_cell BK556.out 1).trans rfl⟩ (fun hHeld => ?_)
                      clear hK K
                      refine norm_ (a' := ?_) ?_ ?_
                      rotate_left
                      ·
                       show Act.put _ (some 169) _ = _
                       simp only [Act.put, List.setIfInBounds_toArray, List.set_cons_zero, List.set_cons_succ, i64_w, i32_w]
                       rfl
                      refine one_ (i := 82) (N := some 172) #[true, true, true, true, true, true, true, true, true, true, true, true, true, true, true, true, true, true, true, true, true, true, true, true, true, true, true, true, true, true, true, true, true, true, true, true, true, true, true, true, true, true, true, true, true, true, true, true, true, true, true, true, true, true, true, true, true, true, true, true, true, true, true, true, true, true, true, true, true, true, true, true, true, true, true, true, true, true, true, true, true, true, true, false, false, false, false, false, false, false, false, false, false, false, false, false, false, false, false, false, false, false, false, false, false, false, false] rfl rfl (one_of HT_.out z12_14) (by decide) (fun K hK => ?_)
                      refine goes_ Try.func78 z12_14 rfl #[.slice Ao91 t542.length co91, .slice Ao92 t543.length co92] (by rfl) rfl rfl z12_1 ?_
                      with_reducible refine (spec_KnowMin.calls k2 _ _ t542 _ _ t543 t585 _ ?side1 ?side2 ?side3 ?side4 A63.out).mono ?_
                      (case side1 => repeat (first | exact (Kd.R_reads' HO545.out).2.2 | (with_reducible refine Kd.C_alloc ?_ _) | (with_reducible refine Kd.C_drewN ?_ _) | (with_reducible refine Kd.C_drew ?_)))
                      (case side2 => exact (Kd.R_reads' HO545.out).2.1)
                      (case side3 => repeat (first | exact (Kd.R_reads' HO547.out).2.2 | (with_reducible refine Kd.C_alloc ?_ _) | (with_reducible refine Kd.C_drewN ?_ _) | (with_reducible refine Kd.C_drew ?_)))
                      (case side4 => exact (Kd.R_reads' HO547.out).2.1)
                      rintro e w103 ⟨v586, rfl, ho0, hb⟩
                      refine ⟨_, rfl, ?_⟩
                      have n0_ := Aside0.mk (Kd.R_elder' z12_5 (Kd.R_base ho0) hb)
                      have n1_ := Aside0.mk (Kd.R_elder' z12_4 (Kd.R_base ho0) hb)
                      have n2_ := Aside0.mk (Kd.R_elder' z12_3 (Kd.R_base ho0) hb)
                      have n3_ := Aside0.mk (Kd.R_elder' z12_2 (Kd.R_base ho0) hb)
                      have n4_ := Aside0.mk (Kd.R_below z12_7 hb)
                      have n5_ := Aside0.mk (Kd.R_elder' z12_9 (Kd.R_base ho0) hb)
                      have n6_ := Aside0.mk (Kd.R_elder' z12_8 (Kd.R_base ho0) hb)
                      have n7_ := Aside0.mk (Kd.R_elder' z12_11 (Kd.R_base ho0) hb)
                      have n8_ := Aside0.mk (Kd.R_elder' z12_13 (Kd.R_base ho0) hb)
                      have n9_ := Aside0.mk (Kd.R_below z12_15 hb)
                      have n10_ := Aside0.mk (Kd.R_elder' z12_16 (Kd.R_base ho0) hb)
                      have n11_ := Aside0.mk (Kd.R_elder' z12_17 (Kd.R_base ho0) hb)
                      have n12_ := Aside0.mk (Kd.R_elder' z12_19 (Kd.R_base ho0) hb)
                      have n13_ := Aside0.mk (Kd.R_lower (Kd.R_new' (Kd.R_new' (Kd.R_new' (Kd.R_new' (Kd.R_new' (Kd.R_new' (Kd.R_new' (Kd.R_new' (Kd.R_new' (Kd.R_new' (Kd.R_new' ho0 (Kd.R_lt z12_5)) (Kd.R_lt z12_4)) (Kd.R_lt z12_3)) (Kd.R_lt z12_2)) (Kd.R_lt z12_9)) (Kd.R_lt z12_8)) (Kd.R_lt z12_11)) (Kd.R_lt z12_13)) (Kd.R_lt z12_16)) (Kd.R_lt z12_17)) (Kd.R_lt z12_19)) (below_size z12_0))
                      have n14_ := Aside0.mk (blk_below (g := gb553) (o := .cells #[.int .i64 t551, .int .i64 t552] 29 (0, 0)) z12_10 hb)
                      have n15_ := Aside0.mk (blk_below (g := gb556) (o := .cells #[.int .i64 t554, .int .i64 t555] 29 (0, 0)) z12_12 hb)
                      have n16_ := Aside0.mk (below_step z12_0 hb)
                      clear HO_3
                      clear HO_4
                      clear HO_5
                      clear HO_6
                      clear HO_7
                      clear HO545
                      clear HO547
                      clear HO550
                      clear HO563
                      clear HO568
                      clear HO577
                      clear HO580
                      clear HO584
                      clear BK553
                      clear BK556
                      clear HB
                      have HO_3 := n0_
                      have HO_4 := n1_
                      have HO_5 := n2_
                      have HO_6 := n3_
                      have HO_7 := n4_
                      have HO545 := n5_
                      have HO547 := n6_
                      have HO550 := n7_
                      have HO563 := n8_
                      have HO568 := n9_
                      have HO577 := n10_
                      have HO580 := n11_
                      have HO584 := n12_
                      have HO587 := n13_
                      have BK553 := n14_
                      have BK556 := n15_
                      have HB := n16_
                      clear n0_ n1_ n2_ n3_ n4_ n5_ n6_ n7_ n8_ n9_ n10_ n11_ n12_ n13_ n14_ n15_ n16_
                      (try clear hb)
                      (try clear hb2)
                      (try clear hk)
                      (try clear hi)
                      (try clear ho0)
                      obtain ⟨Ao104, co104, eo104⟩ := Kd.R_slice HO584.out
                      (first | subst eo104 | (injection eo104 with f1_ f2_ f3_; have f4_ := f1_.symm; have f5_ := f3_.symm; clear f1_ f2_ f3_; subst f4_; subst f5_))
                      obtain ⟨Ao105, co105, eo105⟩ := Kd.R_slice HO587.out
                      (first | subst eo105 | (injection eo105 with f1_ f2_ f3_; have f4_ := f1_.symm; have f5_ := f3_.symm; clear f1_ f2_ f3_; subst f4_; subst f5_))
                      refine hK.out _ _ ⟨(blk_cell BK553.out 0).trans rfl, (blk_cell BK553.out 1).trans rfl, (blk_cell BK556.out 0).trans rfl, (blk_cell BK556.out 1).trans rfl⟩ (fun hHeld => ?_)
                      clear hK K
                      refine norm_ (a' := ?_) ?_ ?_
                      rotate_left
                      ·
                       show Act.put _ (some 172) _ = _
                       simp only [Act.put, List.setIfInBounds_toArray, List.set_cons_zero, List.set_cons_succ, i64_w, i32_w]
                       rfl
                      refine one_ (i := 83) (N := some 173) #[true, true, true, true, true, true, true, true, true, true, true, true, true, true, true, true, true, true, true, true, true, true, true, true, true, true, true, true, true, true, true, true, true, true, true, true, true, true, true, true, true, true, true, true, true, true, true, true, true, true, true, true, true, true, true, true, true, true, true, true, true, true, true, true, true, true, true, true, true, true, true, true, true, true, true, true, true, true, true, true, true, true, true, true, false, false, false, false, false, false, false, false, false, false, false, false, false, false, false, false, false, false, false, false, false, false, false] rfl rfl (one_of HT_.out z12_14) (by decide) (fun K hK => ?_)
                      refine goes_ Try.func73 z12_14 rfl #[.slice Ao104 t582.length co104, .slice Ao105 t585.length co105] (by rfl) rfl rfl z12_1 ?_
                      with_reducible refine (laws_sameInts.calls k2 _ _ t582 _ _ t585 true _ ?side1 ?side2 ?side3 ?side4 A64.out).mono ?_
                      (case side1 => repeat (first | exact (Kd.R_reads' HO584.out).2.2 | (with_reducible refine Kd.C_alloc ?_ _) | (with_reducible refine Kd.C_drewN ?_ _) | (with_reducible refine Kd.C_drew ?_)))
                      (case side2 => exact (Kd.R_reads' HO584.out).2.1)
                      (case side3 => repeat (first | exact (Kd.R_reads' HO587.out).2.2 | (with_reducible refine Kd.C_alloc ?_ _) | (with_reducible refine Kd.C_drewN ?_ _) | (with_reducible refine Kd.C_drew ?_)))
                      (case side4 => exact (Kd.R_reads' HO587.out).2.1)
                      rintro e w' ⟨rfl, ⟨nd, rfl⟩⟩
                      refine ⟨_, rfl, ?_⟩
                      refine hK.out _ _ ⟨(blk_cell BK553.out 0).trans rfl, (blk_cell BK553.out 1).trans rfl, (blk_cell BK556.out 0).trans rfl, (blk_cell BK556.out 1).trans rfl⟩ (fun hHeld => ?_)
                      clear hK K
                      refine norm_ (a' := ?_) ?_ ?_
                      rotate_left
                      ·
                       show Act.put _ (some 173) _ = _
                       simp only [Act.put, List.setIfInBounds_toArray, List.set_cons_zero, List.set_cons_succ, i64_w, i32_w]
                       rfl
                      refine pure_ (i := 84) (N := some 174) (v := ?_) (a' := ?_) #[true, true, true, true, true, true, true, true, true, true, true, true, true, true, true, true, true, true, true, true, true, true, true, true, true, true, true, true, true, true, true, true, true, true, true, true, true, true, true, true, true, true, true, true, true, true, true, true, true, true, true, true, true, true, true, true, true, true, true, true, true, true, true, true, true, true, true, true, true, true, true, true, true, true, true, true, true, true, true, true, true, true, true, true, true, false, false, false, false, false, false, false, false, false, false, false, false, false, false, false, false, false, false, false, false, false, false] rfl rfl (any_of HT_.out z12_14) (fun _ _ _ h => h) (Or.inl ⟨by rfl, ?_⟩) ?_ ?_
                      rotate_left
                      ·
                       intro w'
                       go_simp
                       with_reducible rfl
                      rotate_left
                      ·
                       simp only [Act.put, List.setIfInBounds_toArray, List.set_cons_zero, List.set_cons_succ, i64_w, i32_w]
                       rfl
                      refine pure_ (i := 85) (N := some 175) (v := ?_) (a' := ?_) #[true, true, true, true, true, true, true, true, true, true, true, true, true, true, true, true, true, true, true, true, true, true, true, true, true, true, true, true, true, true, true, true, true, true, true, true, true, true, true, true, true, true, true, true, true, true, true, true, true, true, true, true, true, true, true, true, true, true, true, true, true, true, true, true, true, true, true, true, true, true, true, true, true, true, true, true, true, true, true, true, true, true, true, true, true, true, false, false, false, false, false, false, false, false, false, false, false, false, false, false, false, false, false, false, false, false, false] rfl rfl (any_of HT_.out z12_14) (fun _ _ _ h => h) (Or.inl ⟨by rfl, ?_⟩) ?_ ?_
                      rotate_left
                      ·
                       intro w'
                       go_simp
                       with_reducible rfl
                      rotate_left
                      ·
                       simp only [Act.put, List.setIfInBounds_toArray, List.set_cons_zero, List.set_cons_succ, i64_w, i32_w]
                       rfl
                      refine pure_ (i := 86) (N := some 176) (v := ?_) (a' := ?_) #[true, true, true, true, true, true, true, true, true, true, true, true, true, true, true, true, true, true, true, true, true, true, true, true, true, true, true, true, true, true, true, true, true, true, true, true, true, true, true, true, true, true, true, true, true, true, true, true, true, true, true, true, true, true, true, true, true, true, true, true, true, true, true, true, true, true, true, true, true, true, true, true, true, true, true, true, true, true, true, true, true, true, true, true, true, true, true, false, false, false, false, false, false, false, false, false, false, false, false, false, false, false, false, false, false, false, false] rfl rfl (any_of HT_.out z12_14) (fun _ _ _ h => h) (Or.inl ⟨by rfl, ?_⟩) ?_ ?_
                      rotate_left
                      ·
                       intro w'
                       go_simp
                       with_reducible rfl
                      rotate_left
                      ·
                       simp only [Act.put, List.setIfInBounds_toArray, List.set_cons_zero, List.set_cons_succ, i64_w, i32_w]
                       rfl
                      refine pure_ (i := 88) (N := some 178) (v := ?_) (a' := ?_) #[true, true, true, true, true, true, true, true, true, true, true, true, true, true, true, true, true, true, true, true, true, true, true, true, true, true, true, true, true, true, true, true, true, true, true, true, true, true, true, true, true, true, true, true, true, true, true, true, true, true, true, true, true, true, true, true, true, true, true, true, true, true, true, true, true, true, true, true, true, true, true, true, true, true, true, true, true, true, true, true, true, true, true, true, true, true, true, false, true, false, false, false, false, false, false, false, false, false, false, false, false, false, false, false, false, false, false] rfl rfl (any_of HT_.out z12_14) (fun _ _ _ h => h) (Or.inl ⟨by rfl, ?_⟩) ?_ ?_
                      rotate_left
                      ·
                       intro w'
                       go_simp
                       with_reducible rfl
                      rotate_left
                      ·
                       simp only [Act.put, List.setIfInBounds_toArray, List.set_cons_zero, List.set_cons_succ, i64_w, i32_w]
                       rfl
                      refine one_ (i := 87) (N := some 177) #[true, true, true, true, true, true, true, true, true, true, true, true, true, true, true, true, true, true, true, true, true, true, true, true, true, true, true, true, true, true, true, true, true, true, true, true, true, true, true, true, true, true, true, true, true, true, true, true, true, true, true, true, true, true, true, true, true, true, true, true, true, true, true, true, true, true, true, true, true, true, true, true, true, true, true, true, true, true, true, true, true, true, true, true, true, true, true, true, true, false, false, false, false, false, false, false, false, false, false, false, false, false, false, false, false, false, false] rfl rfl (one_of HT_.out z12_14) (by decide) (fun K hK => ?_)
                      refine goes_ Try.func79 z12_14 rfl #[.slice Ao91 t542.length co91] (by rfl) rfl rfl z12_1 ?_
                      with_reducible refine (impl_KnowOk.calls k2 _ _ t542 t589 _ ?side1 ?side2 A66.out).mono ?_
                      (case side1 => repeat (first | exact (Kd.R_reads' HO545.out).2.2 | (with_reducible refine Kd.C_alloc ?_ _) | (with_reducible refine Kd.C_drewN ?_ _) | (with_reducible refine Kd.C_drew ?_)))
                      (case side2 => exact (Kd.R_reads' HO545.out).2.1)
                      rintro e w' ⟨rfl, ⟨nd, rfl⟩⟩
                      refine ⟨_, rfl, ?_⟩
                      refine hK.out _ _ ⟨(blk_cell BK553.out 0).trans rfl, (blk_cell BK553.out 1).trans rfl, (blk_cell BK556.out 0).trans rfl, (blk_cell BK556.out 1).trans rfl⟩ (fun hHeld => ?_)
                      clear hK K
                      refine norm_ (a' := ?_) ?_ ?_
                      rotate_left
                      ·
                       show Act.put _ (some 177) _ = _
                       simp only [Act.put, List.setIfInBounds_toArray, List.set_cons_zero, List.set_cons_succ, i64_w, i32_w]
                       rfl
                      refine one_ (i := 89) (N := some 179) #[true, true, true, true, true, true, true, true, true, true, true, true, true, true, true, true, true, true, true, true, true, true, true, true, true, true, true, true, true, true, true, true, true, true, true, true, true, true, true, true, true, true, true, true, true, true, true, true, true, true, true, true, true, true, true, true, true, true, true, true, true, true, true, true, true, true, true, true, true, true, true, true, true, true, true, true, true, true, true, true, true, true, true, true, true, true, true, true, true, true, false, false, false, false, false, false, false, false, false, false, false, false, false, false, false, false, false] rfl rfl (one_of HT_.out z12_14) (by decide) (fun K hK => ?_)
                      refine goes_ Try.func80 z12_14 rfl #[.slice Ao91 t542.length co91] (by rfl) rfl rfl z12_1 ?_
                      with_reducible refine (spec_KnowOk.calls k2 _ _ t542 t590 _ ?side1 ?side2 A67.out).mono ?_
                      (case side1 => repeat (first | exact (Kd.R_reads' HO545.out).2.2 | (with_reducible refine Kd.C_alloc ?_ _) | (with_reducible refine Kd.C_drewN ?_ _) | (with_reducible refine Kd.C_drew ?_)))
                      (case side2 => exact (Kd.R_reads' HO545.out).2.1)
                      rintro e w' ⟨rfl, ⟨nd, rfl⟩⟩
                      refine ⟨_, rfl, ?_⟩
                      refine hK.out _ _ ⟨(blk_cell BK553.out 0).trans rfl, (blk_cell BK553.out 1).trans rfl, (blk_cell BK556.out 0).trans rfl, (blk_cell BK556.out 1).trans rfl⟩ (fun hHeld => ?_)
                      clear hK K
                      refine norm_ (a' := ?_) ?_ ?_
                      rotate_left
                      ·
                       show Act.put _ (some 179) _ = _
                       simp only [Act.put, List.setIfInBounds_toArray, List.set_cons_zero, List.set_cons_succ, i64_w, i32_w]
                       rfl
                      refine pure_ (i := 90) (N := some 180) (v := ?_) (a' := ?_) #[true, true, true, true, true, true, true, true, true, true, true, true, true, true, true, true, true, true, true, true, true, true, true, true, true, true, true, true, true, true, true, true, true, true, true, true, true, true, true, true, true, true, true, true, true, true, true, true, true, true, true, true, true, true, true, true, true, true, true, true, true, true, true, true, true, true, true, true, true, true, true, true, true, true, true, true, true, true, true, true, true, true, true, true, true, true, true, true, true, true, true, false, false, false, false, false, false, false, false, false, false, false, false, false, false, false, false] rfl rfl (any_of HT_.out z12_14) (fun _ _ _ h => h) (Or.inl ⟨by rfl, ?_⟩) ?_ ?_
                      rotate_left
                      ·
                       intro w'
                       go_simp
                       with_reducible rfl
                      rotate_left
                      ·
                       simp only [Act.put, List.setIfInBounds_toArray, List.set_cons_zero, List.set_cons_succ, i64_w, i32_w]
                       rfl
                      refine pure_ (i := 91) (N := some 181) (v := ?_) (a' := ?_) #[true, true, true, true, true, true, true, true, true, true, true, true, true, true, true, true, true, true, true, true, true, true, true, true, true, true, true, true, true, true, true, true, true, true, true, true, true, true, true, true, true, true, true, true, true, true, true, true, true, true, true, true, true, true, true, true, true, true, true, true, true, true, true, true, true, true, true, true, true, true, true, true, true, true, true, true, true, true, true, true, true, true, true, true, true, true, true, true, true, true, true, true, false, false, false, false, false, false, false, false, false, false, false, false, false, false, false] rfl rfl (any_of HT_.out z12_14) (fun _ _ _ h => h) (Or.inl ⟨by rfl, ?_⟩) ?_ ?_
                      rotate_left
                      ·
                       intro w'
                       go_simp
                       with_reducible rfl
                      rotate_left
                      ·
                       simp only [Act.put, List.setIfInBounds_toArray, List.set_cons_zero, List.set_cons_succ, i64_w, i32_w]
                       rfl
                      refine pure_ (i := 92) (N := some 182) (v := ?_) (a' := ?_) #[true, true, true, true, true, true, true, true, true, true, true, true, true, true, true, true, true, true, true, true, true, true, true, true, true, true, true, true, true, true, true, true, true, true, true, true, true, true, true, true, true, true, true, true, true, true, true, true, true, true, true, true, true, true, true, true, true, true, true, true, true, true, true, true, true, true, true, true, true, true, true, true, true, true, true, true, true, true, true, true, true, true, true, true, true, true, true, true, true, true, true, true, true, false, false, false, false, false, false, false, false, false, false, false, false, false, false] rfl rfl (any_of HT_.out z12_14) (fun _ _ _ h => h) (Or.inl ⟨by rfl, ?_⟩) ?_ ?_
                      rotate_left
                      ·
                       intro w'
                       go_simp
                       with_reducible rfl
                      rotate_left
                      ·
                       simp only [Act.put, List.setIfInBounds_toArray, List.set_cons_zero, List.set_cons_succ, i64_w, i32_w]
                       rfl
                      refine pure_ (i := 94) (N := some 184) (v := ?_) (a' := ?_) #[true, true, true, true, true, true, true, true, true, true, true, true, true, true, true, true, true, true, true, true, true, true, true, true, true, true, true, true, true, true, true, true, true, true, true, true, true, true, true, true, true, true, true, true, true, true, true, true, true, true, true, true, true, true, true, true, true, true, true, true, true, true, true, true, true, true, true, true, true, true, true, true, true, true, true, true, true, true, true, true, true, true, true, true, true, true, true, true, true, true, true, true, true, false, true, false, false, false, false, false, false, false, false, false, false, false, false] rfl rfl (any_of HT_.out z12_14) (fun _ _ _ h => h) (Or.inl ⟨by rfl, ?_⟩) ?_ ?_
                      rotate_left
                      ·
                       intro w'
                       go_simp
                       with_reducible rfl
                      rotate_left
                      ·
                       simp only [Act.put, List.setIfInBounds_toArray, List.set_cons_zero, List.set_cons_succ, i64_w, i32_w]
                       rfl
                      refine one_ (i := 93) (N := some 183) #[true, true, true, true, true, true, true, true, true, true, true, true, true, true, true, true, true, true, true, true, true, true, true, true, true, true, true, true, true, true, true, true, true, true, true, true, true, true, true, true, true, true, true, true, true, true, true, true, true, true, true, true, true, true, true, true, true, true, true, true, true, true, true, true, true, true, true, true, true, true, true, true, true, true, true, true, true, true, true, true, true, true, true, true, true, true, true, true, true, true, true, true, true, true, true, false, false, false, false, false, false, false, false, false, false, false, false] rfl rfl (one_of HT_.out z12_14) (by decide) (fun K hK => ?_)
                      refine goes_ Try.func81 z12_14 rfl #[] (by rfl) rfl rfl z12_1 ?_
                      with_reducible refine (impl_KnowNew.calls  t591 _ A69.out).mono ?_
                      rintro e w106 ⟨v592, rfl, ho0, hb⟩
                      refine ⟨_, rfl, ?_⟩
                      have n0_ := Aside0.mk (Kd.R_elder' z12_5 (Kd.R_base ho0) hb)
                      have n1_ := Aside0.mk (Kd.R_elder' z12_4 (Kd.R_base ho0) hb)
                      have n2_ := Aside0.mk (Kd.R_elder' z12_3 (Kd.R_base ho0) hb)
                      have n3_ := Aside0.mk (Kd.R_elder' z12_2 (Kd.R_base ho0) hb)
                      have n4_ := Aside0.mk (Kd.R_below z12_7 hb)
                      have n5_ := Aside0.mk (Kd.R_elder' z12_9 (Kd.R_base ho0) hb)
                      have n6_ := Aside0.mk (Kd.R_elder' z12_8 (Kd.R_base ho0) hb)
                      have n7_ := Aside0.mk (Kd.R_elder' z12_11 (Kd.R_base ho0) hb)
                      have n8_ := Aside0.mk (Kd.R_elder' z12_13 (Kd.R_base ho0) hb)
                      have n9_ := Aside0.mk (Kd.R_below z12_15 hb)
                      have n10_ := Aside0.mk (Kd.R_elder' z12_16 (Kd.R_base ho0) hb)
                      have n11_ := Aside0.mk (Kd.R_elder' z12_17 (Kd.R_base ho0) hb)
                      have n12_ := Aside0.mk (Kd.R_elder' z12_19 (Kd.R_base ho0) hb)
                      have n13_ := Aside0.mk (Kd.R_elder' z12_23 (Kd.R_base ho0) hb)
                      have n14_ := Aside0.mk (Kd.R_lower (Kd.R_new' (Kd.R_new' (Kd.R_new' (Kd.R_new' (Kd.R_new' (Kd.R_new' (Kd.R_new' (Kd.R_new' (Kd.R_new' (Kd.R_new' (Kd.R_new' (Kd.R_new' ho0 (Kd.R_lt z12_5)) (Kd.R_lt z12_4)) (Kd.R_lt z12_3)) (Kd.R_lt z12_2)) (Kd.R_lt z12_9)) (Kd.R_lt z12_8)) (Kd.R_lt z12_11)) (Kd.R_lt z12_13)) (Kd.R_lt z12_16)) (Kd.R_lt z12_17)) (Kd.R_lt z12_19)) (Kd.R_lt z12_23)) (below_size z12_0))
                      have n15_ := Aside0.mk (blk_below (g := gb553) (o := .cells #[.int .i64 t551, .int .i64 t552] 29 (0, 0)) z12_10 hb)
                      have n16_ := Aside0.mk (blk_below (g := gb556) (o := .cells #[.int .i64 t554, .int .i64 t555] 29 (0, 0)) z12_12 hb)
                      have n17_ := Aside0.mk (below_step z12_0 hb)
                      clear HO_3
                      clear HO_4
                      clear HO_5
                      clear HO_6
                      clear HO_7
                      clear HO545
                      clear HO547
                      clear HO550
                      clear HO563
                      clear HO568
                      clear HO577
                      clear HO580
                      clear HO584
                      clear HO587
                      clear BK553
                      clear BK556
                      clear HB
                      have HO_3 := n0_
                      have HO_4 := n1_
                      have HO_5 := n2_
                      have HO_6 := n3_
                      have HO_7 := n4_
                      have HO545 := n5_
                      have HO547 := n6_
                      have HO550 := n7_
                      have HO563 := n8_
                      have HO568 := n9_
                      have HO577 := n10_
                      have HO580 := n11_
                      have HO584 := n12_
                      have HO587 := n13_
                      have HO593 := n14_
                      have BK553 := n15_
                      have BK556 := n16_
                      have HB := n17_
                      clear n0_ n1_ n2_ n3_ n4_ n5_ n6_ n7_ n8_ n9_ n10_ n11_ n12_ n13_ n14_ n15_ n16_ n17_
                      (try clear hb)
                      (try clear hb2)
                      (try clear hk)
                      (try clear hi)
                      (try clear ho0)
                      obtain ⟨Ao107, co107, eo107⟩ := Kd.R_slice HO593.out
                      (first | subst eo107 | (injection eo107 with f1_ f2_ f3_; have f4_ := f1_.symm; have f5_ := f3_.symm; clear f1_ f2_ f3_; subst f4_; subst f5_))
                      refine hK.out _ _ ⟨(blk_cell BK553.out 0).trans rfl, (blk_cell BK553.out 1).trans rfl, (blk_cell BK556.out 0).trans rfl, (blk_cell BK556.out 1).trans rfl⟩ (fun hHeld => ?_)
                      clear hK K
                      refine norm_ (a' := ?_) ?_ ?_
                      rotate_left
                      ·
                       show Act.put _ (some 183) _ = _
                       simp only [Act.put, List.setIfInBounds_toArray, List.set_cons_zero, List.set_cons_succ, i64_w, i32_w]
                       rfl
                      refine one_ (i := 95) (N := some 185) #[true, true, true, true, true, true, true, true, true, true, true, true, true, true, true, true, true, true, true, true, true, true, true, true, true, true, true, true, true, true, true, true, true, true, true, true, true, true, true, true, true, true, true, true, true, true, true, true, true, true, true, true, true, true, true, true, true, true, true, true, true, true, true, true, true, true, true, true, true, true, true, true, true, true, true, true, true, true, true, true, true, true, true, true, true, true, true, true, true, true, true, true, true, true, true, true, false, false, false, false, false, false, false, false, false, false, false] rfl rfl (one_of HT_.out z12_14) (by decide) (fun K hK => ?_)
                      refine goes_ Try.func72 z12_14 rfl #[.slice Ao107 t591.length co107, .slice Ao9 t519.length co9] (by rfl) rfl rfl z12_1 ?_
                      with_reducible refine (impl_KnowIn.calls k2 _ _ t591 _ _ t519 true _ ?side1 ?side2 ?side3 ?side4 A70.out).mono ?_
                      (case side1 => repeat (first | exact (Kd.R_reads' HO593.out).2.2 | (with_reducible refine Kd.C_alloc ?_ _) | (with_reducible refine Kd.C_drewN ?_ _) | (with_reducible refine Kd.C_drew ?_)))
                      (case side2 => exact (Kd.R_reads' HO593.out).2.1)
                      (case side3 => repeat (first | exact (Kd.R_reads' HO_3.out).2.2 | (with_reducible refine Kd.C_alloc ?_ _) | (with_reducible refine Kd.C_drewN ?_ _) | (with_reducible refine Kd.C_drew ?_)))
                      (case side4 => exact (Kd.R_reads' HO_3.out).2.1)
                      rintro e w' ⟨rfl, ⟨nd, rfl⟩⟩
                      refine ⟨_, rfl, ?_⟩
                      refine hK.out _ _ ⟨(blk_cell BK553.out 0).trans rfl, (blk_cell BK553.out 1).trans rfl, (blk_cell BK556.out 0).trans rfl, (blk_cell BK556.out 1).trans rfl⟩ (fun hHeld => ?_)
                      clear hK K
                      refine norm_ (a' := ?_) ?_ ?_
                      rotate_left
                      ·
                       show Act.put _ (some 185) _ = _
                       simp only [Act.put, List.setIfInBounds_toArray, List.set_cons_zero, List.set_cons_succ, i64_w, i32_w]
                       rfl
                      refine pure_ (i := 96) (N := some 186) (v := ?_) (a' := ?_) #[true, true, true, true, true, true, true, true, true, true, true, true, true, true, true, true, true, true, true, true, true, true, true, true, true, true, true, true, true, true, true, true, true, true, true, true, true, true, true, true, true, true, true, true, true, true, true, true, true, true, true, true, true, true, true, true, true, true, true, true, true, true, true, true, true, true, true, true, true, true, true, true, true, true, true, true, true, true, true, true, true, true, true, true, true, true, true, true, true, true, true, true, true, true, true, true, true, false, false, false, false, false, false, false, false, false, false] rfl rfl (any_of HT_.out z12_14) (fun _ _ _ h => h) (Or.inl ⟨by rfl, ?_⟩) ?_ ?_
                      rotate_left
                      ·
                       intro w'
                       go_simp
                       with_reducible rfl
                      rotate_left
                      ·
                       simp only [Act.put, List.setIfInBounds_toArray, List.set_cons_zero, List.set_cons_succ, i64_w, i32_w]
                       rfl
                      refine pure_ (i := 97) (N := some 187) (v := ?_) (a' := ?_) #[true, true, true, true, true, true, true, true, true, true, true, true, true, true, true, true, true, true, true, true, true, true, true, true, true, true, true, true, true, true, true, true, true, true, true, true, true, true, true, true, true, true, true, true, true, true, true, true, true, true, true, true, true, true, true, true, true, true, true, true, true, true, true, true, true, true, true, true, true, true, true, true, true, true, true, true, true, true, true, true, true, true, true, true, true, true, true, true, true, true, true, true, true, true, true, true, true, true, false, false, false, false, false, false, false, false, false] rfl rfl (any_of HT_.out z12_14) (fun _ _ _ h => h) (Or.inl ⟨by rfl, ?_⟩) ?_ ?_
                      rotate_left
                      ·
                       intro w'
                       go_simp
                       with_reducible rfl
                      rotate_left
                      ·
                       simp only [Act.put, List.setIfInBounds_toArray, List.set_cons_zero, List.set_cons_succ, i64_w, i32_w]
                       rfl
                      refine pure_ (i := 98) (N := some 188) (v := ?_) (a' := ?_) #[true, true, true, true, true, true, true, true, true, true, true, true, true, true, true, true, true, true, true, true, true, true, true, true, true, true, true, true, true, true, true, true, true, true, true, true, true, true, true, true, true, true, true, true, true, true, true, true, true, true, true, true, true, true, true, true, true, true, true, true, true, true, true, true, true, true, true, true, true, true, true, true, true, true, true, true, true, true, true, true, true, true, true, true, true, true, true, true, true, true, true, true, true, true, true, true, true, true, true, false, false, false, false, false, false, false, false] rfl rfl (any_of HT_.out z12_14) (fun _ _ _ h => h) (Or.inl ⟨by rfl, ?_⟩) ?_ ?_
                      rotate_left
                      ·
                       intro w'
                       go_simp
                       with_reducible rfl
                      rotate_left
                      ·
                       simp only [Act.put, List.setIfInBounds_toArray, List.set_cons_zero, List.set_cons_succ, i64_w, i32_w]
                       rfl
                      refine pure_ (i := 99) (N := some 189) (v := ?_) (a' := ?_) #[true, true, true, true, true, true, true, true, true, true, true, true, true, true, true, true, true, true, true, true, true, true, true, true, true, true, true, true, true, true, true, true, true, true, true, true, true, true, true, true, true, true, true, true, true, true, true, true, true, true, true, true, true, true, true, true, true, true, true, true, true, true, true, true, true, true, true, true, true, true, true, true, true, true, true, true, true, true, true, true, true, true, true, true, true, true, true, true, true, true, true, true, true, true, true, true, true, true, true, true, false, false, false, false, false, false, false] rfl rfl (any_of HT_.out z12_14) (fun _ _ _ h => h) (Or.inl ⟨by rfl, ?_⟩) ?_ ?_
                      rotate_left
                      ·
                       intro w'
                       go_simp
                       with_reducible rfl
                      rotate_left
                      ·
                       simp only [Act.put, List.setIfInBounds_toArray, List.set_cons_zero, List.set_cons_succ, i64_w, i32_w]
                       rfl
                      refine pure_ (i := 101) (N := some 191) (v := ?_) (a' := ?_) #[true, true, true, true, true, true, true, true, true, true, true, true, true, true, true, true, true, true, true, true, true, true, true, true, true, true, true, true, true, true, true, true, true, true, true, true, true, true, true, true, true, true, true, true, true, true, true, true, true, true, true, true, true, true, true, true, true, true, true, true, true, true, true, true, true, true, true, true, true, true, true, true, true, true, true, true, true, true, true, true, true, true, true, true, true, true, true, true, true, true, true, true, true, true, true, true, true, true, true, true, false, true, false, false, false, false, false] rfl rfl (any_of HT_.out z12_14) (fun _ _ _ h => h) (Or.inl ⟨by rfl, ?_⟩) ?_ ?_
                      rotate_left
                      ·
                       intro w'
                       go_simp
                       with_reducible rfl
                      rotate_left
                      ·
                       simp only [Act.put, List.setIfInBounds_toArray, List.set_cons_zero, List.set_cons_succ, i64_w, i32_w]
                       rfl
                      refine pure_ (i := 102) (N := some 192) (v := ?_) (a' := ?_) #[true, true, true, true, true, true, true, true, true, true, true, true, true, true, true, true, true, true, true, true, true, true, true, true, true, true, true, true, true, true, true, true, true, true, true, true, true, true, true, true, true, true, true, true, true, true, true, true, true, true, true, true, true, true, true, true, true, true, true, true, true, true, true, true, true, true, true, true, true, true, true, true, true, true, true, true, true, true, true, true, true, true, true, true, true, true, true, true, true, true, true, true, true, true, true, true, true, true, true, true, false, true, true, false, false, false, false] rfl rfl (any_of HT_.out z12_14) (fun _ _ _ h => h) (Or.inl ⟨by rfl, ?_⟩) ?_ ?_
                      rotate_left
                      ·
                       intro w'
                       go_simp
                       with_reducible rfl
                      rotate_left
                      ·
                       simp only [Act.put, List.setIfInBounds_toArray, List.set_cons_zero, List.set_cons_succ, i64_w, i32_w]
                       rfl
                      refine one_ (i := 100) (N := some 190) #[true, true, true, true, true, true, true, true, true, true, true, true, true, true, true, true, true, true, true, true, true, true, true, true, true, true, true, true, true, true, true, true, true, true, true, true, true, true, true, true, true, true, true, true, true, true, true, true, true, true, true, true, true, true, true, true, true, true, true, true, true, true, true, true, true, true, true, true, true, true, true, true, true, true, true, true, true, true, true, true, true, true, true, true, true, true, true, true, true, true, true, true, true, true, true, true, true, true, true, true, true, true, true, false, false, false, false] rfl rfl (one_of HT_.out z12_14) (by decide) (fun K hK => ?_)
                      refine goes_ Try.func66 z12_14 rfl #[.slice Ao91 t542.length co91, .slice Ao92 t543.length co92] (by rfl) rfl rfl z12_1 ?_
                      with_reducible refine (impl_DotsIn.calls k2 _ _ t542 _ _ t543 t595 _ ?side1 ?side2 ?side3 ?side4 A72.out).mono ?_
                      (case side1 => repeat (first | exact (Kd.R_reads' HO545.out).2.2 | (with_reducible refine Kd.C_alloc ?_ _) | (with_reducible refine Kd.C_drewN ?_ _) | (with_reducible refine Kd.C_drew ?_)))
                      (case side2 => exact (Kd.R_reads' HO545.out).2.1)
                      (case side3 => repeat (first | exact (Kd.R_reads' HO547.out).2.2 | (with_reducible refine Kd.C_alloc ?_ _) | (with_reducible refine Kd.C_drewN ?_ _) | (with_reducible refine Kd.C_drew ?_)))
                      (case side4 => exact (Kd.R_reads' HO547.out).2.1)
                      rintro e w108 ⟨v596, rfl, ho0, hb⟩
                      refine ⟨_, rfl, ?_⟩
                      have n0_ := Aside0.mk (Kd.R_below z12_5 hb)
                      have n1_ := Aside0.mk (Kd.R_below z12_4 hb)
                      have n2_ := Aside0.mk (Kd.R_below z12_3 hb)
                      have n3_ := Aside0.mk (Kd.R_below z12_2 hb)
                      have n4_ := Aside0.mk (Kd.R_elder' z12_7 (Kd.R_base ho0) hb)
                      have n5_ := Aside0.mk (Kd.R_below z12_9 hb)
                      have n6_ := Aside0.mk (Kd.R_below z12_8 hb)
                      have n7_ := Aside0.mk (Kd.R_below z12_11 hb)
                      have n8_ := Aside0.mk (Kd.R_below z12_13 hb)
                      have n9_ := Aside0.mk (Kd.R_elder' z12_15 (Kd.R_base ho0) hb)
                      have n10_ := Aside0.mk (Kd.R_below z12_16 hb)
                      have n11_ := Aside0.mk (Kd.R_below z12_17 hb)
                      have n12_ := Aside0.mk (Kd.R_below z12_19 hb)
                      have n13_ := Aside0.mk (Kd.R_below z12_23 hb)
                      have n14_ := Aside0.mk (Kd.R_below (by (with_reducible repeat (first | apply Kd.R_alloc | apply Kd.R_drewN | apply Kd.R_drew)); exact HO593.out) hb)
                      have n15_ := Aside0.mk (Kd.R_lower (Kd.R_newB (Kd.R_newB (Kd.R_new' (Kd.R_new' ho0 (Kd.R_lt z12_7)) (Kd.R_lt z12_15)) (g := gb553) (o := .cells #[.int .i64 t551, .int .i64 t552] 29 (0, 0)) z12_10) (g := gb556) (o := .cells #[.int .i64 t554, .int .i64 t555] 29 (0, 0)) z12_12) (below_size z12_0))
                      have n16_ := Aside0.mk (blk_below (g := gb553) (o := .cells #[.int .i64 t551, .int .i64 t552] 29 (0, 0)) z12_10 hb)
                      have n17_ := Aside0.mk (blk_below (g := gb556) (o := .cells #[.int .i64 t554, .int .i64 t555] 29 (0, 0)) z12_12 hb)
                      have n18_ := Aside0.mk (below_step z12_0 hb)
                      clear HO_3
                      clear HO_4
                      clear HO_5
                      clear HO_6
                      clear HO_7
                      clear HO545
                      clear HO547
                      clear HO550
                      clear HO563
                      clear HO568
                      clear HO577
                      clear HO580
                      clear HO584
                      clear HO587
                      clear HO593
                      clear BK553
                      clear BK556
                      clear HB
                      have HO_3 := n0_
                      have HO_4 := n1_
                      have HO_5 := n2_
                      have HO_6 := n3_
                      have HO_7 := n4_
                      have HO545 := n5_
                      have HO547 := n6_
                      have HO550 := n7_
                      have HO563 := n8_
                      have HO568 := n9_
                      have HO577 := n10_
                      have HO580 := n11_
                      have HO584 := n12_
                      have HO587 := n13_
                      have HO593 := n14_
                      have HO597 := n15_
                      have BK553 := n16_
                      have BK556 := n17_
                      have HB := n18_
                      clear n0_ n1_ n2_ n3_ n4_ n5_ n6_ n7_ n8_ n9_ n10_ n11_ n12_ n13_ n14_ n15_ n16_ n17_ n18_
                      (try clear hb)
                      (try clear hb2)
                      (try clear hk)
                      (try clear hi)
                      (try clear ho0)
                      refine hK.out _ _ ⟨(blk_cell BK553.out 0).trans rfl, (blk_cell BK553.out 1).trans rfl, (blk_cell BK556.out 0).trans rfl, (blk_cell BK556.out 1).trans rfl⟩ (fun hHeld => ?_)
                      clear hK K
                      refine norm_ (a' := ?_) ?_ ?_
                      rotate_left
                      ·
                       show Act.put _ (some 190) _ = _
                       simp only [Act.put, List.setIfInBounds_toArray, List.set_cons_zero, List.set_cons_succ, i64_w, i32_w]
                       rfl
                      refine one_ (i := 103) (N := some 193) #[true, true, true, true, true, true, true, true, true, true, true, true, true, true, true, true, true, true, true, true, true, true, true, true, true, true, true, true, true, true, true, true, true, true, true, true, true, true, true, true, true, true, true, true, true, true, true, true, true, true, true, true, true, true, true, true, true, true, true, true, true, true, true, true, true, true, true, true, true, true, true, true, true, true, true, true, true, true, true, true, true, true, true, true, true, true, true, true, true, true, true, true, true, true, true, true, true, true, true, true, true, true, true, true, false, false, false] rfl rfl (one_of HT_.out z12_14) (by decide) (fun K hK => ?_)
                      refine goes_ Try.func83 z12_14 rfl #[.slice Ao91 t542.length co91, .slice Ao92 t543.length co92] (by rfl) rfl rfl z12_1 ?_
                      with_reducible refine (spec_DotsIn.calls k2 _ _ t542 _ _ t543 t598 _ ?side1 ?side2 ?side3 ?side4 A73.out).mono ?_
                      (case side1 => repeat (first | exact (Kd.R_reads' HO545.out).2.2 | (with_reducible refine Kd.C_alloc ?_ _) | (with_reducible refine Kd.C_drewN ?_ _) | (with_reducible refine Kd.C_drew ?_)))
                      (case side2 => exact (Kd.R_reads' HO545.out).2.1)
                      (case side3 => repeat (first | exact (Kd.R_reads' HO547.out).2.2 | (with_reducible refine Kd.C_alloc ?_ _) | (with_reducible refine Kd.C_drewN ?_ _) | (with_reducible refine Kd.C_drew ?_)))
                      (case side4 => exact (Kd.R_reads' HO547.out).2.1)
                      rintro e w109 ⟨v599, rfl, ho0, hb⟩
                      refine ⟨_, rfl, ?_⟩
                      have n0_ := Aside0.mk (Kd.R_below z12_5 hb)
                      have n1_ := Aside0.mk (Kd.R_below z12_4 hb)
                      have n2_ := Aside0.mk (Kd.R_below z12_3 hb)
                      have n3_ := Aside0.mk (Kd.R_below z12_2 hb)
                      have n4_ := Aside0.mk (Kd.R_elder' z12_7 (Kd.R_base ho0) hb)
                      have n5_ := Aside0.mk (Kd.R_below z12_9 hb)
                      have n6_ := Aside0.mk (Kd.R_below z12_8 hb)
                      have n7_ := Aside0.mk (Kd.R_below z12_11 hb)
                      have n8_ := Aside0.mk (Kd.R_below z12_13 hb)
                      have n9_ := Aside0.mk (Kd.R_elder' z12_15 (Kd.R_base ho0) hb)
                      have n10_ := Aside0.mk (Kd.R_below z12_16 hb)
                      have n11_ := Aside0.mk (Kd.R_below z12_17 hb)
                      have n12_ := Aside0.mk (Kd.R_below z12_19 hb)
                      have n13_ := Aside0.mk (Kd.R_below z12_23 hb)
                      have n14_ := Aside0.mk (Kd.R_below (by (with_reducible repeat (first | apply Kd.R_alloc | apply Kd.R_drewN | apply Kd.R_drew)); exact HO593.out) hb)
                      have n15_ := Aside0.mk (Kd.R_elder' (by (with_reducible repeat (first | apply Kd.R_alloc | apply Kd.R_drewN | apply Kd.R_drew)); exact HO597.out) (Kd.R_base ho0) hb)
                      have n16_ := Aside0.mk (Kd.R_lower (Kd.R_newB (Kd.R_newB (Kd.R_new' (Kd.R_new' (Kd.R_new' ho0 (Kd.R_lt z12_7)) (Kd.R_lt z12_15)) (Kd.R_lt (by (with_reducible repeat (first | apply Kd.R_alloc | apply Kd.R_drewN | apply Kd.R_drew)); exact HO597.out))) (g := gb553) (o := .cells #[.int .i64 t551, .int .i64 t552] 29 (0, 0)) z12_10) (g := gb556) (o := .cells #[.int .i64 t554, .int .i64 t555] 29 (0, 0)) z12_12) (below_size z12_0))
                      have n17_ := Aside0.mk (blk_below (g := gb553) (o := .cells #[.int .i64 t551, .int .i64 t552] 29 (0, 0)) z12_10 hb)
                      have n18_ := Aside0.mk (blk_below (g := gb556) (o := .cells #[.int .i64 t554, .int .i64 t555] 29 (0, 0)) z12_12 hb)
                      have n19_ := Aside0.mk (below_step z12_0 hb)
                      clear HO_3
                      clear HO_4
                      clear HO_5
                      clear HO_6
                      clear HO_7
                      clear HO545
                      clear HO547
                      clear HO550
                      clear HO563
                      clear HO568
                      clear HO577
                      clear HO580
                      clear HO584
                      clear HO587
                      clear HO593
                      clear HO597
                      clear BK553
                      clear BK556
                      clear HB
                      have HO_3 := n0_
                      have HO_4 := n1_
                      have HO_5 := n2_
                      have HO_6 := n3_
                      have HO_7 := n4_
                      have HO545 := n5_
                      have HO547 := n6_
                      have HO550 := n7_
                      have HO563 := n8_
                      have HO568 := n9_
                      have HO577 := n10_
                      have HO580 := n11_
                      have HO584 := n12_
                      have HO587 := n13_
                      have HO593 := n14_
                      have HO597 := n15_
                      have HO600 := n16_
                      have BK553 := n17_
                      have BK556 := n18_
                      have HB := n19_
                      clear n0_ n1_ n2_ n3_ n4_ n5_ n6_ n7_ n8_ n9_ n10_ n11_ n12_ n13_ n14_ n15_ n16_ n17_ n18_ n19_
                      (try clear hb)
                      (try clear hb2)
                      (try clear hk)
                      (try clear hi)
                      (try clear ho0)
                      obtain ⟨Ao110, co110, eo110⟩ := Kd.R_slice HO597.out
                      (first | subst eo110 | (injection eo110 with f1_ f2_ f3_; have f4_ := f1_.symm; have f5_ := f3_.symm; clear f1_ f2_ f3_; subst f4_; subst f5_))
                      obtain ⟨Ao111, co111, eo111⟩ := Kd.R_slice HO600.out
                      (first | subst eo111 | (injection eo111 with f1_ f2_ f3_; have f4_ := f1_.symm; have f5_ := f3_.symm; clear f1_ f2_ f3_; subst f4_; subst f5_))
                      refine hK.out _ _ ⟨(blk_cell BK553.out 0).trans rfl, (blk_cell BK553.out 1).trans rfl, (blk_cell BK556.out 0).trans rfl, (blk_cell BK556.out 1).trans rfl⟩ (fun hHeld => ?_)
                      clear hK K
                      refine norm_ (a' := ?_) ?_ ?_
                      rotate_left
                      ·
                       show Act.put _ (some 193) _ = _
                       simp only [Act.put, List.setIfInBounds_toArray, List.set_cons_zero, List.set_cons_succ, i64_w, i32_w]
                       rfl
                      refine one_ (i := 104) (N := some 194) #[true, true, true, true, true, true, true, true, true, true, true, true, true, true, true, true, true, true, true, true, true, true, true, true, true, true, true, true, true, true, true, true, true, true, true, true, true, true, true, true, true, true, true, true, true, true, true, true, true, true, true, true, true, true, true, true, true, true, true, true, true, true, true, true, true, true, true, true, true, true, true, true, true, true, true, true, true, true, true, true, true, true, true, true, true, true, true, true, true, true, true, true, true, true, true, true, true, true, true, true, true, true, true, true, true, false, false] rfl rfl (one_of HT_.out z12_14) (by decide) (fun K hK => ?_)
                      refine goes_ Try.func82 z12_14 rfl #[.slice Ao110 t595.length co110, .slice Ao111 t598.length co111] (by rfl) rfl rfl z12_1 ?_
                      with_reducible refine (laws_sameDots.calls k2 _ _ t595 _ _ t598 t601 _ ?side1 ?side2 ?side3 ?side4 A74.out).mono ?_
                      (case side1 => repeat (first | exact (Kd.R_reads' HO597.out).2.2 | (with_reducible refine Kd.C_alloc ?_ _) | (with_reducible refine Kd.C_drewN ?_ _) | (with_reducible refine Kd.C_drew ?_)))
                      (case side2 => exact (Kd.R_reads' HO597.out).2.1)
                      (case side3 => repeat (first | exact (Kd.R_reads' HO600.out).2.2 | (with_reducible refine Kd.C_alloc ?_ _) | (with_reducible refine Kd.C_drewN ?_ _) | (with_reducible refine Kd.C_drew ?_)))
                      (case side4 => exact (Kd.R_reads' HO600.out).2.1)
                      rintro e w' ⟨rfl, ⟨nd, rfl⟩⟩
                      refine ⟨_, rfl, ?_⟩
                      refine hK.out _ _ ⟨(blk_cell BK553.out 0).trans rfl, (blk_cell BK553.out 1).trans rfl, (blk_cell BK556.out 0).trans rfl, (blk_cell BK556.out 1).trans rfl⟩ (fun hHeld => ?_)
                      clear hK K
                      refine norm_ (a' := ?_) ?_ ?_
                      rotate_left
                      ·
                       show Act.put _ (some 194) _ = _
                       simp only [Act.put, List.setIfInBounds_toArray, List.set_cons_zero, List.set_cons_succ, i64_w, i32_w]
                       rfl
                      refine pure_ (i := 105) (N := some 195) (v := ?_) (a' := ?_) #[true, true, true, true, true, true, true, true, true, true, true, true, true, true, true, true, true, true, true, true, true, true, true, true, true, true, true, true, true, true, true, true, true, true, true, true, true, true, true, true, true, true, true, true, true, true, true, true, true, true, true, true, true, true, true, true, true, true, true, true, true, true, true, true, true, true, true, true, true, true, true, true, true, true, true, true, true, true, true, true, true, true, true, true, true, true, true, true, true, true, true, true, true, true, true, true, true, true, true, true, true, true, true, true, true, true, false] rfl rfl (any_of HT_.out z12_14) (fun _ _ _ h => h) (Or.inl ⟨by rfl, ?_⟩) ?_ ?_
                      rotate_left
                      ·
                       intro w'
                       go_simp
                       with_reducible rfl
                      rotate_left
                      ·
                       simp only [Act.put, List.setIfInBounds_toArray, List.set_cons_zero, List.set_cons_succ, i64_w, i32_w]
                       rfl
                      refine pure_ (i := 106) (N := some 2) (v := ?_) (a' := ?_) #[true, true, true, true, true, true, true, true, true, true, true, true, true, true, true, true, true, true, true, true, true, true, true, true, true, true, true, true, true, true, true, true, true, true, true, true, true, true, true, true, true, true, true, true, true, true, true, true, true, true, true, true, true, true, true, true, true, true, true, true, true, true, true, true, true, true, true, true, true, true, true, true, true, true, true, true, true, true, true, true, true, true, true, true, true, true, true, true, true, true, true, true, true, true, true, true, true, true, true, true, true, true, true, true, true, true, true] rfl rfl (any_of HT_.out z12_14) (fun _ _ _ h => h) (Or.inl ⟨by rfl, ?_⟩) ?_ ?_
                      rotate_left
                      ·
                       intro w'
                       go_simp
                       with_reducible rfl
                      rotate_left
                      ·
                       simp only [Act.put, List.setIfInBounds_toArray, List.set_cons_zero, List.set_cons_succ, i64_w, i32_w]
                       rfl
                      refine done_ (done_of HT_.out z12_14) ?_
                      try go_wp2
                      go_ret
                      exact ⟨by first | rfl | (simp [errW_none, errW_some] <;> rfl) | (simp [*, errW_none, errW_some] <;> rfl), z12_0⟩
                     ·
                      replace c71 := Bool.eq_false_iff.mpr c71
                      subst c71
                      rw [if_neg (show ¬ (false = true) by decide)] at H
                      exact absurd H (by simp)
                    ·
                     rw [if_neg c68] at H
                     have c68b0 : (t589 == t590) = false := by simpa using c68
                     (try (have c68b1 : decide (t589 = t590) = false := by simpa using c68))
                     (try (have c68b2 : (t589 == t590) = false := by simpa using c68))
                     (try (have c68b3 : ¬ (t589 = t590) := by simpa using c68))
                     clear c68
                     exact absurd H (by simp)
                   ·
                    replace c65 := Bool.eq_false_iff.mpr c65
                    subst c65
                    rw [if_neg (show ¬ (false = true) by decide)] at H
                    exact absurd H (by simp)
                  ·
                   replace c61 := Bool.eq_false_iff.mpr c61
                   subst c61
                   rw [if_neg (show ¬ (false = true) by decide)] at H
                   exact absurd H (by simp)
                 ·
                  rw [if_neg c57] at H
                  have c57b0 : (t573 == t574) = false := by simpa using c57
                  (try (have c57b1 : decide (t573 = t574) = false := by simpa using c57))
                  (try (have c57b2 : (t573 == t574) = false := by simpa using c57))
                  (try (have c57b3 : ¬ (t573 = t574) := by simpa using c57))
                  clear c57
                  exact absurd H (by simp)
                ·
                 rw [if_neg c54] at H
                 have c54b0 : (t571 == t572) = false := by simpa using c54
                 (try (have c54b1 : decide (t571 = t572) = false := by simpa using c54))
                 (try (have c54b2 : (t571 == t572) = false := by simpa using c54))
                 (try (have c54b3 : ¬ (t571 = t572) := by simpa using c54))
                 clear c54
                 exact absurd H (by simp)
               ·
                rw [if_neg c51] at H
                have c51b0 : (t569 == t570) = false := by simpa using c51
                (try (have c51b1 : decide (t569 = t570) = false := by simpa using c51))
                (try (have c51b2 : (t569 == t570) = false := by simpa using c51))
                (try (have c51b3 : ¬ (t569 = t570) := by simpa using c51))
                clear c51
                exact absurd H (by simp)
              ·
               rw [if_neg c48] at H
               have c48b0 : (t565 == ((t566.length : Int) == 0)) = false := by simpa using c48
               (try (have c48b1 : decide (t565 = ((t566.length : Int) == 0)) = false := by simpa using c48))
               (try (have c48b2 : (t565 == ((t566.length : Int) == 0)) = false := by simpa using c48))
               (try (have c48b3 : ¬ (t565 = ((t566.length : Int) == 0)) := by simpa using c48))
               clear c48
               exact absurd H (by simp)
             ·
              rw [if_neg c45] at H
              have c45b0 : ((t531.length : Int) == x8_1) = false := beq_eq_false_iff_ne.mpr c45
              have c45b1 : ((t531.length : Int) != x8_1) = true := bne_iff_ne.mpr c45
              exact absurd H (by simp)
            ·
             replace c44 := Bool.eq_false_iff.mpr c44
             subst c44
             rw [if_neg (show ¬ (false = true) by decide)] at H
             exact absurd H (by simp)
           ·
            replace c41 := Bool.eq_false_iff.mpr c41
            subst c41
            rw [if_neg (show ¬ (false = true) by decide)] at H
            exact absurd H (by simp)
          ·
           replace c39 := Bool.eq_false_iff.mpr c39
           subst c39
           rw [if_neg (show ¬ (false = true) by decide)] at H
           exact absurd H (by simp)
         ·
          replace c37 := Bool.eq_false_iff.mpr c37
          subst c37
          rw [if_neg (show ¬ (false = true) by decide)] at H
          exact absurd H (by simp)
        ·
         replace c35 := Bool.eq_false_iff.mpr c35
         subst c35
         rw [if_neg (show ¬ (false = true) by decide)] at H
         exact absurd H (by simp)
end Go.Proofs.Ytmohbiagcbfkpaa.QDraw
