/- What the functions behind Draw compute, and that the program's calls come to just that. Written by a program of this session on the base of the kit's print. No condition. -/
import Derived.Test.YtmohbiagcbfkpaaQDrawx0
import Derived.Test.YtmohbiagcbfkpaaQDrawx2
import Derived.Test.YtmohbiagcbfkpaaQDrawx3
import Derived.Test.YtmohbiagcbfkpaaQDrawx4
namespace Go.Proofs.Ytmohbiagcbfkpaa.QDraw
open Go.RowKit Go.Proofs.YtmohbiagcbfkpaaW.PrintWords Go.Proofs.YtmohbiagcbfkpaaW.PrintLast Go.Proofs.YtmohbiagcbfkpaaW.PrintMore
attribute [local go_sem] max2_int min2_int max_two min_two max_three min_three max_four min_four   -- for this text's walks alone
set_option linter.unusedVariables false
set_option linter.unusedSimpArgs false

attribute [local go_sem high] eqA75
theorem z5_23 {P : Prop} (h : P := by repeat (first | (with_reducible first | exact HB.out | apply below_alloc | apply pw_below_drewN | apply below_drew1) | exact HB.out)) : P := h
theorem z5_22 {P : Prop} (h : P := by repeat (first | (with_reducible first | exact HB.out | apply below_alloc | apply pw_below_drewN | apply below_drew1 | refine below_set ?_ GE250.out | refine below_set ?_ GE257.out) | exact HB.out)) : P := h
theorem z5_21 {P : Prop} (h : P := by repeat (first | (with_reducible first | exact HB.out | apply below_alloc | apply pw_below_drewN | apply below_drew1 | refine below_set ?_ GE250.out | refine below_set ?_ GE257.out | refine below_set ?_ GE261.out) | exact HB.out)) : P := h
theorem z5_20 {P : Prop} (h : P := by repeat (first | (with_reducible first | exact HB.out | apply below_alloc | apply pw_below_drewN | apply below_drew1 | refine below_set ?_ GE250.out | refine below_set ?_ GE257.out | refine below_set ?_ GE261.out | refine below_set ?_ GE264.out | refine below_set ?_ GE268.out | refine below_set ?_ GE272.out) | exact HB.out)) : P := h
theorem z5_19 {P : Prop} (h : P := by repeat (first | (with_reducible first | exact HB.out | apply below_alloc | apply pw_below_drewN | apply below_drew1 | refine below_set ?_ GE250.out) | exact HB.out)) : P := h
theorem z5_18 {P : Prop} (h : P := by kernel_rfl) : P := h
theorem z5_17 {P : Prop} (h : P := by repeat (first | (with_reducible first | exact HB.out | apply below_alloc | apply pw_below_drewN | apply below_drew1 | refine below_set ?_ GE250.out | refine below_set ?_ GE257.out | refine below_set ?_ GE261.out | refine below_set ?_ GE264.out) | exact HB.out)) : P := h
theorem z5_16 {P : Prop} (h : P := by (with_reducible repeat (first | refine blk_drewN ?_ _ | refine blk_drew ?_ | refine blk_alloc ?_ _)); exact BK283.out) : P := h
theorem z5_15 {P : Prop} (h : P := by repeat (first | (with_reducible first | exact HB.out | apply below_alloc | apply pw_below_drewN | apply below_drew1 | refine below_set ?_ GE250.out | refine below_set ?_ GE257.out | refine below_set ?_ GE261.out | refine below_set ?_ GE264.out | refine below_set ?_ GE268.out | refine below_set ?_ GE272.out | refine below_set ?_ GE276.out) | exact HB.out)) : P := h
theorem z5_14 {P : Prop} (h : P := by repeat (first | (with_reducible first | exact HB.out | apply below_alloc | apply pw_below_drewN | apply below_drew1 | refine below_set ?_ GE250.out | refine below_set ?_ GE257.out | refine below_set ?_ GE261.out | refine below_set ?_ GE264.out | refine below_set ?_ GE268.out) | exact HB.out)) : P := h
theorem z5_13 {P : Prop} (h : P := by (with_reducible repeat (first | refine blk_drewN ?_ _ | refine blk_drew ?_ | refine blk_alloc ?_ _)); exact BK280.out) : P := h
theorem z5_12 {P : Prop} (h : P := by repeat (first | (with_reducible first | exact HB.out | apply below_alloc | apply pw_below_drewN | apply below_drew1 | refine below_set ?_ GE250.out | refine below_set ?_ GE257.out | refine below_set ?_ GE261.out | refine below_set ?_ GE264.out | refine below_set ?_ GE268.out | refine below_set ?_ GE272.out | refine below_set ?_ GE276.out | refine below_set ?_ GE280.out) | exact HB.out)) : P := h
theorem z5_11 {P : Prop} (h : P := by (with_reducible repeat (first | refine blk_drewN ?_ _ | refine blk_drew ?_ | refine blk_alloc ?_ _)); exact BK276.out) : P := h
theorem z5_10 {P : Prop} (h : P := by intro w'; go_simp; with_reducible rfl) : P := h
theorem z5_9 {P : Prop} (h : P := by (with_reducible repeat (first | apply Kd.R_alloc | apply Kd.R_drewN | apply Kd.R_drew)); exact HO253.out) : P := h
theorem z5_8 {P : Prop} (h : P := by (with_reducible repeat (first | refine blk_drewN ?_ _ | refine blk_drew ?_ | refine blk_alloc ?_ _)); exact BK272.out) : P := h
theorem z5_7 {P : Prop} (h : P := by first | rfl | (simp only [List.map_toArray, List.map_cons, List.map_nil]; first | done | rfl)) : P := h
theorem z5_6 {P : Prop} (h : P := by (with_reducible repeat (first | refine blk_drewN ?_ _ | refine blk_drew ?_ | refine blk_alloc ?_ _)); exact BK268.out) : P := h
theorem z5_5 {P : Prop} (h : P := by (with_reducible repeat (first | refine blk_drewN ?_ _ | refine blk_drew ?_ | refine blk_alloc ?_ _)); exact BK264.out) : P := h
theorem z5_4 {P : Prop} (h : P := by (with_reducible repeat (first | refine blk_drewN ?_ _ | refine blk_drew ?_ | refine blk_alloc ?_ _)); exact BK261.out) : P := h
theorem z5_3 {P : Prop} (h : P := by (with_reducible repeat (first | refine blk_drewN ?_ _ | refine blk_drew ?_ | refine blk_alloc ?_ _)); exact BK257.out) : P := h
theorem z5_2 {P : Prop} (h : P := by (with_reducible repeat (first | refine blk_drewN ?_ _ | refine blk_drew ?_ | refine blk_alloc ?_ _)); exact BK250.out) : P := h
theorem z5_1 {P : Prop} (h : P := by repeat (first | (with_reducible first | exact HB.out | apply below_alloc | apply pw_below_drewN | apply below_drew1 | refine below_set ?_ GE250.out | refine below_set ?_ GE257.out | refine below_set ?_ GE261.out | refine below_set ?_ GE264.out | refine below_set ?_ GE268.out | refine below_set ?_ GE272.out | refine below_set ?_ GE276.out | refine below_set ?_ GE280.out | refine below_set ?_ GE283.out) | exact HB.out)) : P := h
theorem z5_0 {P : Prop} (h : P := by simp only [Act.put, List.setIfInBounds_toArray, List.set_cons_zero, List.set_cons_succ, i64_w, i32_w]; rfl) : P := h

/-! ### laws_FnFiles: function 12 -/
def laws_FnFiles.f (k : Nat) (l0 : List Int) : Option (Bool) := (laws_big.f l0).bind fun t247 => (if t247 = true then (some true) else ((spec_DrawFile.f k l0).bind fun bt248 => ((spec_DrawPlaces.f k l0).bind fun t251 => (if 0 < (t251.length : Int) then ((impl_Crashed.f bt248.1 bt248.2 (Int.tmod (rd t251 0) 30)).bind fun bt255 => ((impl_Appended.f bt248.1 bt248.2 (⟨#[109, 111, 114, 101]⟩ : ByteArray)).bind fun bt258 => ((impl_SyncedFile.f bt258.1 bt258.2.1).bind fun bt262 => ((spec_DrawCrashed.f k l0).bind fun bt265 => ((spec_DrawAppended.f k l0).bind fun bt269 => ((impl_Appended.f bt269.1 bt269.2.1 bt269.2.2).bind fun bt273 => ((spec_Appended.f bt269.1 bt269.2.1 bt269.2.2).bind fun bt277 => ((spec_DrawSyncedFile.f k l0).bind fun bt281 => (if 0 ≤ bt248.2 then (if bt248.2 ≤ (bt248.1.size : Int) then ((laws_begins.f (bt248.1.extract 0 (bt248.2 : Int).toNat) bt255.1).bind fun t284 => (if t284 = true then ((laws_begins.f bt255.1 bt248.1).bind fun t285 => (if t285 = true then (if bt255.2 = (bt255.1.size : Int) then ((impl_FileOk.f bt248.1 bt248.2).bind fun t286 => (if t286 = true then ((impl_FileOk.f bt255.1 bt255.2).bind fun t287 => (if t287 = true then (if bt258.2.2 = true then ((impl_Crashed.f bt262.1 bt262.2 0).bind fun bt288 => (if (bt288.1.toList == bt262.1.toList && (bt288.2 == bt262.2)) = true then ((impl_Crashed.f bt265.1 bt265.2.1 bt265.2.2).bind fun bt290 => ((spec_Crashed.f bt265.1 bt265.2.1 bt265.2.2).bind fun bt292 => (if (bt290.1.toList == bt292.1.toList && (bt290.2 == bt292.2)) = true then (if (bt273.2.2 == bt277.2.2) = true then (if (bt273.1.toList == bt277.1.toList && (bt273.2.1 == bt277.2.1)) = true then ((impl_SyncedFile.f bt281.1 bt281.2).bind fun bt294 => ((spec_SyncedFile.f bt281.1 bt281.2).bind fun bt296 => (if (bt294.1.toList == bt296.1.toList && (bt294.2 == bt296.2)) = true then ((impl_FileOk.f bt265.1 bt265.2.1).bind fun t298 => ((spec_FileOk.f bt265.1 bt265.2.1).bind fun t299 => (if (t298 == t299) = true then ((impl_Crashed.f bt258.1 bt258.2.1 0).bind fun bt300 => (some (bt300.1.toList == (bt248.1.extract 0 (bt248.2 : Int).toNat).toList))) else (some false)))) else (some false)))) else (some false)) else (some false)) else (some false)))) else (some false))) else (some false)) else (some false))) else (some false))) else (some false)) else (some false))) else (some false))) else (none)) else (none)))))))))) else (none)))))
theorem laws_FnFiles.mono : ∀ a0 k, LeO (laws_FnFiles.f k a0) (laws_FnFiles.f (k + 1) a0) := by
 intro a0 k
 unfold laws_FnFiles.f
 repeat' first
   | (with_reducible exact spec_DrawAppended.mono _ _)
   | (with_reducible exact spec_DrawCrashed.mono _ _)
   | (with_reducible exact spec_DrawFile.mono _ _)
   | (with_reducible exact spec_DrawPlaces.mono _ _)
   | (with_reducible exact spec_DrawSyncedFile.mono _ _)
   | (with_reducible exact LeO.refl _)
   | (with_reducible exact LeO.none _)
   | (with_reducible refine LeO.ite ?_ ?_)
   | (with_reducible refine LeO.bind ?_ (fun _ => ?_))
   | exact spec_DrawAppended.mono _ _
   | exact spec_DrawCrashed.mono _ _
   | exact spec_DrawFile.mono _ _
   | exact spec_DrawPlaces.mono _ _
   | exact spec_DrawSyncedFile.mono _ _
   | exact LeO.none _
   | refine LeO.ite ?_ ?_
   | refine LeO.bind ?_ (fun _ => ?_)
def laws_FnFiles.T14 : Bool × List (List Nat × List Nat) := (true, [([], []), ([0], [0]), ([], []), ([2], [2]), ([1, 3], [1, 3]), ([], []), ([5], [5]), ([4, 6], [4, 6]), ([7, 7], [7]), ([8], [8]), ([9, 8], [8, 9]), ([8], [8]), ([11, 8], [8, 11]), ([10, 12, 8, 8], [8, 10, 12]), ([8, 13], [8, 13]), ([14, 13], [14]), ([15], [15]), ([16, 15], [15, 16]), ([15], [15]), ([18, 15], [15, 18]), ([19, 15], [15, 19]), ([17, 20, 15], [15, 17, 20]), ([15, 21], [15, 21]), ([22, 15], [22]), ([23], [23]), ([24, 23, 23], [23, 24]), ([23, 25], [23, 25]), ([26, 25], [26]), ([27], [27]), ([28, 27, 27], [27, 28]), ([27, 29], [27, 29]), ([30, 29], [30]), ([31], [31]), ([31, 32], [31, 32]), ([33, 31], [33]), ([34], [34]), ([35, 34, 34], [34, 35]), ([34], [34]), ([36, 37, 34], [34, 36, 37]), ([34, 38], [34, 38]), ([39, 36], [39]), ([40], [40]), ([40], [40]), ([41, 42, 40, 40], [40, 41, 42]), ([40], [40]), ([40], [40]), ([44, 45, 43, 40], [40, 44, 45]), ([43, 46, 40], [40, 43, 46]), ([40, 47], [40, 47]), ([48, 46], [48]), ([49], [49]), ([49], [49]), ([50, 51, 49], [49, 50, 51]), ([49, 52], [49, 52]), ([53, 49], [53]), ([54], [54]), ([54], [54]), ([55, 56, 54], [54, 55, 56]), ([54, 57], [54, 57]), ([58, 54], [58]), ([59], [59]), ([60, 59, 59], [59, 60]), ([59], [59]), ([62, 61, 59], [59, 62]), ([61, 63, 59], [59, 61, 63]), ([59, 64], [59, 64]), ([65, 63], [65]), ([66], [66]), ([67, 66, 66], [66, 67]), ([66], [66]), ([69, 68, 66], [66, 69]), ([68, 70, 66], [66, 68, 70]), ([66, 71], [66, 71]), ([72, 70], [72]), ([73], [73]), ([74, 73, 73], [73, 74]), ([75, 73], [73, 75]), ([73], [73]), ([77, 73], [73, 77]), ([73], [73]), ([79, 73], [73, 79]), ([78, 80, 73], [73, 78, 80]), ([76, 81, 73], [73, 76, 81]), ([73, 82], [73, 82]), ([83, 75, 0, 1, 2, 3, 4, 5, 6, 7, 8, 9, 10, 11, 12, 13, 14, 15, 16, 17, 18, 19, 20, 21, 22, 23, 24, 25, 26, 27, 28, 29, 30, 31, 32, 33, 34, 35, 36, 37, 38, 39, 40, 41, 42, 43, 44, 45, 46, 47, 48, 49, 50, 51, 52, 53, 54, 55, 56, 57, 58, 59, 60, 61, 62, 63, 64, 65, 66, 67, 68, 69, 70, 71, 72, 73, 74, 75, 76, 77, 78, 79, 80, 81, 82, 83], [83])])
def laws_FnFiles.B14 : List Nat := [0, 1, 0, 4, 15, 0, 32, 127, 255, 511, 1023, 511, 2559, 8191, 16383, 32767, 65535, 131071, 65535, 327679, 851967, 2097151, 4194303, 8388607, 16777215, 33554431, 67108863, 134217727, 268435455, 536870911, 1073741823, 2147483647, 4294967295, 8589934591, 17179869183, 34359738367, 68719476735, 34359738367, 274877906943, 549755813887, 1099511627775, 2199023255551, 2199023255551, 8796093022207, 2199023255551, 2199023255551, 70368744177663, 140737488355327, 281474976710655, 562949953421311, 1125899906842623, 1125899906842623, 4503599627370495, 9007199254740991, 18014398509481983, 36028797018963967, 36028797018963967, 144115188075855871, 288230376151711743, 576460752303423487, 1152921504606846975, 2305843009213693951, 1152921504606846975, 9223372036854775807, 18446744073709551615, 36893488147419103231, 73786976294838206463, 147573952589676412927, 295147905179352825855, 147573952589676412927, 1180591620717411303423, 2361183241434822606847, 4722366482869645213695, 9444732965739290427391, 18889465931478580854783, 37778931862957161709567, 75557863725914323419135, 18889465931478580854783, 170005193383307227693055, 18889465931478580854783, 623352375738793168207871, 2285625377708908283428863, 4835703278458516698824703, 9671406556917033397649407, 19342813113834066795298815]
theorem laws_FnFiles.tab14 : rtab .any (opsOf Try.f12 14) = laws_FnFiles.T14 := by kernel_rfl
theorem laws_FnFiles.bits14 : waitsOk laws_FnFiles.T14.2 laws_FnFiles.B14 = true := by kernel_rfl
set_option maxHeartbeats 8000000 in
set_option maxRecDepth 100000 in
theorem laws_FnFiles.calls_true (k : Nat) (A0 : Option Addr) (c0 : Nat) (l0 : List Int) (w : World) (hr0 : Kd.C (Kd.int .u8) w A0 l0.length l0) (hc0 : l0.length ≤ c0) (h : laws_FnFiles.f k l0 = some true) :
  Calls Try.prog 12 #[.slice A0 l0.length c0] w fun e w' => e = .returned (.bool true) ∧ Below w.heap.size w w' := by
 have hu75 := Try.underlying75
 have hf75 : ∀ (s : ByteArray) (n : Int) (w : World), Sem.run Try.prog (Instr.field 75 (.agg #[.string s, .int .i64 n]) 0) w = .ok (.string s) w := fun s n w => by simp [go_sem, Instr.field, hu75, asAgg]
 have HR0 := Aside0.mk hr0
 have HC0 := Aside0.mk hc0
 clear hr0 hc0
 have HB := Aside0.mk (Below.refl w.heap.size w)
 have H : ((laws_big.f l0).bind fun t247 => (if t247 = true then (some true) else ((spec_DrawFile.f k l0).bind fun bt248 => ((spec_DrawPlaces.f k l0).bind fun t251 => (if 0 < (t251.length : Int) then ((impl_Crashed.f bt248.1 bt248.2 (Int.tmod (rd t251 0) 30)).bind fun bt255 => ((impl_Appended.f bt248.1 bt248.2 (⟨#[109, 111, 114, 101]⟩ : ByteArray)).bind fun bt258 => ((impl_SyncedFile.f bt258.1 bt258.2.1).bind fun bt262 => ((spec_DrawCrashed.f k l0).bind fun bt265 => ((spec_DrawAppended.f k l0).bind fun bt269 => ((impl_Appended.f bt269.1 bt269.2.1 bt269.2.2).bind fun bt273 => ((spec_Appended.f bt269.1 bt269.2.1 bt269.2.2).bind fun bt277 => ((spec_DrawSyncedFile.f k l0).bind fun bt281 => (if 0 ≤ bt248.2 then (if bt248.2 ≤ (bt248.1.size : Int) then ((laws_begins.f (bt248.1.extract 0 (bt248.2 : Int).toNat) bt255.1).bind fun t284 => (if t284 = true then ((laws_begins.f bt255.1 bt248.1).bind fun t285 => (if t285 = true then (if bt255.2 = (bt255.1.size : Int) then ((impl_FileOk.f bt248.1 bt248.2).bind fun t286 => (if t286 = true then ((impl_FileOk.f bt255.1 bt255.2).bind fun t287 => (if t287 = true then (if bt258.2.2 = true then ((impl_Crashed.f bt262.1 bt262.2 0).bind fun bt288 => (if (bt288.1.toList == bt262.1.toList && (bt288.2 == bt262.2)) = true then ((impl_Crashed.f bt265.1 bt265.2.1 bt265.2.2).bind fun bt290 => ((spec_Crashed.f bt265.1 bt265.2.1 bt265.2.2).bind fun bt292 => (if (bt290.1.toList == bt292.1.toList && (bt290.2 == bt292.2)) = true then (if (bt273.2.2 == bt277.2.2) = true then (if (bt273.1.toList == bt277.1.toList && (bt273.2.1 == bt277.2.1)) = true then ((impl_SyncedFile.f bt281.1 bt281.2).bind fun bt294 => ((spec_SyncedFile.f bt281.1 bt281.2).bind fun bt296 => (if (bt294.1.toList == bt296.1.toList && (bt294.2 == bt296.2)) = true then ((impl_FileOk.f bt265.1 bt265.2.1).bind fun t298 => ((spec_FileOk.f bt265.1 bt265.2.1).bind fun t299 => (if (t298 == t299) = true then ((impl_Crashed.f bt258.1 bt258.2.1 0).bind fun bt300 => (some (bt300.1.toList == (bt248.1.extract 0 (bt248.2 : Int).toNat).toList))) else (some false)))) else (some false)))) else (some false)) else (some false)) else (some false)))) else (some false))) else (some false)) else (some false))) else (some false))) else (some false)) else (some false))) else (some false))) else (none)) else (none)))))))))) else (none)))))) = some true := h
 clear h
 replace H := Option.bind_eq_some_iff.mp H
 obtain ⟨t247, A20, H⟩ := H
 (try dsimp only at H)
 have A2 := Aside0.mk A20
 clear A20
 by_cases c3 : t247 = true
 ·
  subst c3
  have H1 : (some true) = some true := rfl
  clear H
  have H := H1
  clear H1
  clear H
  go_enter Try.func12, Try.ntmps12
  go_wp2_with (first | ((with_reducible refine gate_callee (f := 43) rfl ?_); refine goesL_ (some 20) rfl rfl Try.func43 z5_18 rfl #[.slice A0 l0.length c0] rfl z5_7 ?_; (with_reducible refine (laws_big.calls _ _ l0 true _ ?side1 ?side2 A2.out).mono ?_); (case side1 => repeat (first | exact HR0.out | (with_reducible refine Kd.C_alloc ?_ _) | (with_reducible refine Kd.C_drewN ?_ _) | (with_reducible refine Kd.C_drew ?_))); (case side2 => exact HC0.out); rintro e w' ⟨rfl, ⟨nd, rfl⟩⟩; refine ⟨_, rfl, ?_⟩))
  go_ret
  exact ⟨by first | rfl | (simp [errW_none, errW_some] <;> rfl) | (simp [*, errW_none, errW_some] <;> rfl), z5_23⟩
 ·
  replace c3 := Bool.eq_false_iff.mpr c3
  subst c3
  rw [if_neg (show ¬ (false = true) by decide)] at H
  replace H := Option.bind_eq_some_iff.mp H
  obtain ⟨⟨t248, t249⟩, A40, H⟩ := H
  (try dsimp only at H)
  have A4 := Aside0.mk A40
  clear A40
  replace H := Option.bind_eq_some_iff.mp H
  obtain ⟨t251, A50, H⟩ := H
  (try dsimp only at H)
  have A5 := Aside0.mk A50
  clear A50
  by_cases c6 : 0 < (t251.length : Int)
  ·
   rw [if_pos c6] at H
   have c6b0 : decide (0 < (t251.length : Int)) = true := decide_eq_true c6
   have c6b1 : decide (0 < t251.length) = true := decide_eq_true (by omega)
   clear c6
   replace H := Option.bind_eq_some_iff.mp H
   obtain ⟨⟨t255, t256⟩, A70, H⟩ := H
   (try dsimp only at H)
   have A7 := Aside0.mk A70
   clear A70
   replace H := Option.bind_eq_some_iff.mp H
   obtain ⟨⟨t258, t259, t260⟩, A80, H⟩ := H
   (try dsimp only at H)
   have A8 := Aside0.mk A80
   clear A80
   replace H := Option.bind_eq_some_iff.mp H
   obtain ⟨⟨t262, t263⟩, A90, H⟩ := H
   (try dsimp only at H)
   have A9 := Aside0.mk A90
   clear A90
   replace H := Option.bind_eq_some_iff.mp H
   obtain ⟨⟨t265, t266, t267⟩, A100, H⟩ := H
   (try dsimp only at H)
   have A10 := Aside0.mk A100
   clear A100
   replace H := Option.bind_eq_some_iff.mp H
   obtain ⟨⟨t269, t270, t271⟩, A110, H⟩ := H
   (try dsimp only at H)
   have A11 := Aside0.mk A110
   clear A110
   replace H := Option.bind_eq_some_iff.mp H
   obtain ⟨⟨t273, t274, t275⟩, A120, H⟩ := H
   (try dsimp only at H)
   have A12 := Aside0.mk A120
   clear A120
   replace H := Option.bind_eq_some_iff.mp H
   obtain ⟨⟨t277, t278, t279⟩, A130, H⟩ := H
   (try dsimp only at H)
   have A13 := Aside0.mk A130
   clear A130
   replace H := Option.bind_eq_some_iff.mp H
   obtain ⟨⟨t281, t282⟩, A140, H⟩ := H
   (try dsimp only at H)
   have A14 := Aside0.mk A140
   clear A140
   by_cases c15 : 0 ≤ t249
   ·
    rw [if_pos c15] at H
    have c15b0 := eq_true c15
    have c15b1 : decide (0 ≤ t249) = true := decide_eq_true c15
    clear c15
    by_cases c16 : t249 ≤ (t248.size : Int)
    ·
     rw [if_pos c16] at H
     have c16b0 := eq_true c16
     have c16b1 : decide (t249 ≤ (t248.size : Int)) = true := decide_eq_true c16
     clear c16
     replace H := Option.bind_eq_some_iff.mp H
     obtain ⟨t284, A170, H⟩ := H
     (try dsimp only at H)
     have A17 := Aside0.mk A170
     clear A170
     by_cases c18 : t284 = true
     ·
      subst c18
      rw [if_pos rfl] at H
      replace H := Option.bind_eq_some_iff.mp H
      obtain ⟨t285, A190, H⟩ := H
      (try dsimp only at H)
      have A19 := Aside0.mk A190
      clear A190
      by_cases c20 : t285 = true
      ·
       subst c20
       rw [if_pos rfl] at H
       by_cases c21 : t256 = (t255.size : Int)
       ·
        rw [if_pos c21] at H
        have c21b0 : (t256 == (t255.size : Int)) = true := beq_iff_eq.mpr c21
        have c21b1 : (t256 != (t255.size : Int)) = false := bne_eq_false_iff_eq.mpr c21
        clear c21
        replace H := Option.bind_eq_some_iff.mp H
        obtain ⟨t286, A220, H⟩ := H
        (try dsimp only at H)
        have A22 := Aside0.mk A220
        clear A220
        by_cases c23 : t286 = true
        ·
         subst c23
         rw [if_pos rfl] at H
         replace H := Option.bind_eq_some_iff.mp H
         obtain ⟨t287, A240, H⟩ := H
         (try dsimp only at H)
         have A24 := Aside0.mk A240
         clear A240
         by_cases c25 : t287 = true
         ·
          subst c25
          rw [if_pos rfl] at H
          by_cases c26 : t260 = true
          ·
           subst c26
           rw [if_pos rfl] at H
           replace H := Option.bind_eq_some_iff.mp H
           obtain ⟨⟨t288, t289⟩, A270, H⟩ := H
           (try dsimp only at H)
           have A27 := Aside0.mk A270
           clear A270
           by_cases c28 : (t288.toList == t262.toList && (t289 == t263)) = true
           ·
            rw [if_pos c28] at H
            have c28b0 : (t288.toList == t262.toList && (t289 == t263)) = true := c28
            (try (have c28b1 : decide (t288.toList = t262.toList && (t289 == t263)) = true := by simpa using c28))
            (try (have c28b2 : (t288.toList == t262.toList && (t289 == t263)) = true := by simpa using c28))
            clear c28
            replace H := Option.bind_eq_some_iff.mp H
            obtain ⟨⟨t290, t291⟩, A290, H⟩ := H
            (try dsimp only at H)
            have A29 := Aside0.mk A290
            clear A290
            replace H := Option.bind_eq_some_iff.mp H
            obtain ⟨⟨t292, t293⟩, A300, H⟩ := H
            (try dsimp only at H)
            have A30 := Aside0.mk A300
            clear A300
            by_cases c31 : (t290.toList == t292.toList && (t291 == t293)) = true
            ·
             rw [if_pos c31] at H
             have c31b0 : (t290.toList == t292.toList && (t291 == t293)) = true := c31
             (try (have c31b1 : decide (t290.toList = t292.toList && (t291 == t293)) = true := by simpa using c31))
             (try (have c31b2 : (t290.toList == t292.toList && (t291 == t293)) = true := by simpa using c31))
             clear c31
             by_cases c32 : (t275 == t279) = true
             ·
              rw [if_pos c32] at H
              have c32b0 : (t275 == t279) = true := c32
              (try (have c32b1 : decide (t275 = t279) = true := by simpa using c32))
              (try (have c32b2 : (t275 == t279) = true := by simpa using c32))
              clear c32
              by_cases c33 : (t273.toList == t277.toList && (t274 == t278)) = true
              ·
               rw [if_pos c33] at H
               have c33b0 : (t273.toList == t277.toList && (t274 == t278)) = true := c33
               (try (have c33b1 : decide (t273.toList = t277.toList && (t274 == t278)) = true := by simpa using c33))
               (try (have c33b2 : (t273.toList == t277.toList && (t274 == t278)) = true := by simpa using c33))
               clear c33
               replace H := Option.bind_eq_some_iff.mp H
               obtain ⟨⟨t294, t295⟩, A340, H⟩ := H
               (try dsimp only at H)
               have A34 := Aside0.mk A340
               clear A340
               replace H := Option.bind_eq_some_iff.mp H
               obtain ⟨⟨t296, t297⟩, A350, H⟩ := H
               (try dsimp only at H)
               have A35 := Aside0.mk A350
               clear A350
               by_cases c36 : (t294.toList == t296.toList && (t295 == t297)) = true
               ·
                rw [if_pos c36] at H
                have c36b0 : (t294.toList == t296.toList && (t295 == t297)) = true := c36
                (try (have c36b1 : decide (t294.toList = t296.toList && (t295 == t297)) = true := by simpa using c36))
                (try (have c36b2 : (t294.toList == t296.toList && (t295 == t297)) = true := by simpa using c36))
                clear c36
                replace H := Option.bind_eq_some_iff.mp H
                obtain ⟨t298, A370, H⟩ := H
                (try dsimp only at H)
                have A37 := Aside0.mk A370
                clear A370
                replace H := Option.bind_eq_some_iff.mp H
                obtain ⟨t299, A380, H⟩ := H
                (try dsimp only at H)
                have A38 := Aside0.mk A380
                clear A380
                by_cases c39 : (t298 == t299) = true
                ·
                 rw [if_pos c39] at H
                 have c39b0 : (t298 == t299) = true := c39
                 (try (have c39b1 : decide (t298 = t299) = true := by simpa using c39))
                 (try (have c39b2 : (t298 == t299) = true := by simpa using c39))
                 clear c39
                 replace H := Option.bind_eq_some_iff.mp H
                 obtain ⟨⟨t300, t301⟩, A400, H⟩ := H
                 (try dsimp only at H)
                 have A40 := Aside0.mk A400
                 clear A400
                 have c41b0 := eq_true (of_decide_eq_true (by first | (with_reducible assumption) | assumption) : 0 ≤ t249)
                 have c42b0 := eq_true (of_decide_eq_true (by first | (with_reducible assumption) | assumption) : t249 ≤ (t248.size : Int))
                 have HT := Option.some.inj H
                 go_enter Try.func12, Try.ntmps12
                 try go_wp2_with (first | ((with_reducible refine gate_callee (f := 43) rfl ?_); refine goesL_ (some 20) rfl rfl Try.func43 z5_18 rfl #[.slice A0 l0.length c0] rfl z5_7 ?_; (with_reducible refine (laws_big.calls _ _ l0 false _ ?side1 ?side2 A2.out).mono ?_); (case side1 => repeat (first | exact HR0.out | (with_reducible refine Kd.C_alloc ?_ _) | (with_reducible refine Kd.C_drewN ?_ _) | (with_reducible refine Kd.C_drew ?_))); (case side2 => exact HC0.out); rintro e w' ⟨rfl, ⟨nd, rfl⟩⟩; refine ⟨_, rfl, ?_⟩) | ((with_reducible refine gate_callee (f := 50) rfl ?_); refine goesL_ (some 22) rfl rfl Try.func50 z5_18 rfl #[.slice A0 l0.length c0] rfl z5_7 ?_; (with_reducible refine (spec_DrawFile.calls k _ _ l0 t248 t249 _ ?side1 ?side2 A4.out).mono ?_); (case side1 => repeat (first | exact HR0.out | (with_reducible refine Kd.C_alloc ?_ _) | (with_reducible refine Kd.C_drewN ?_ _) | (with_reducible refine Kd.C_drew ?_))); (case side2 => exact HC0.out); rintro e w43 ⟨rfl, hb⟩; refine ⟨_, rfl, ?_⟩; have n0_ := Aside0.mk (below_step z5_23 hb); clear HB; have HB := n0_; clear n0_) | ((with_reducible refine gate_dst (N := 3) rfl ?_); (try (refine gate_guard (by rfl) ?_; dsimp only)); refine box_event ?hg (N := 3) ?hd (cs := #[.string (⟨#[]⟩ : ByteArray), .int .i64 0]) (t := 75) ?hr ?_; (case hd => rfl); (case hg => rfl); (case hr => first | (go_simp; done) | (go_simp; rfl)); intro gb250 hg w44 hbox hb; have n0_ := Aside0.mk (below_step z5_23 hb); have n1_ := Aside0.mk (hbox); have n2_ := Aside0.mk ((by rw [hg]; exact (below_size z5_23) : w.heap.size ≤ gb250)); have n3_ := Aside0.mk ((by rw [hg]; exact (below_size z5_23) : w.heap.size ≤ gb250)); clear HB; have HB := n0_; have BK250 := n1_; have GW250 := n2_; have GE250 := n3_; clear n0_ n1_ n2_ n3_; clear hb hbox hg; have hcz45_0 : w44.cell? ⟨gb250, 0, none⟩ = some (.string (⟨#[]⟩ : ByteArray)) := (blk_cell BK250.out 0).trans rfl; have hcz45_1 : w44.cell? ⟨gb250, 1, none⟩ = some (.int .i64 0) := (blk_cell BK250.out 1).trans rfl; have hfz45_0 := blk_frozen BK250.out 0; have hfz45_1 := blk_frozen BK250.out 1) | ((with_reducible refine gate_callee (f := 45) rfl ?_); refine goesL_ (some 24) rfl rfl Try.func45 z5_18 rfl #[.slice A0 l0.length c0] rfl z5_7 ?_; (with_reducible refine (spec_DrawPlaces.calls k _ _ l0 t251 _ ?side1 ?side2 A5.out).mono ?_); (case side1 => exact Kd.C_below HR0.out z5_19); (case side2 => exact HC0.out); rintro e w46 ⟨v252, rfl, ho0, hb⟩; refine ⟨_, rfl, ?_⟩; have n0_ := Aside0.mk (Kd.R_lower ho0 (below_size z5_19)); have n1_ := Aside0.mk (blk_below (g := gb250) (o := .cells #[.string t248, .int .i64 t249] 75 (0, 0)) (by (with_reducible repeat (first | refine blk_drewN ?_ _ | refine blk_drew ?_ | refine blk_alloc ?_ _)); refine blk_put (cs := #[.string t248, .int .i64 0]) ?_ 1 _ rfl; (with_reducible repeat (first | refine blk_drewN ?_ _ | refine blk_drew ?_ | refine blk_alloc ?_ _)); refine blk_put (cs := #[.string (⟨#[]⟩ : ByteArray), .int .i64 0]) ?_ 0 _ rfl; (with_reducible repeat (first | refine blk_drewN ?_ _ | refine blk_drew ?_ | refine blk_alloc ?_ _)); exact BK250.out) hb); have n2_ := Aside0.mk (below_step z5_19 hb); clear BK250; clear HB; have HO253 := n0_; have BK250 := n1_; have HB := n2_; clear n0_ n1_ n2_; (try clear ho0); obtain ⟨Ao47, co47, eo47⟩ := Kd.R_slice HO253.out; subst eo47; have p254 : 0 ≤ (0 : Int) := (by omega); have q254 : 0 < (t251.length : Int) := of_decide_eq_true (by first | (with_reducible assumption) | assumption); obtain ⟨ad254, e254, hx254_0⟩ := Kd.at_int (Kd.R_reads' HO253.out).2.2 0 p254 q254; cases e254; have qi254 : (0 < t251.length) = True := eq_true (by omega); (try rw [show ((0 : Int)).toNat = 0 from rfl] at hx254_0); (try rw [Addr.add_zero'] at hx254_0); replace p254 := eq_true p254; replace q254 := eq_true q254; have hcz48_0 : w46.cell? ⟨gb250, 0, none⟩ = some (.string t248) := (blk_cell BK250.out 0).trans rfl; have hcz48_1 : w46.cell? ⟨gb250, 1, none⟩ = some (.int .i64 t249) := (blk_cell BK250.out 1).trans rfl; have hfz48_0 := blk_frozen BK250.out 0; have hfz48_1 := blk_frozen BK250.out 1) | ((with_reducible refine gate_callee (f := 51) rfl ?_); refine goesL_ (some 31) rfl rfl Try.func51 z5_18 rfl #[.agg #[.string t248, .int .i64 t249], .int .i64 (Int.tmod (rd t251 0) 30)] rfl z5_7 ?_; (with_reducible refine (impl_Crashed.calls t248 t249 (Int.tmod (rd t251 0) 30) t255 t256 _ A7.out).mono ?_); rintro e w49 ⟨rfl, hb⟩; refine ⟨_, rfl, ?_⟩; have n0_ := Aside0.mk (Kd.R_below z5_9 hb); have n1_ := Aside0.mk (blk_below (g := gb250) (o := .cells #[.string t248, .int .i64 t249] 75 (0, 0)) z5_2 hb); have n2_ := Aside0.mk (below_step z5_19 hb); clear HO253; clear BK250; clear HB; have HO253 := n0_; have BK250 := n1_; have HB := n2_; clear n0_ n1_ n2_) | ((with_reducible refine gate_dst (N := 6) rfl ?_); (try (refine gate_guard (by rfl) ?_; dsimp only)); refine box_event ?hg (N := 6) ?hd (cs := #[.string (⟨#[]⟩ : ByteArray), .int .i64 0]) (t := 75) ?hr ?_; (case hd => rfl); (case hg => rfl); (case hr => first | (go_simp; done) | (go_simp; rfl)); intro gb257 hg w50 hbox hb; have n0_ := Aside0.mk (Kd.R_below z5_9 hb); have n1_ := Aside0.mk (blk_below (g := gb250) (o := .cells #[.string t248, .int .i64 t249] 75 (0, 0)) z5_2 hb); have n2_ := Aside0.mk (below_step z5_19 hb); have n3_ := Aside0.mk (hbox); have n4_ := Aside0.mk ((by rw [hg]; exact (below_size z5_19) : w.heap.size ≤ gb257)); have n5_ := Aside0.mk ((by rw [hg]; exact (below_size z5_19) : w.heap.size ≤ gb257)); have n6_ := Aside0.mk ((by rw [hg]; exact Nat.ne_of_lt (blk_lt (g := gb250) (o := .cells #[.string t248, .int .i64 t249] 75 (0, 0)) z5_2) : gb250 ≠ gb257)); have n7_ := Aside0.mk ((by rw [hg]; exact Nat.ne_of_gt (blk_lt (g := gb250) (o := .cells #[.string t248, .int .i64 t249] 75 (0, 0)) z5_2) : gb257 ≠ gb250)); clear HO253; clear BK250; clear HB; have HO253 := n0_; have BK250 := n1_; have HB := n2_; have BK257 := n3_; have GW257 := n4_; have GE257 := n5_; have NB250_257 := n6_; have NB257_250 := n7_; clear n0_ n1_ n2_ n3_ n4_ n5_ n6_ n7_; clear hb hbox hg; have hnb51 := NB257_250.out; have hnc51 := NB250_257.out; have hcz52_0 : w50.cell? ⟨gb257, 0, none⟩ = some (.string (⟨#[]⟩ : ByteArray)) := (blk_cell BK257.out 0).trans rfl; have hcz52_1 : w50.cell? ⟨gb257, 1, none⟩ = some (.int .i64 0) := (blk_cell BK257.out 1).trans rfl; have hfz52_0 := blk_frozen BK257.out 0; have hfz52_1 := blk_frozen BK257.out 1; have hcz53_0 : w50.cell? ⟨gb250, 0, none⟩ = some (.string t248) := (blk_cell BK250.out 0).trans rfl; have hcz53_1 : w50.cell? ⟨gb250, 1, none⟩ = some (.int .i64 t249) := (blk_cell BK250.out 1).trans rfl; have hfz53_0 := blk_frozen BK250.out 0; have hfz53_1 := blk_frozen BK250.out 1) | ((with_reducible refine gate_callee (f := 52) rfl ?_); refine goesL_ (some 34) rfl rfl Try.func52 z5_18 rfl #[.agg #[.string t248, .int .i64 t249], .string (⟨#[109, 111, 114, 101]⟩ : ByteArray)] rfl z5_7 ?_; (with_reducible refine (impl_Appended.calls t248 t249 (⟨#[109, 111, 114, 101]⟩ : ByteArray) t258 t259 true _ A8.out).mono ?_); rintro e w54 ⟨rfl, hb⟩; refine ⟨_, rfl, ?_⟩; have n0_ := Aside0.mk (Kd.R_below (by (with_reducible repeat (first | apply Kd.R_alloc | apply Kd.R_drewN | apply Kd.R_drew)); exact (Kd.R_mono (Kd.R_far (p := ⟨gb257, 1, none⟩) (Kd.R_far (p := ⟨gb257, 0, none⟩) (Kd.R_types HO253.out BK257.out (by decide)) (fun _ hk => by first | exact hk.2 | trivial) (.string t255)) (fun _ hk => by first | exact hk.2 | trivial) (.int .i64 t256)) (fun _ h_ => h_.1))) hb); have n1_ := Aside0.mk (blk_below (g := gb250) (o := .cells #[.string t248, .int .i64 t249] 75 (0, 0)) (by (with_reducible repeat (first | refine blk_drewN ?_ _ | refine blk_drew ?_ | refine blk_alloc ?_ _)); refine blk_far ?_ NB250_257.out _; (with_reducible repeat (first | refine blk_drewN ?_ _ | refine blk_drew ?_ | refine blk_alloc ?_ _)); refine blk_far ?_ NB250_257.out _; (with_reducible repeat (first | refine blk_drewN ?_ _ | refine blk_drew ?_ | refine blk_alloc ?_ _)); exact BK250.out) hb); have n2_ := Aside0.mk (blk_below (g := gb257) (o := .cells #[.string t255, .int .i64 t256] 75 (0, 0)) (by (with_reducible repeat (first | refine blk_drewN ?_ _ | refine blk_drew ?_ | refine blk_alloc ?_ _)); refine blk_put (cs := #[.string t255, .int .i64 0]) ?_ 1 _ rfl; (with_reducible repeat (first | refine blk_drewN ?_ _ | refine blk_drew ?_ | refine blk_alloc ?_ _)); refine blk_put (cs := #[.string (⟨#[]⟩ : ByteArray), .int .i64 0]) ?_ 0 _ rfl; (with_reducible repeat (first | refine blk_drewN ?_ _ | refine blk_drew ?_ | refine blk_alloc ?_ _)); exact BK257.out) hb); have n3_ := Aside0.mk (below_step z5_22 hb); clear HO253; clear BK250; clear BK257; clear HB; have HO253 := n0_; have BK250 := n1_; have BK257 := n2_; have HB := n3_; clear n0_ n1_ n2_ n3_) | ((with_reducible refine gate_dst (N := 7) rfl ?_); (try (refine gate_guard (by rfl) ?_; dsimp only)); refine box_event ?hg (N := 7) ?hd (cs := #[.string (⟨#[]⟩ : ByteArray), .int .i64 0]) (t := 75) ?hr ?_; (case hd => rfl); (case hg => rfl); (case hr => first | (go_simp; done) | (go_simp; rfl)); intro gb261 hg w55 hbox hb; have n0_ := Aside0.mk (Kd.R_below z5_9 hb); have n1_ := Aside0.mk (blk_below (g := gb250) (o := .cells #[.string t248, .int .i64 t249] 75 (0, 0)) z5_2 hb); have n2_ := Aside0.mk (blk_below (g := gb257) (o := .cells #[.string t255, .int .i64 t256] 75 (0, 0)) z5_3 hb); have n3_ := Aside0.mk (below_step z5_22 hb); have n4_ := Aside0.mk (hbox); have n5_ := Aside0.mk ((by rw [hg]; exact (below_size z5_22) : w.heap.size ≤ gb261)); have n6_ := Aside0.mk ((by rw [hg]; exact (below_size z5_22) : w.heap.size ≤ gb261)); have n7_ := Aside0.mk ((by rw [hg]; exact Nat.ne_of_lt (blk_lt (g := gb250) (o := .cells #[.string t248, .int .i64 t249] 75 (0, 0)) z5_2) : gb250 ≠ gb261)); have n8_ := Aside0.mk ((by rw [hg]; exact Nat.ne_of_gt (blk_lt (g := gb250) (o := .cells #[.string t248, .int .i64 t249] 75 (0, 0)) z5_2) : gb261 ≠ gb250)); have n9_ := Aside0.mk ((by rw [hg]; exact Nat.ne_of_lt (blk_lt (g := gb257) (o := .cells #[.string t255, .int .i64 t256] 75 (0, 0)) z5_3) : gb257 ≠ gb261)); have n10_ := Aside0.mk ((by rw [hg]; exact Nat.ne_of_gt (blk_lt (g := gb257) (o := .cells #[.string t255, .int .i64 t256] 75 (0, 0)) z5_3) : gb261 ≠ gb257)); clear HO253; clear BK250; clear BK257; clear HB; have HO253 := n0_; have BK250 := n1_; have BK257 := n2_; have HB := n3_; have BK261 := n4_; have GW261 := n5_; have GE261 := n6_; have NB250_261 := n7_; have NB261_250 := n8_; have NB257_261 := n9_; have NB261_257 := n10_; clear n0_ n1_ n2_ n3_ n4_ n5_ n6_ n7_ n8_ n9_ n10_; clear hb hbox hg; have hnb56 := NB261_250.out; have hnc56 := NB250_261.out; have hnb57 := NB261_257.out; have hnc57 := NB257_261.out; have hcz58_0 : w55.cell? ⟨gb261, 0, none⟩ = some (.string (⟨#[]⟩ : ByteArray)) := (blk_cell BK261.out 0).trans rfl; have hcz58_1 : w55.cell? ⟨gb261, 1, none⟩ = some (.int .i64 0) := (blk_cell BK261.out 1).trans rfl; have hfz58_0 := blk_frozen BK261.out 0; have hfz58_1 := blk_frozen BK261.out 1) | ((with_reducible refine gate_callee (f := 53) rfl ?_); refine goesL_ (some 38) rfl rfl Try.func53 z5_18 rfl #[.agg #[.string t258, .int .i64 t259]] rfl z5_7 ?_; (with_reducible refine (impl_SyncedFile.calls t258 t259 t262 t263 _ A9.out).mono ?_); rintro e w59 ⟨rfl, hb⟩; refine ⟨_, rfl, ?_⟩; have n0_ := Aside0.mk (Kd.R_below (by (with_reducible repeat (first | apply Kd.R_alloc | apply Kd.R_drewN | apply Kd.R_drew)); exact (Kd.R_mono (Kd.R_far (p := ⟨gb261, 1, none⟩) (Kd.R_far (p := ⟨gb261, 0, none⟩) (Kd.R_types HO253.out BK261.out (by decide)) (fun _ hk => by first | exact hk.2 | trivial) (.string t258)) (fun _ hk => by first | exact hk.2 | trivial) (.int .i64 t259)) (fun _ h_ => h_.1))) hb); have n1_ := Aside0.mk (blk_below (g := gb250) (o := .cells #[.string t248, .int .i64 t249] 75 (0, 0)) (by (with_reducible repeat (first | refine blk_drewN ?_ _ | refine blk_drew ?_ | refine blk_alloc ?_ _)); refine blk_far ?_ NB250_261.out _; (with_reducible repeat (first | refine blk_drewN ?_ _ | refine blk_drew ?_ | refine blk_alloc ?_ _)); refine blk_far ?_ NB250_261.out _; (with_reducible repeat (first | refine blk_drewN ?_ _ | refine blk_drew ?_ | refine blk_alloc ?_ _)); exact BK250.out) hb); have n2_ := Aside0.mk (blk_below (g := gb257) (o := .cells #[.string t255, .int .i64 t256] 75 (0, 0)) (by (with_reducible repeat (first | refine blk_drewN ?_ _ | refine blk_drew ?_ | refine blk_alloc ?_ _)); refine blk_far ?_ NB257_261.out _; (with_reducible repeat (first | refine blk_drewN ?_ _ | refine blk_drew ?_ | refine blk_alloc ?_ _)); refine blk_far ?_ NB257_261.out _; (with_reducible repeat (first | refine blk_drewN ?_ _ | refine blk_drew ?_ | refine blk_alloc ?_ _)); exact BK257.out) hb); have n3_ := Aside0.mk (blk_below (g := gb261) (o := .cells #[.string t258, .int .i64 t259] 75 (0, 0)) (by (with_reducible repeat (first | refine blk_drewN ?_ _ | refine blk_drew ?_ | refine blk_alloc ?_ _)); refine blk_put (cs := #[.string t258, .int .i64 0]) ?_ 1 _ rfl; (with_reducible repeat (first | refine blk_drewN ?_ _ | refine blk_drew ?_ | refine blk_alloc ?_ _)); refine blk_put (cs := #[.string (⟨#[]⟩ : ByteArray), .int .i64 0]) ?_ 0 _ rfl; (with_reducible repeat (first | refine blk_drewN ?_ _ | refine blk_drew ?_ | refine blk_alloc ?_ _)); exact BK261.out) hb); have n4_ := Aside0.mk (below_step z5_21 hb); clear HO253; clear BK250; clear BK257; clear BK261; clear HB; have HO253 := n0_; have BK250 := n1_; have BK257 := n2_; have BK261 := n3_; have HB := n4_; clear n0_ n1_ n2_ n3_ n4_) | ((with_reducible refine gate_dst (N := 9) rfl ?_); (try (refine gate_guard (by rfl) ?_; dsimp only)); refine box_event ?hg (N := 9) ?hd (cs := #[.string (⟨#[]⟩ : ByteArray), .int .i64 0]) (t := 75) ?hr ?_; (case hd => rfl); (case hg => rfl); (case hr => first | (go_simp; done) | (go_simp; rfl)); intro gb264 hg w60 hbox hb; have n0_ := Aside0.mk (Kd.R_below z5_9 hb); have n1_ := Aside0.mk (blk_below (g := gb250) (o := .cells #[.string t248, .int .i64 t249] 75 (0, 0)) z5_2 hb); have n2_ := Aside0.mk (blk_below (g := gb257) (o := .cells #[.string t255, .int .i64 t256] 75 (0, 0)) z5_3 hb); have n3_ := Aside0.mk (blk_below (g := gb261) (o := .cells #[.string t258, .int .i64 t259] 75 (0, 0)) z5_4 hb); have n4_ := Aside0.mk (below_step z5_21 hb); have n5_ := Aside0.mk (hbox); have n6_ := Aside0.mk ((by rw [hg]; exact (below_size z5_21) : w.heap.size ≤ gb264)); have n7_ := Aside0.mk ((by rw [hg]; exact (below_size z5_21) : w.heap.size ≤ gb264)); have n8_ := Aside0.mk ((by rw [hg]; exact Nat.ne_of_lt (blk_lt (g := gb250) (o := .cells #[.string t248, .int .i64 t249] 75 (0, 0)) z5_2) : gb250 ≠ gb264)); have n9_ := Aside0.mk ((by rw [hg]; exact Nat.ne_of_gt (blk_lt (g := gb250) (o := .cells #[.string t248, .int .i64 t249] 75 (0, 0)) z5_2) : gb264 ≠ gb250)); have n10_ := Aside0.mk ((by rw [hg]; exact Nat.ne_of_lt (blk_lt (g := gb257) (o := .cells #[.string t255, .int .i64 t256] 75 (0, 0)) z5_3) : gb257 ≠ gb264)); have n11_ := Aside0.mk ((by rw [hg]; exact Nat.ne_of_gt (blk_lt (g := gb257) (o := .cells #[.string t255, .int .i64 t256] 75 (0, 0)) z5_3) : gb264 ≠ gb257)); have n12_ := Aside0.mk ((by rw [hg]; exact Nat.ne_of_lt (blk_lt (g := gb261) (o := .cells #[.string t258, .int .i64 t259] 75 (0, 0)) z5_4) : gb261 ≠ gb264)); have n13_ := Aside0.mk ((by rw [hg]; exact Nat.ne_of_gt (blk_lt (g := gb261) (o := .cells #[.string t258, .int .i64 t259] 75 (0, 0)) z5_4) : gb264 ≠ gb261)); clear HO253; clear BK250; clear BK257; clear BK261; clear HB; have HO253 := n0_; have BK250 := n1_; have BK257 := n2_; have BK261 := n3_; have HB := n4_; have BK264 := n5_; have GW264 := n6_; have GE264 := n7_; have NB250_264 := n8_; have NB264_250 := n9_; have NB257_264 := n10_; have NB264_257 := n11_; have NB261_264 := n12_; have NB264_261 := n13_; clear n0_ n1_ n2_ n3_ n4_ n5_ n6_ n7_ n8_ n9_ n10_ n11_ n12_ n13_; clear hb hbox hg; have hnb61 := NB264_250.out; have hnc61 := NB250_264.out; have hnb62 := NB264_257.out; have hnc62 := NB257_264.out; have hnb63 := NB264_261.out; have hnc63 := NB261_264.out; have hcz64_0 : w60.cell? ⟨gb264, 0, none⟩ = some (.string (⟨#[]⟩ : ByteArray)) := (blk_cell BK264.out 0).trans rfl; have hcz64_1 : w60.cell? ⟨gb264, 1, none⟩ = some (.int .i64 0) := (blk_cell BK264.out 1).trans rfl; have hfz64_0 := blk_frozen BK264.out 0; have hfz64_1 := blk_frozen BK264.out 1) | ((with_reducible refine gate_callee (f := 54) rfl ?_); refine goesL_ (some 41) rfl rfl Try.func54 z5_18 rfl #[.slice A0 l0.length c0] rfl z5_7 ?_; (with_reducible refine (spec_DrawCrashed.calls k _ _ l0 t265 t266 t267 _ ?side1 ?side2 A10.out).mono ?_); (case side1 => exact Kd.C_below HR0.out z5_17); (case side2 => exact HC0.out); rintro e w65 ⟨rfl, hb⟩; refine ⟨_, rfl, ?_⟩; have n0_ := Aside0.mk (Kd.R_below (by (with_reducible repeat (first | apply Kd.R_alloc | apply Kd.R_drewN | apply Kd.R_drew)); exact (Kd.R_mono (Kd.R_far (p := ⟨gb264, 1, none⟩) (Kd.R_far (p := ⟨gb264, 0, none⟩) (Kd.R_types HO253.out BK264.out (by decide)) (fun _ hk => by first | exact hk.2 | trivial) (.string t262)) (fun _ hk => by first | exact hk.2 | trivial) (.int .i64 t263)) (fun _ h_ => h_.1))) hb); have n1_ := Aside0.mk (blk_below (g := gb250) (o := .cells #[.string t248, .int .i64 t249] 75 (0, 0)) (by (with_reducible repeat (first | refine blk_drewN ?_ _ | refine blk_drew ?_ | refine blk_alloc ?_ _)); refine blk_far ?_ NB250_264.out _; (with_reducible repeat (first | refine blk_drewN ?_ _ | refine blk_drew ?_ | refine blk_alloc ?_ _)); refine blk_far ?_ NB250_264.out _; (with_reducible repeat (first | refine blk_drewN ?_ _ | refine blk_drew ?_ | refine blk_alloc ?_ _)); exact BK250.out) hb); have n2_ := Aside0.mk (blk_below (g := gb257) (o := .cells #[.string t255, .int .i64 t256] 75 (0, 0)) (by (with_reducible repeat (first | refine blk_drewN ?_ _ | refine blk_drew ?_ | refine blk_alloc ?_ _)); refine blk_far ?_ NB257_264.out _; (with_reducible repeat (first | refine blk_drewN ?_ _ | refine blk_drew ?_ | refine blk_alloc ?_ _)); refine blk_far ?_ NB257_264.out _; (with_reducible repeat (first | refine blk_drewN ?_ _ | refine blk_drew ?_ | refine blk_alloc ?_ _)); exact BK257.out) hb); have n3_ := Aside0.mk (blk_below (g := gb261) (o := .cells #[.string t258, .int .i64 t259] 75 (0, 0)) (by (with_reducible repeat (first | refine blk_drewN ?_ _ | refine blk_drew ?_ | refine blk_alloc ?_ _)); refine blk_far ?_ NB261_264.out _; (with_reducible repeat (first | refine blk_drewN ?_ _ | refine blk_drew ?_ | refine blk_alloc ?_ _)); refine blk_far ?_ NB261_264.out _; (with_reducible repeat (first | refine blk_drewN ?_ _ | refine blk_drew ?_ | refine blk_alloc ?_ _)); exact BK261.out) hb); have n4_ := Aside0.mk (blk_below (g := gb264) (o := .cells #[.string t262, .int .i64 t263] 75 (0, 0)) (by (with_reducible repeat (first | refine blk_drewN ?_ _ | refine blk_drew ?_ | refine blk_alloc ?_ _)); refine blk_put (cs := #[.string t262, .int .i64 0]) ?_ 1 _ rfl; (with_reducible repeat (first | refine blk_drewN ?_ _ | refine blk_drew ?_ | refine blk_alloc ?_ _)); refine blk_put (cs := #[.string (⟨#[]⟩ : ByteArray), .int .i64 0]) ?_ 0 _ rfl; (with_reducible repeat (first | refine blk_drewN ?_ _ | refine blk_drew ?_ | refine blk_alloc ?_ _)); exact BK264.out) hb); have n5_ := Aside0.mk (below_step z5_17 hb); clear HO253; clear BK250; clear BK257; clear BK261; clear BK264; clear HB; have HO253 := n0_; have BK250 := n1_; have BK257 := n2_; have BK261 := n3_; have BK264 := n4_; have HB := n5_; clear n0_ n1_ n2_ n3_ n4_ n5_) | ((with_reducible refine gate_dst (N := 10) rfl ?_); (try (refine gate_guard (by rfl) ?_; dsimp only)); refine box_event ?hg (N := 10) ?hd (cs := #[.string (⟨#[]⟩ : ByteArray), .int .i64 0]) (t := 75) ?hr ?_; (case hd => rfl); (case hg => rfl); (case hr => first | (go_simp; done) | (go_simp; rfl)); intro gb268 hg w66 hbox hb; have n0_ := Aside0.mk (Kd.R_below z5_9 hb); have n1_ := Aside0.mk (blk_below (g := gb250) (o := .cells #[.string t248, .int .i64 t249] 75 (0, 0)) z5_2 hb); have n2_ := Aside0.mk (blk_below (g := gb257) (o := .cells #[.string t255, .int .i64 t256] 75 (0, 0)) z5_3 hb); have n3_ := Aside0.mk (blk_below (g := gb261) (o := .cells #[.string t258, .int .i64 t259] 75 (0, 0)) z5_4 hb); have n4_ := Aside0.mk (blk_below (g := gb264) (o := .cells #[.string t262, .int .i64 t263] 75 (0, 0)) z5_5 hb); have n5_ := Aside0.mk (below_step z5_17 hb); have n6_ := Aside0.mk (hbox); have n7_ := Aside0.mk ((by rw [hg]; exact (below_size z5_17) : w.heap.size ≤ gb268)); have n8_ := Aside0.mk ((by rw [hg]; exact (below_size z5_17) : w.heap.size ≤ gb268)); have n9_ := Aside0.mk ((by rw [hg]; exact Nat.ne_of_lt (blk_lt (g := gb250) (o := .cells #[.string t248, .int .i64 t249] 75 (0, 0)) z5_2) : gb250 ≠ gb268)); have n10_ := Aside0.mk ((by rw [hg]; exact Nat.ne_of_gt (blk_lt (g := gb250) (o := .cells #[.string t248, .int .i64 t249] 75 (0, 0)) z5_2) : gb268 ≠ gb250)); have n11_ := Aside0.mk ((by rw [hg]; exact Nat.ne_of_lt (blk_lt (g := gb257) (o := .cells #[.string t255, .int .i64 t256] 75 (0, 0)) z5_3) : gb257 ≠ gb268)); have n12_ := Aside0.mk ((by rw [hg]; exact Nat.ne_of_gt (blk_lt (g := gb257) (o := .cells #[.string t255, .int .i64 t256] 75 (0, 0)) z5_3) : gb268 ≠ gb257)); have n13_ := Aside0.mk ((by rw [hg]; exact Nat.ne_of_lt (blk_lt (g := gb261) (o := .cells #[.string t258, .int .i64 t259] 75 (0, 0)) z5_4) : gb261 ≠ gb268)); have n14_ := Aside0.mk ((by rw [hg]; exact Nat.ne_of_gt (blk_lt (g := gb261) (o := .cells #[.string t258, .int .i64 t259] 75 (0, 0)) z5_4) : gb268 ≠ gb261)); have n15_ := Aside0.mk ((by rw [hg]; exact Nat.ne_of_lt (blk_lt (g := gb264) (o := .cells #[.string t262, .int .i64 t263] 75 (0, 0)) z5_5) : gb264 ≠ gb268)); have n16_ := Aside0.mk ((by rw [hg]; exact Nat.ne_of_gt (blk_lt (g := gb264) (o := .cells #[.string t262, .int .i64 t263] 75 (0, 0)) z5_5) : gb268 ≠ gb264)); clear HO253; clear BK250; clear BK257; clear BK261; clear BK264; clear HB; have HO253 := n0_; have BK250 := n1_; have BK257 := n2_; have BK261 := n3_; have BK264 := n4_; have HB := n5_; have BK268 := n6_; have GW268 := n7_; have GE268 := n8_; have NB250_268 := n9_; have NB268_250 := n10_; have NB257_268 := n11_; have NB268_257 := n12_; have NB261_268 := n13_; have NB268_261 := n14_; have NB264_268 := n15_; have NB268_264 := n16_; clear n0_ n1_ n2_ n3_ n4_ n5_ n6_ n7_ n8_ n9_ n10_ n11_ n12_ n13_ n14_ n15_ n16_; clear hb hbox hg; have hnb67 := NB268_250.out; have hnc67 := NB250_268.out; have hnb68 := NB268_257.out; have hnc68 := NB257_268.out; have hnb69 := NB268_261.out; have hnc69 := NB261_268.out; have hnb70 := NB268_264.out; have hnc70 := NB264_268.out; have hcz71_0 : w66.cell? ⟨gb268, 0, none⟩ = some (.string (⟨#[]⟩ : ByteArray)) := (blk_cell BK268.out 0).trans rfl; have hcz71_1 : w66.cell? ⟨gb268, 1, none⟩ = some (.int .i64 0) := (blk_cell BK268.out 1).trans rfl; have hfz71_0 := blk_frozen BK268.out 0; have hfz71_1 := blk_frozen BK268.out 1) | ((with_reducible refine gate_callee (f := 55) rfl ?_); refine goesL_ (some 46) rfl rfl Try.func55 z5_18 rfl #[.slice A0 l0.length c0] rfl z5_7 ?_; (with_reducible refine (spec_DrawAppended.calls k _ _ l0 t269 t270 t271 _ ?side1 ?side2 A11.out).mono ?_); (case side1 => exact Kd.C_below HR0.out z5_14); (case side2 => exact HC0.out); rintro e w72 ⟨rfl, hb⟩; refine ⟨_, rfl, ?_⟩; have n0_ := Aside0.mk (Kd.R_below (by (with_reducible repeat (first | apply Kd.R_alloc | apply Kd.R_drewN | apply Kd.R_drew)); exact (Kd.R_mono (Kd.R_far (p := ⟨gb268, 1, none⟩) (Kd.R_far (p := ⟨gb268, 0, none⟩) (Kd.R_types HO253.out BK268.out (by decide)) (fun _ hk => by first | exact hk.2 | trivial) (.string t265)) (fun _ hk => by first | exact hk.2 | trivial) (.int .i64 t266)) (fun _ h_ => h_.1))) hb); have n1_ := Aside0.mk (blk_below (g := gb250) (o := .cells #[.string t248, .int .i64 t249] 75 (0, 0)) (by (with_reducible repeat (first | refine blk_drewN ?_ _ | refine blk_drew ?_ | refine blk_alloc ?_ _)); refine blk_far ?_ NB250_268.out _; (with_reducible repeat (first | refine blk_drewN ?_ _ | refine blk_drew ?_ | refine blk_alloc ?_ _)); refine blk_far ?_ NB250_268.out _; (with_reducible repeat (first | refine blk_drewN ?_ _ | refine blk_drew ?_ | refine blk_alloc ?_ _)); exact BK250.out) hb); have n2_ := Aside0.mk (blk_below (g := gb257) (o := .cells #[.string t255, .int .i64 t256] 75 (0, 0)) (by (with_reducible repeat (first | refine blk_drewN ?_ _ | refine blk_drew ?_ | refine blk_alloc ?_ _)); refine blk_far ?_ NB257_268.out _; (with_reducible repeat (first | refine blk_drewN ?_ _ | refine blk_drew ?_ | refine blk_alloc ?_ _)); refine blk_far ?_ NB257_268.out _; (with_reducible repeat (first | refine blk_drewN ?_ _ | refine blk_drew ?_ | refine blk_alloc ?_ _)); exact BK257.out) hb); have n3_ := Aside0.mk (blk_below (g := gb261) (o := .cells #[.string t258, .int .i64 t259] 75 (0, 0)) (by (with_reducible repeat (first | refine blk_drewN ?_ _ | refine blk_drew ?_ | refine blk_alloc ?_ _)); refine blk_far ?_ NB261_268.out _; (with_reducible repeat (first | refine blk_drewN ?_ _ | refine blk_drew ?_ | refine blk_alloc ?_ _)); refine blk_far ?_ NB261_268.out _; (with_reducible repeat (first | refine blk_drewN ?_ _ | refine blk_drew ?_ | refine blk_alloc ?_ _)); exact BK261.out) hb); have n4_ := Aside0.mk (blk_below (g := gb264) (o := .cells #[.string t262, .int .i64 t263] 75 (0, 0)) (by (with_reducible repeat (first | refine blk_drewN ?_ _ | refine blk_drew ?_ | refine blk_alloc ?_ _)); refine blk_far ?_ NB264_268.out _; (with_reducible repeat (first | refine blk_drewN ?_ _ | refine blk_drew ?_ | refine blk_alloc ?_ _)); refine blk_far ?_ NB264_268.out _; (with_reducible repeat (first | refine blk_drewN ?_ _ | refine blk_drew ?_ | refine blk_alloc ?_ _)); exact BK264.out) hb); have n5_ := Aside0.mk (blk_below (g := gb268) (o := .cells #[.string t265, .int .i64 t266] 75 (0, 0)) (by (with_reducible repeat (first | refine blk_drewN ?_ _ | refine blk_drew ?_ | refine blk_alloc ?_ _)); refine blk_put (cs := #[.string t265, .int .i64 0]) ?_ 1 _ rfl; (with_reducible repeat (first | refine blk_drewN ?_ _ | refine blk_drew ?_ | refine blk_alloc ?_ _)); refine blk_put (cs := #[.string (⟨#[]⟩ : ByteArray), .int .i64 0]) ?_ 0 _ rfl; (with_reducible repeat (first | refine blk_drewN ?_ _ | refine blk_drew ?_ | refine blk_alloc ?_ _)); exact BK268.out) hb); have n6_ := Aside0.mk (below_step z5_14 hb); clear HO253; clear BK250; clear BK257; clear BK261; clear BK264; clear BK268; clear HB; have HO253 := n0_; have BK250 := n1_; have BK257 := n2_; have BK261 := n3_; have BK264 := n4_; have BK268 := n5_; have HB := n6_; clear n0_ n1_ n2_ n3_ n4_ n5_ n6_) | ((with_reducible refine gate_dst (N := 12) rfl ?_); (try (refine gate_guard (by rfl) ?_; dsimp only)); refine box_event ?hg (N := 12) ?hd (cs := #[.string (⟨#[]⟩ : ByteArray), .int .i64 0]) (t := 75) ?hr ?_; (case hd => rfl); (case hg => rfl); (case hr => first | (go_simp; done) | (go_simp; rfl)); intro gb272 hg w73 hbox hb; have n0_ := Aside0.mk (Kd.R_below z5_9 hb); have n1_ := Aside0.mk (blk_below (g := gb250) (o := .cells #[.string t248, .int .i64 t249] 75 (0, 0)) z5_2 hb); have n2_ := Aside0.mk (blk_below (g := gb257) (o := .cells #[.string t255, .int .i64 t256] 75 (0, 0)) z5_3 hb); have n3_ := Aside0.mk (blk_below (g := gb261) (o := .cells #[.string t258, .int .i64 t259] 75 (0, 0)) z5_4 hb); have n4_ := Aside0.mk (blk_below (g := gb264) (o := .cells #[.string t262, .int .i64 t263] 75 (0, 0)) z5_5 hb); have n5_ := Aside0.mk (blk_below (g := gb268) (o := .cells #[.string t265, .int .i64 t266] 75 (0, 0)) z5_6 hb); have n6_ := Aside0.mk (below_step z5_14 hb); have n7_ := Aside0.mk (hbox); have n8_ := Aside0.mk ((by rw [hg]; exact (below_size z5_14) : w.heap.size ≤ gb272)); have n9_ := Aside0.mk ((by rw [hg]; exact (below_size z5_14) : w.heap.size ≤ gb272)); have n10_ := Aside0.mk ((by rw [hg]; exact Nat.ne_of_lt (blk_lt (g := gb250) (o := .cells #[.string t248, .int .i64 t249] 75 (0, 0)) z5_2) : gb250 ≠ gb272)); have n11_ := Aside0.mk ((by rw [hg]; exact Nat.ne_of_gt (blk_lt (g := gb250) (o := .cells #[.string t248, .int .i64 t249] 75 (0, 0)) z5_2) : gb272 ≠ gb250)); have n12_ := Aside0.mk ((by rw [hg]; exact Nat.ne_of_lt (blk_lt (g := gb257) (o := .cells #[.string t255, .int .i64 t256] 75 (0, 0)) z5_3) : gb257 ≠ gb272)); have n13_ := Aside0.mk ((by rw [hg]; exact Nat.ne_of_gt (blk_lt (g := gb257) (o := .cells #[.string t255, .int .i64 t256] 75 (0, 0)) z5_3) : gb272 ≠ gb257)); have n14_ := Aside0.mk ((by rw [hg]; exact Nat.ne_of_lt (blk_lt (g := gb261) (o := .cells #[.string t258, .int .i64 t259] 75 (0, 0)) z5_4) : gb261 ≠ gb272)); have n15_ := Aside0.mk ((by rw [hg]; exact Nat.ne_of_gt (blk_lt (g := gb261) (o := .cells #[.string t258, .int .i64 t259] 75 (0, 0)) z5_4) : gb272 ≠ gb261)); have n16_ := Aside0.mk ((by rw [hg]; exact Nat.ne_of_lt (blk_lt (g := gb264) (o := .cells #[.string t262, .int .i64 t263] 75 (0, 0)) z5_5) : gb264 ≠ gb272)); have n17_ := Aside0.mk ((by rw [hg]; exact Nat.ne_of_gt (blk_lt (g := gb264) (o := .cells #[.string t262, .int .i64 t263] 75 (0, 0)) z5_5) : gb272 ≠ gb264)); have n18_ := Aside0.mk ((by rw [hg]; exact Nat.ne_of_lt (blk_lt (g := gb268) (o := .cells #[.string t265, .int .i64 t266] 75 (0, 0)) z5_6) : gb268 ≠ gb272)); have n19_ := Aside0.mk ((by rw [hg]; exact Nat.ne_of_gt (blk_lt (g := gb268) (o := .cells #[.string t265, .int .i64 t266] 75 (0, 0)) z5_6) : gb272 ≠ gb268)); clear HO253; clear BK250; clear BK257; clear BK261; clear BK264; clear BK268; clear HB; have HO253 := n0_; have BK250 := n1_; have BK257 := n2_; have BK261 := n3_; have BK264 := n4_; have BK268 := n5_; have HB := n6_; have BK272 := n7_; have GW272 := n8_; have GE272 := n9_; have NB250_272 := n10_; have NB272_250 := n11_; have NB257_272 := n12_; have NB272_257 := n13_; have NB261_272 := n14_; have NB272_261 := n15_; have NB264_272 := n16_; have NB272_264 := n17_; have NB268_272 := n18_; have NB272_268 := n19_; clear n0_ n1_ n2_ n3_ n4_ n5_ n6_ n7_ n8_ n9_ n10_ n11_ n12_ n13_ n14_ n15_ n16_ n17_ n18_ n19_; clear hb hbox hg; have hnb74 := NB272_250.out; have hnc74 := NB250_272.out; have hnb75 := NB272_257.out; have hnc75 := NB257_272.out; have hnb76 := NB272_261.out; have hnc76 := NB261_272.out; have hnb77 := NB272_264.out; have hnc77 := NB264_272.out; have hnb78 := NB272_268.out; have hnc78 := NB268_272.out; have hcz79_0 : w73.cell? ⟨gb272, 0, none⟩ = some (.string (⟨#[]⟩ : ByteArray)) := (blk_cell BK272.out 0).trans rfl; have hcz79_1 : w73.cell? ⟨gb272, 1, none⟩ = some (.int .i64 0) := (blk_cell BK272.out 1).trans rfl; have hfz79_0 := blk_frozen BK272.out 0; have hfz79_1 := blk_frozen BK272.out 1) | ((with_reducible refine gate_callee (f := 52) rfl ?_); refine goesL_ (some 52) rfl rfl Try.func52 z5_18 rfl #[.agg #[.string t269, .int .i64 t270], .string t271] rfl z5_7 ?_; (with_reducible refine (impl_Appended.calls t269 t270 t271 t273 t274 t275 _ A12.out).mono ?_); rintro e w80 ⟨rfl, hb⟩; refine ⟨_, rfl, ?_⟩; have n0_ := Aside0.mk (Kd.R_below (by (with_reducible repeat (first | apply Kd.R_alloc | apply Kd.R_drewN | apply Kd.R_drew)); exact (Kd.R_mono (Kd.R_far (p := ⟨gb272, 1, none⟩) (Kd.R_far (p := ⟨gb272, 0, none⟩) (Kd.R_types HO253.out BK272.out (by decide)) (fun _ hk => by first | exact hk.2 | trivial) (.string t269)) (fun _ hk => by first | exact hk.2 | trivial) (.int .i64 t270)) (fun _ h_ => h_.1))) hb); have n1_ := Aside0.mk (blk_below (g := gb250) (o := .cells #[.string t248, .int .i64 t249] 75 (0, 0)) (by (with_reducible repeat (first | refine blk_drewN ?_ _ | refine blk_drew ?_ | refine blk_alloc ?_ _)); refine blk_far ?_ NB250_272.out _; (with_reducible repeat (first | refine blk_drewN ?_ _ | refine blk_drew ?_ | refine blk_alloc ?_ _)); refine blk_far ?_ NB250_272.out _; (with_reducible repeat (first | refine blk_drewN ?_ _ | refine blk_drew ?_ | refine blk_alloc ?_ _)); exact BK250.out) hb); have n2_ := Aside0.mk (blk_below (g := gb257) (o := .cells #[.string t255, .int .i64 t256] 75 (0, 0)) (by (with_reducible repeat (first | refine blk_drewN ?_ _ | refine blk_drew ?_ | refine blk_alloc ?_ _)); refine blk_far ?_ NB257_272.out _; (with_reducible repeat (first | refine blk_drewN ?_ _ | refine blk_drew ?_ | refine blk_alloc ?_ _)); refine blk_far ?_ NB257_272.out _; (with_reducible repeat (first | refine blk_drewN ?_ _ | refine blk_drew ?_ | refine blk_alloc ?_ _)); exact BK257.out) hb); have n3_ := Aside0.mk (blk_below (g := gb261) (o := .cells #[.string t258, .int .i64 t259] 75 (0, 0)) (by (with_reducible repeat (first | refine blk_drewN ?_ _ | refine blk_drew ?_ | refine blk_alloc ?_ _)); refine blk_far ?_ NB261_272.out _; (with_reducible repeat (first | refine blk_drewN ?_ _ | refine blk_drew ?_ | refine blk_alloc ?_ _)); refine blk_far ?_ NB261_272.out _; (with_reducible repeat (first | refine blk_drewN ?_ _ | refine blk_drew ?_ | refine blk_alloc ?_ _)); exact BK261.out) hb); have n4_ := Aside0.mk (blk_below (g := gb264) (o := .cells #[.string t262, .int .i64 t263] 75 (0, 0)) (by (with_reducible repeat (first | refine blk_drewN ?_ _ | refine blk_drew ?_ | refine blk_alloc ?_ _)); refine blk_far ?_ NB264_272.out _; (with_reducible repeat (first | refine blk_drewN ?_ _ | refine blk_drew ?_ | refine blk_alloc ?_ _)); refine blk_far ?_ NB264_272.out _; (with_reducible repeat (first | refine blk_drewN ?_ _ | refine blk_drew ?_ | refine blk_alloc ?_ _)); exact BK264.out) hb); have n5_ := Aside0.mk (blk_below (g := gb268) (o := .cells #[.string t265, .int .i64 t266] 75 (0, 0)) (by (with_reducible repeat (first | refine blk_drewN ?_ _ | refine blk_drew ?_ | refine blk_alloc ?_ _)); refine blk_far ?_ NB268_272.out _; (with_reducible repeat (first | refine blk_drewN ?_ _ | refine blk_drew ?_ | refine blk_alloc ?_ _)); refine blk_far ?_ NB268_272.out _; (with_reducible repeat (first | refine blk_drewN ?_ _ | refine blk_drew ?_ | refine blk_alloc ?_ _)); exact BK268.out) hb); have n6_ := Aside0.mk (blk_below (g := gb272) (o := .cells #[.string t269, .int .i64 t270] 75 (0, 0)) (by (with_reducible repeat (first | refine blk_drewN ?_ _ | refine blk_drew ?_ | refine blk_alloc ?_ _)); refine blk_put (cs := #[.string t269, .int .i64 0]) ?_ 1 _ rfl; (with_reducible repeat (first | refine blk_drewN ?_ _ | refine blk_drew ?_ | refine blk_alloc ?_ _)); refine blk_put (cs := #[.string (⟨#[]⟩ : ByteArray), .int .i64 0]) ?_ 0 _ rfl; (with_reducible repeat (first | refine blk_drewN ?_ _ | refine blk_drew ?_ | refine blk_alloc ?_ _)); exact BK272.out) hb); have n7_ := Aside0.mk (below_step z5_20 hb); clear HO253; clear BK250; clear BK257; clear BK261; clear BK264; clear BK268; clear BK272; clear HB; have HO253 := n0_; have BK250 := n1_; have BK257 := n2_; have BK261 := n3_; have BK264 := n4_; have BK268 := n5_; have BK272 := n6_; have HB := n7_; clear n0_ n1_ n2_ n3_ n4_ n5_ n6_ n7_) | ((with_reducible refine gate_dst (N := 14) rfl ?_); (try (refine gate_guard (by rfl) ?_; dsimp only)); refine box_event ?hg (N := 14) ?hd (cs := #[.string (⟨#[]⟩ : ByteArray), .int .i64 0]) (t := 75) ?hr ?_; (case hd => rfl); (case hg => rfl); (case hr => first | (go_simp; done) | (go_simp; rfl)); intro gb276 hg w81 hbox hb; have n0_ := Aside0.mk (Kd.R_below z5_9 hb); have n1_ := Aside0.mk (blk_below (g := gb250) (o := .cells #[.string t248, .int .i64 t249] 75 (0, 0)) z5_2 hb); have n2_ := Aside0.mk (blk_below (g := gb257) (o := .cells #[.string t255, .int .i64 t256] 75 (0, 0)) z5_3 hb); have n3_ := Aside0.mk (blk_below (g := gb261) (o := .cells #[.string t258, .int .i64 t259] 75 (0, 0)) z5_4 hb); have n4_ := Aside0.mk (blk_below (g := gb264) (o := .cells #[.string t262, .int .i64 t263] 75 (0, 0)) z5_5 hb); have n5_ := Aside0.mk (blk_below (g := gb268) (o := .cells #[.string t265, .int .i64 t266] 75 (0, 0)) z5_6 hb); have n6_ := Aside0.mk (blk_below (g := gb272) (o := .cells #[.string t269, .int .i64 t270] 75 (0, 0)) z5_8 hb); have n7_ := Aside0.mk (below_step z5_20 hb); have n8_ := Aside0.mk (hbox); have n9_ := Aside0.mk ((by rw [hg]; exact (below_size z5_20) : w.heap.size ≤ gb276)); have n10_ := Aside0.mk ((by rw [hg]; exact (below_size z5_20) : w.heap.size ≤ gb276)); have n11_ := Aside0.mk ((by rw [hg]; exact Nat.ne_of_lt (blk_lt (g := gb250) (o := .cells #[.string t248, .int .i64 t249] 75 (0, 0)) z5_2) : gb250 ≠ gb276)); have n12_ := Aside0.mk ((by rw [hg]; exact Nat.ne_of_gt (blk_lt (g := gb250) (o := .cells #[.string t248, .int .i64 t249] 75 (0, 0)) z5_2) : gb276 ≠ gb250)); have n13_ := Aside0.mk ((by rw [hg]; exact Nat.ne_of_lt (blk_lt (g := gb257) (o := .cells #[.string t255, .int .i64 t256] 75 (0, 0)) z5_3) : gb257 ≠ gb276)); have n14_ := Aside0.mk ((by rw [hg]; exact Nat.ne_of_gt (blk_lt (g := gb257) (o := .cells #[.string t255, .int .i64 t256] 75 (0, 0)) z5_3) : gb276 ≠ gb257)); have n15_ := Aside0.mk ((by rw [hg]; exact Nat.ne_of_lt (blk_lt (g := gb261) (o := .cells #[.string t258, .int .i64 t259] 75 (0, 0)) z5_4) : gb261 ≠ gb276)); have n16_ := Aside0.mk ((by rw [hg]; exact Nat.ne_of_gt (blk_lt (g := gb261) (o := .cells #[.string t258, .int .i64 t259] 75 (0, 0)) z5_4) : gb276 ≠ gb261)); have n17_ := Aside0.mk ((by rw [hg]; exact Nat.ne_of_lt (blk_lt (g := gb264) (o := .cells #[.string t262, .int .i64 t263] 75 (0, 0)) z5_5) : gb264 ≠ gb276)); have n18_ := Aside0.mk ((by rw [hg]; exact Nat.ne_of_gt (blk_lt (g := gb264) (o := .cells #[.string t262, .int .i64 t263] 75 (0, 0)) z5_5) : gb276 ≠ gb264)); have n19_ := Aside0.mk ((by rw [hg]; exact Nat.ne_of_lt (blk_lt (g := gb268) (o := .cells #[.string t265, .int .i64 t266] 75 (0, 0)) z5_6) : gb268 ≠ gb276)); have n20_ := Aside0.mk ((by rw [hg]; exact Nat.ne_of_gt (blk_lt (g := gb268) (o := .cells #[.string t265, .int .i64 t266] 75 (0, 0)) z5_6) : gb276 ≠ gb268)); have n21_ := Aside0.mk ((by rw [hg]; exact Nat.ne_of_lt (blk_lt (g := gb272) (o := .cells #[.string t269, .int .i64 t270] 75 (0, 0)) z5_8) : gb272 ≠ gb276)); have n22_ := Aside0.mk ((by rw [hg]; exact Nat.ne_of_gt (blk_lt (g := gb272) (o := .cells #[.string t269, .int .i64 t270] 75 (0, 0)) z5_8) : gb276 ≠ gb272)); clear HO253; clear BK250; clear BK257; clear BK261; clear BK264; clear BK268; clear BK272; clear HB; have HO253 := n0_; have BK250 := n1_; have BK257 := n2_; have BK261 := n3_; have BK264 := n4_; have BK268 := n5_; have BK272 := n6_; have HB := n7_; have BK276 := n8_; have GW276 := n9_; have GE276 := n10_; have NB250_276 := n11_; have NB276_250 := n12_; have NB257_276 := n13_; have NB276_257 := n14_; have NB261_276 := n15_; have NB276_261 := n16_; have NB264_276 := n17_; have NB276_264 := n18_; have NB268_276 := n19_; have NB276_268 := n20_; have NB272_276 := n21_; have NB276_272 := n22_; clear n0_ n1_ n2_ n3_ n4_ n5_ n6_ n7_ n8_ n9_ n10_ n11_ n12_ n13_ n14_ n15_ n16_ n17_ n18_ n19_ n20_ n21_ n22_; clear hb hbox hg; have hnb82 := NB276_250.out; have hnc82 := NB250_276.out; have hnb83 := NB276_257.out; have hnc83 := NB257_276.out; have hnb84 := NB276_261.out; have hnc84 := NB261_276.out; have hnb85 := NB276_264.out; have hnc85 := NB264_276.out; have hnb86 := NB276_268.out; have hnc86 := NB268_276.out; have hnb87 := NB276_272.out; have hnc87 := NB272_276.out; have hcz88_0 : w81.cell? ⟨gb276, 0, none⟩ = some (.string (⟨#[]⟩ : ByteArray)) := (blk_cell BK276.out 0).trans rfl; have hcz88_1 : w81.cell? ⟨gb276, 1, none⟩ = some (.int .i64 0) := (blk_cell BK276.out 1).trans rfl; have hfz88_0 := blk_frozen BK276.out 0; have hfz88_1 := blk_frozen BK276.out 1; have hcz89_0 : w81.cell? ⟨gb272, 0, none⟩ = some (.string t269) := (blk_cell BK272.out 0).trans rfl; have hcz89_1 : w81.cell? ⟨gb272, 1, none⟩ = some (.int .i64 t270) := (blk_cell BK272.out 1).trans rfl; have hfz89_0 := blk_frozen BK272.out 0; have hfz89_1 := blk_frozen BK272.out 1) | ((with_reducible refine gate_callee (f := 56) rfl ?_); refine goesL_ (some 58) rfl rfl Try.func56 z5_18 rfl #[.agg #[.string t269, .int .i64 t270], .string t271] rfl z5_7 ?_; (with_reducible refine (spec_Appended.calls t269 t270 t271 t277 t278 t279 _ A13.out).mono ?_); rintro e w90 ⟨rfl, hb⟩; refine ⟨_, rfl, ?_⟩; have n0_ := Aside0.mk (Kd.R_below (by (with_reducible repeat (first | apply Kd.R_alloc | apply Kd.R_drewN | apply Kd.R_drew)); exact (Kd.R_mono (Kd.R_far (p := ⟨gb276, 1, none⟩) (Kd.R_far (p := ⟨gb276, 0, none⟩) (Kd.R_types HO253.out BK276.out (by decide)) (fun _ hk => by first | exact hk.2 | trivial) (.string t273)) (fun _ hk => by first | exact hk.2 | trivial) (.int .i64 t274)) (fun _ h_ => h_.1))) hb); have n1_ := Aside0.mk (blk_below (g := gb250) (o := .cells #[.string t248, .int .i64 t249] 75 (0, 0)) (by (with_reducible repeat (first | refine blk_drewN ?_ _ | refine blk_drew ?_ | refine blk_alloc ?_ _)); refine blk_far ?_ NB250_276.out _; (with_reducible repeat (first | refine blk_drewN ?_ _ | refine blk_drew ?_ | refine blk_alloc ?_ _)); refine blk_far ?_ NB250_276.out _; (with_reducible repeat (first | refine blk_drewN ?_ _ | refine blk_drew ?_ | refine blk_alloc ?_ _)); exact BK250.out) hb); have n2_ := Aside0.mk (blk_below (g := gb257) (o := .cells #[.string t255, .int .i64 t256] 75 (0, 0)) (by (with_reducible repeat (first | refine blk_drewN ?_ _ | refine blk_drew ?_ | refine blk_alloc ?_ _)); refine blk_far ?_ NB257_276.out _; (with_reducible repeat (first | refine blk_drewN ?_ _ | refine blk_drew ?_ | refine blk_alloc ?_ _)); refine blk_far ?_ NB257_276.out _; (with_reducible repeat (first | refine blk_drewN ?_ _ | refine blk_drew ?_ | refine blk_alloc ?_ _)); exact BK257.out) hb); have n3_ := Aside0.mk (blk_below (g := gb261) (o := .cells #[.string t258, .int .i64 t259] 75 (0, 0)) (by (with_reducible repeat (first | refine blk_drewN ?_ _ | refine blk_drew ?_ | refine blk_alloc ?_ _)); refine blk_far ?_ NB261_276.out _; (with_reducible repeat (first | refine blk_drewN ?_ _ | refine blk_drew ?_ | refine blk_alloc ?_ _)); refine blk_far ?_ NB261_276.out _; (with_reducible repeat (first | refine blk_drewN ?_ _ | refine blk_drew ?_ | refine blk_alloc ?_ _)); exact BK261.out) hb); have n4_ := Aside0.mk (blk_below (g := gb264) (o := .cells #[.string t262, .int .i64 t263] 75 (0, 0)) (by (with_reducible repeat (first | refine blk_drewN ?_ _ | refine blk_drew ?_ | refine blk_alloc ?_ _)); refine blk_far ?_ NB264_276.out _; (with_reducible repeat (first | refine blk_drewN ?_ _ | refine blk_drew ?_ | refine blk_alloc ?_ _)); refine blk_far ?_ NB264_276.out _; (with_reducible repeat (first | refine blk_drewN ?_ _ | refine blk_drew ?_ | refine blk_alloc ?_ _)); exact BK264.out) hb); have n5_ := Aside0.mk (blk_below (g := gb268) (o := .cells #[.string t265, .int .i64 t266] 75 (0, 0)) (by (with_reducible repeat (first | refine blk_drewN ?_ _ | refine blk_drew ?_ | refine blk_alloc ?_ _)); refine blk_far ?_ NB268_276.out _; (with_reducible repeat (first | refine blk_drewN ?_ _ | refine blk_drew ?_ | refine blk_alloc ?_ _)); refine blk_far ?_ NB268_276.out _; (with_reducible repeat (first | refine blk_drewN ?_ _ | refine blk_drew ?_ | refine blk_alloc ?_ _)); exact BK268.out) hb); have n6_ := Aside0.mk (blk_below (g := gb272) (o := .cells #[.string t269, .int .i64 t270] 75 (0, 0)) (by (with_reducible repeat (first | refine blk_drewN ?_ _ | refine blk_drew ?_ | refine blk_alloc ?_ _)); refine blk_far ?_ NB272_276.out _; (with_reducible repeat (first | refine blk_drewN ?_ _ | refine blk_drew ?_ | refine blk_alloc ?_ _)); refine blk_far ?_ NB272_276.out _; (with_reducible repeat (first | refine blk_drewN ?_ _ | refine blk_drew ?_ | refine blk_alloc ?_ _)); exact BK272.out) hb); have n7_ := Aside0.mk (blk_below (g := gb276) (o := .cells #[.string t273, .int .i64 t274] 75 (0, 0)) (by (with_reducible repeat (first | refine blk_drewN ?_ _ | refine blk_drew ?_ | refine blk_alloc ?_ _)); refine blk_put (cs := #[.string t273, .int .i64 0]) ?_ 1 _ rfl; (with_reducible repeat (first | refine blk_drewN ?_ _ | refine blk_drew ?_ | refine blk_alloc ?_ _)); refine blk_put (cs := #[.string (⟨#[]⟩ : ByteArray), .int .i64 0]) ?_ 0 _ rfl; (with_reducible repeat (first | refine blk_drewN ?_ _ | refine blk_drew ?_ | refine blk_alloc ?_ _)); exact BK276.out) hb); have n8_ := Aside0.mk (below_step z5_15 hb); clear HO253; clear BK250; clear BK257; clear BK261; clear BK264; clear BK268; clear BK272; clear BK276; clear HB; have HO253 := n0_; have BK250 := n1_; have BK257 := n2_; have BK261 := n3_; have BK264 := n4_; have BK268 := n5_; have BK272 := n6_; have BK276 := n7_; have HB := n8_; clear n0_ n1_ n2_ n3_ n4_ n5_ n6_ n7_ n8_) | ((with_reducible refine gate_dst (N := 16) rfl ?_); (try (refine gate_guard (by rfl) ?_; dsimp only)); refine box_event ?hg (N := 16) ?hd (cs := #[.string (⟨#[]⟩ : ByteArray), .int .i64 0]) (t := 75) ?hr ?_; (case hd => rfl); (case hg => rfl); (case hr => first | (go_simp; done) | (go_simp; rfl)); intro gb280 hg w91 hbox hb; have n0_ := Aside0.mk (Kd.R_below z5_9 hb); have n1_ := Aside0.mk (blk_below (g := gb250) (o := .cells #[.string t248, .int .i64 t249] 75 (0, 0)) z5_2 hb); have n2_ := Aside0.mk (blk_below (g := gb257) (o := .cells #[.string t255, .int .i64 t256] 75 (0, 0)) z5_3 hb); have n3_ := Aside0.mk (blk_below (g := gb261) (o := .cells #[.string t258, .int .i64 t259] 75 (0, 0)) z5_4 hb); have n4_ := Aside0.mk (blk_below (g := gb264) (o := .cells #[.string t262, .int .i64 t263] 75 (0, 0)) z5_5 hb); have n5_ := Aside0.mk (blk_below (g := gb268) (o := .cells #[.string t265, .int .i64 t266] 75 (0, 0)) z5_6 hb); have n6_ := Aside0.mk (blk_below (g := gb272) (o := .cells #[.string t269, .int .i64 t270] 75 (0, 0)) z5_8 hb); have n7_ := Aside0.mk (blk_below (g := gb276) (o := .cells #[.string t273, .int .i64 t274] 75 (0, 0)) z5_11 hb); have n8_ := Aside0.mk (below_step z5_15 hb); have n9_ := Aside0.mk (hbox); have n10_ := Aside0.mk ((by rw [hg]; exact (below_size z5_15) : w.heap.size ≤ gb280)); have n11_ := Aside0.mk ((by rw [hg]; exact (below_size z5_15) : w.heap.size ≤ gb280)); have n12_ := Aside0.mk ((by rw [hg]; exact Nat.ne_of_lt (blk_lt (g := gb250) (o := .cells #[.string t248, .int .i64 t249] 75 (0, 0)) z5_2) : gb250 ≠ gb280)); have n13_ := Aside0.mk ((by rw [hg]; exact Nat.ne_of_gt (blk_lt (g := gb250) (o := .cells #[.string t248, .int .i64 t249] 75 (0, 0)) z5_2) : gb280 ≠ gb250)); have n14_ := Aside0.mk ((by rw [hg]; exact Nat.ne_of_lt (blk_lt (g := gb257) (o := .cells #[.string t255, .int .i64 t256] 75 (0, 0)) z5_3) : gb257 ≠ gb280)); have n15_ := Aside0.mk ((by rw [hg]; exact Nat.ne_of_gt (blk_lt (g := gb257) (o := .cells #[.string t255, .int .i64 t256] 75 (0, 0)) z5_3) : gb280 ≠ gb257)); have n16_ := Aside0.mk ((by rw [hg]; exact Nat.ne_of_lt (blk_lt (g := gb261) (o := .cells #[.string t258, .int .i64 t259] 75 (0, 0)) z5_4) : gb261 ≠ gb280)); have n17_ := Aside0.mk ((by rw [hg]; exact Nat.ne_of_gt (blk_lt (g := gb261) (o := .cells #[.string t258, .int .i64 t259] 75 (0, 0)) z5_4) : gb280 ≠ gb261)); have n18_ := Aside0.mk ((by rw [hg]; exact Nat.ne_of_lt (blk_lt (g := gb264) (o := .cells #[.string t262, .int .i64 t263] 75 (0, 0)) z5_5) : gb264 ≠ gb280)); have n19_ := Aside0.mk ((by rw [hg]; exact Nat.ne_of_gt (blk_lt (g := gb264) (o := .cells #[.string t262, .int .i64 t263] 75 (0, 0)) z5_5) : gb280 ≠ gb264)); have n20_ := Aside0.mk ((by rw [hg]; exact Nat.ne_of_lt (blk_lt (g := gb268) (o := .cells #[.string t265, .int .i64 t266] 75 (0, 0)) z5_6) : gb268 ≠ gb280)); have n21_ := Aside0.mk ((by rw [hg]; exact Nat.ne_of_gt (blk_lt (g := gb268) (o := .cells #[.string t265, .int .i64 t266] 75 (0, 0)) z5_6) : gb280 ≠ gb268)); have n22_ := Aside0.mk ((by rw [hg]; exact Nat.ne_of_lt (blk_lt (g := gb272) (o := .cells #[.string t269, .int .i64 t270] 75 (0, 0)) z5_8) : gb272 ≠ gb280)); have n23_ := Aside0.mk ((by rw [hg]; exact Nat.ne_of_gt (blk_lt (g := gb272) (o := .cells #[.string t269, .int .i64 t270] 75 (0, 0)) z5_8) : gb280 ≠ gb272)); have n24_ := Aside0.mk ((by rw [hg]; exact Nat.ne_of_lt (blk_lt (g := gb276) (o := .cells #[.string t273, .int .i64 t274] 75 (0, 0)) z5_11) : gb276 ≠ gb280)); have n25_ := Aside0.mk ((by rw [hg]; exact Nat.ne_of_gt (blk_lt (g := gb276) (o := .cells #[.string t273, .int .i64 t274] 75 (0, 0)) z5_11) : gb280 ≠ gb276)); clear HO253; clear BK250; clear BK257; clear BK261; clear BK264; clear BK268; clear BK272; clear BK276; clear HB; have HO253 := n0_; have BK250 := n1_; have BK257 := n2_; have BK261 := n3_; have BK264 := n4_; have BK268 := n5_; have BK272 := n6_; have BK276 := n7_; have HB := n8_; have BK280 := n9_; have GW280 := n10_; have GE280 := n11_; have NB250_280 := n12_; have NB280_250 := n13_; have NB257_280 := n14_; have NB280_257 := n15_; have NB261_280 := n16_; have NB280_261 := n17_; have NB264_280 := n18_; have NB280_264 := n19_; have NB268_280 := n20_; have NB280_268 := n21_; have NB272_280 := n22_; have NB280_272 := n23_; have NB276_280 := n24_; have NB280_276 := n25_; clear n0_ n1_ n2_ n3_ n4_ n5_ n6_ n7_ n8_ n9_ n10_ n11_ n12_ n13_ n14_ n15_ n16_ n17_ n18_ n19_ n20_ n21_ n22_ n23_ n24_ n25_; clear hb hbox hg; have hnb92 := NB280_250.out; have hnc92 := NB250_280.out; have hnb93 := NB280_257.out; have hnc93 := NB257_280.out; have hnb94 := NB280_261.out; have hnc94 := NB261_280.out; have hnb95 := NB280_264.out; have hnc95 := NB264_280.out; have hnb96 := NB280_268.out; have hnc96 := NB268_280.out; have hnb97 := NB280_272.out; have hnc97 := NB272_280.out; have hnb98 := NB280_276.out; have hnc98 := NB276_280.out; have hcz99_0 : w91.cell? ⟨gb280, 0, none⟩ = some (.string (⟨#[]⟩ : ByteArray)) := (blk_cell BK280.out 0).trans rfl; have hcz99_1 : w91.cell? ⟨gb280, 1, none⟩ = some (.int .i64 0) := (blk_cell BK280.out 1).trans rfl; have hfz99_0 := blk_frozen BK280.out 0; have hfz99_1 := blk_frozen BK280.out 1) | ((with_reducible refine gate_callee (f := 57) rfl ?_); refine goesL_ (some 62) rfl rfl Try.func57 z5_18 rfl #[.slice A0 l0.length c0] rfl z5_7 ?_; (with_reducible refine (spec_DrawSyncedFile.calls k _ _ l0 t281 t282 _ ?side1 ?side2 A14.out).mono ?_); (case side1 => exact Kd.C_below HR0.out z5_12); (case side2 => exact HC0.out); rintro e w100 ⟨rfl, hb⟩; refine ⟨_, rfl, ?_⟩; have n0_ := Aside0.mk (Kd.R_below (by (with_reducible repeat (first | apply Kd.R_alloc | apply Kd.R_drewN | apply Kd.R_drew)); exact (Kd.R_mono (Kd.R_far (p := ⟨gb280, 1, none⟩) (Kd.R_far (p := ⟨gb280, 0, none⟩) (Kd.R_types HO253.out BK280.out (by decide)) (fun _ hk => by first | exact hk.2 | trivial) (.string t277)) (fun _ hk => by first | exact hk.2 | trivial) (.int .i64 t278)) (fun _ h_ => h_.1))) hb); have n1_ := Aside0.mk (blk_below (g := gb250) (o := .cells #[.string t248, .int .i64 t249] 75 (0, 0)) (by (with_reducible repeat (first | refine blk_drewN ?_ _ | refine blk_drew ?_ | refine blk_alloc ?_ _)); refine blk_far ?_ NB250_280.out _; (with_reducible repeat (first | refine blk_drewN ?_ _ | refine blk_drew ?_ | refine blk_alloc ?_ _)); refine blk_far ?_ NB250_280.out _; (with_reducible repeat (first | refine blk_drewN ?_ _ | refine blk_drew ?_ | refine blk_alloc ?_ _)); exact BK250.out) hb); have n2_ := Aside0.mk (blk_below (g := gb257) (o := .cells #[.string t255, .int .i64 t256] 75 (0, 0)) (by (with_reducible repeat (first | refine blk_drewN ?_ _ | refine blk_drew ?_ | refine blk_alloc ?_ _)); refine blk_far ?_ NB257_280.out _; (with_reducible repeat (first | refine blk_drewN ?_ _ | refine blk_drew ?_ | refine blk_alloc ?_ _)); refine blk_far ?_ NB257_280.out _; (with_reducible repeat (first | refine blk_drewN ?_ _ | refine blk_drew ?_ | refine blk_alloc ?_ _)); exact BK257.out) hb); have n3_ := Aside0.mk (blk_below (g := gb261) (o := .cells #[.string t258, .int .i64 t259] 75 (0, 0)) (by (with_reducible repeat (first | refine blk_drewN ?_ _ | refine blk_drew ?_ | refine blk_alloc ?_ _)); refine blk_far ?_ NB261_280.out _; (with_reducible repeat (first | refine blk_drewN ?_ _ | refine blk_drew ?_ | refine blk_alloc ?_ _)); refine blk_far ?_ NB261_280.out _; (with_reducible repeat (first | refine blk_drewN ?_ _ | refine blk_drew ?_ | refine blk_alloc ?_ _)); exact BK261.out) hb); have n4_ := Aside0.mk (blk_below (g := gb264) (o := .cells #[.string t262, .int .i64 t263] 75 (0, 0)) (by (with_reducible repeat (first | refine blk_drewN ?_ _ | refine blk_drew ?_ | refine blk_alloc ?_ _)); refine blk_far ?_ NB264_280.out _; (with_reducible repeat (first | refine blk_drewN ?_ _ | refine blk_drew ?_ | refine blk_alloc ?_ _)); refine blk_far ?_ NB264_280.out _; (with_reducible repeat (first | refine blk_drewN ?_ _ | refine blk_drew ?_ | refine blk_alloc ?_ _)); exact BK264.out) hb); have n5_ := Aside0.mk (blk_below (g := gb268) (o := .cells #[.string t265, .int .i64 t266] 75 (0, 0)) (by (with_reducible repeat (first | refine blk_drewN ?_ _ | refine blk_drew ?_ | refine blk_alloc ?_ _)); refine blk_far ?_ NB268_280.out _; (with_reducible repeat (first | refine blk_drewN ?_ _ | refine blk_drew ?_ | refine blk_alloc ?_ _)); refine blk_far ?_ NB268_280.out _; (with_reducible repeat (first | refine blk_drewN ?_ _ | refine blk_drew ?_ | refine blk_alloc ?_ _)); exact BK268.out) hb); have n6_ := Aside0.mk (blk_below (g := gb272) (o := .cells #[.string t269, .int .i64 t270] 75 (0, 0)) (by (with_reducible repeat (first | refine blk_drewN ?_ _ | refine blk_drew ?_ | refine blk_alloc ?_ _)); refine blk_far ?_ NB272_280.out _; (with_reducible repeat (first | refine blk_drewN ?_ _ | refine blk_drew ?_ | refine blk_alloc ?_ _)); refine blk_far ?_ NB272_280.out _; (with_reducible repeat (first | refine blk_drewN ?_ _ | refine blk_drew ?_ | refine blk_alloc ?_ _)); exact BK272.out) hb); have n7_ := Aside0.mk (blk_below (g := gb276) (o := .cells #[.string t273, .int .i64 t274] 75 (0, 0)) (by (with_reducible repeat (first | refine blk_drewN ?_ _ | refine blk_drew ?_ | refine blk_alloc ?_ _)); refine blk_far ?_ NB276_280.out _; (with_reducible repeat (first | refine blk_drewN ?_ _ | refine blk_drew ?_ | refine blk_alloc ?_ _)); refine blk_far ?_ NB276_280.out _; (with_reducible repeat (first | refine blk_drewN ?_ _ | refine blk_drew ?_ | refine blk_alloc ?_ _)); exact BK276.out) hb); have n8_ := Aside0.mk (blk_below (g := gb280) (o := .cells #[.string t277, .int .i64 t278] 75 (0, 0)) (by (with_reducible repeat (first | refine blk_drewN ?_ _ | refine blk_drew ?_ | refine blk_alloc ?_ _)); refine blk_put (cs := #[.string t277, .int .i64 0]) ?_ 1 _ rfl; (with_reducible repeat (first | refine blk_drewN ?_ _ | refine blk_drew ?_ | refine blk_alloc ?_ _)); refine blk_put (cs := #[.string (⟨#[]⟩ : ByteArray), .int .i64 0]) ?_ 0 _ rfl; (with_reducible repeat (first | refine blk_drewN ?_ _ | refine blk_drew ?_ | refine blk_alloc ?_ _)); exact BK280.out) hb); have n9_ := Aside0.mk (below_step z5_12 hb); clear HO253; clear BK250; clear BK257; clear BK261; clear BK264; clear BK268; clear BK272; clear BK276; clear BK280; clear HB; have HO253 := n0_; have BK250 := n1_; have BK257 := n2_; have BK261 := n3_; have BK264 := n4_; have BK268 := n5_; have BK272 := n6_; have BK276 := n7_; have BK280 := n8_; have HB := n9_; clear n0_ n1_ n2_ n3_ n4_ n5_ n6_ n7_ n8_ n9_) | ((with_reducible refine gate_dst (N := 18) rfl ?_); (try (refine gate_guard (by rfl) ?_; dsimp only)); refine box_event ?hg (N := 18) ?hd (cs := #[.string (⟨#[]⟩ : ByteArray), .int .i64 0]) (t := 75) ?hr ?_; (case hd => rfl); (case hg => rfl); (case hr => first | (go_simp; done) | (go_simp; rfl)); intro gb283 hg w101 hbox hb; have n0_ := Aside0.mk (Kd.R_below z5_9 hb); have n1_ := Aside0.mk (blk_below (g := gb250) (o := .cells #[.string t248, .int .i64 t249] 75 (0, 0)) z5_2 hb); have n2_ := Aside0.mk (blk_below (g := gb257) (o := .cells #[.string t255, .int .i64 t256] 75 (0, 0)) z5_3 hb); have n3_ := Aside0.mk (blk_below (g := gb261) (o := .cells #[.string t258, .int .i64 t259] 75 (0, 0)) z5_4 hb); have n4_ := Aside0.mk (blk_below (g := gb264) (o := .cells #[.string t262, .int .i64 t263] 75 (0, 0)) z5_5 hb); have n5_ := Aside0.mk (blk_below (g := gb268) (o := .cells #[.string t265, .int .i64 t266] 75 (0, 0)) z5_6 hb); have n6_ := Aside0.mk (blk_below (g := gb272) (o := .cells #[.string t269, .int .i64 t270] 75 (0, 0)) z5_8 hb); have n7_ := Aside0.mk (blk_below (g := gb276) (o := .cells #[.string t273, .int .i64 t274] 75 (0, 0)) z5_11 hb); have n8_ := Aside0.mk (blk_below (g := gb280) (o := .cells #[.string t277, .int .i64 t278] 75 (0, 0)) z5_13 hb); have n9_ := Aside0.mk (below_step z5_12 hb); have n10_ := Aside0.mk (hbox); have n11_ := Aside0.mk ((by rw [hg]; exact (below_size z5_12) : w.heap.size ≤ gb283)); have n12_ := Aside0.mk ((by rw [hg]; exact (below_size z5_12) : w.heap.size ≤ gb283)); have n13_ := Aside0.mk ((by rw [hg]; exact Nat.ne_of_lt (blk_lt (g := gb250) (o := .cells #[.string t248, .int .i64 t249] 75 (0, 0)) z5_2) : gb250 ≠ gb283)); have n14_ := Aside0.mk ((by rw [hg]; exact Nat.ne_of_gt (blk_lt (g := gb250) (o := .cells #[.string t248, .int .i64 t249] 75 (0, 0)) z5_2) : gb283 ≠ gb250)); have n15_ := Aside0.mk ((by rw [hg]; exact Nat.ne_of_lt (blk_lt (g := gb257) (o := .cells #[.string t255, .int .i64 t256] 75 (0, 0)) z5_3) : gb257 ≠ gb283)); have n16_ := Aside0.mk ((by rw [hg]; exact Nat.ne_of_gt (blk_lt (g := gb257) (o := .cells #[.string t255, .int .i64 t256] 75 (0, 0)) z5_3) : gb283 ≠ gb257)); have n17_ := Aside0.mk ((by rw [hg]; exact Nat.ne_of_lt (blk_lt (g := gb261) (o := .cells #[.string t258, .int .i64 t259] 75 (0, 0)) z5_4) : gb261 ≠ gb283)); have n18_ := Aside0.mk ((by rw [hg]; exact Nat.ne_of_gt (blk_lt (g := gb261) (o := .cells #[.string t258, .int .i64 t259] 75 (0, 0)) z5_4) : gb283 ≠ gb261)); have n19_ := Aside0.mk ((by rw [hg]; exact Nat.ne_of_lt (blk_lt (g := gb264) (o := .cells #[.string t262, .int .i64 t263] 75 (0, 0)) z5_5) : gb264 ≠ gb283)); have n20_ := Aside0.mk ((by rw [hg]; exact Nat.ne_of_gt (blk_lt (g := gb264) (o := .cells #[.string t262, .int .i64 t263] 75 (0, 0)) z5_5) : gb283 ≠ gb264)); have n21_ := Aside0.mk ((by rw [hg]; exact Nat.ne_of_lt (blk_lt (g := gb268) (o := .cells #[.string t265, .int .i64 t266] 75 (0, 0)) z5_6) : gb268 ≠ gb283)); have n22_ := Aside0.mk ((by rw [hg]; exact Nat.ne_of_gt (blk_lt (g := gb268) (o := .cells #[.string t265, .int .i64 t266] 75 (0, 0)) z5_6) : gb283 ≠ gb268)); have n23_ := Aside0.mk ((by rw [hg]; exact Nat.ne_of_lt (blk_lt (g := gb272) (o := .cells #[.string t269, .int .i64 t270] 75 (0, 0)) z5_8) : gb272 ≠ gb283)); have n24_ := Aside0.mk ((by rw [hg]; exact Nat.ne_of_gt (blk_lt (g := gb272) (o := .cells #[.string t269, .int .i64 t270] 75 (0, 0)) z5_8) : gb283 ≠ gb272)); have n25_ := Aside0.mk ((by rw [hg]; exact Nat.ne_of_lt (blk_lt (g := gb276) (o := .cells #[.string t273, .int .i64 t274] 75 (0, 0)) z5_11) : gb276 ≠ gb283)); have n26_ := Aside0.mk ((by rw [hg]; exact Nat.ne_of_gt (blk_lt (g := gb276) (o := .cells #[.string t273, .int .i64 t274] 75 (0, 0)) z5_11) : gb283 ≠ gb276)); have n27_ := Aside0.mk ((by rw [hg]; exact Nat.ne_of_lt (blk_lt (g := gb280) (o := .cells #[.string t277, .int .i64 t278] 75 (0, 0)) z5_13) : gb280 ≠ gb283)); have n28_ := Aside0.mk ((by rw [hg]; exact Nat.ne_of_gt (blk_lt (g := gb280) (o := .cells #[.string t277, .int .i64 t278] 75 (0, 0)) z5_13) : gb283 ≠ gb280)); clear HO253; clear BK250; clear BK257; clear BK261; clear BK264; clear BK268; clear BK272; clear BK276; clear BK280; clear HB; have HO253 := n0_; have BK250 := n1_; have BK257 := n2_; have BK261 := n3_; have BK264 := n4_; have BK268 := n5_; have BK272 := n6_; have BK276 := n7_; have BK280 := n8_; have HB := n9_; have BK283 := n10_; have GW283 := n11_; have GE283 := n12_; have NB250_283 := n13_; have NB283_250 := n14_; have NB257_283 := n15_; have NB283_257 := n16_; have NB261_283 := n17_; have NB283_261 := n18_; have NB264_283 := n19_; have NB283_264 := n20_; have NB268_283 := n21_; have NB283_268 := n22_; have NB272_283 := n23_; have NB283_272 := n24_; have NB276_283 := n25_; have NB283_276 := n26_; have NB280_283 := n27_; have NB283_280 := n28_; clear n0_ n1_ n2_ n3_ n4_ n5_ n6_ n7_ n8_ n9_ n10_ n11_ n12_ n13_ n14_ n15_ n16_ n17_ n18_ n19_ n20_ n21_ n22_ n23_ n24_ n25_ n26_ n27_ n28_; clear hb hbox hg; have hnb102 := NB283_250.out; have hnc102 := NB250_283.out; have hnb103 := NB283_257.out; have hnc103 := NB257_283.out; have hnb104 := NB283_261.out; have hnc104 := NB261_283.out; have hnb105 := NB283_264.out; have hnc105 := NB264_283.out; have hnb106 := NB283_268.out; have hnc106 := NB268_283.out; have hnb107 := NB283_272.out; have hnc107 := NB272_283.out; have hnb108 := NB283_276.out; have hnc108 := NB276_283.out; have hnb109 := NB283_280.out; have hnc109 := NB280_283.out; have hcz110_0 : w101.cell? ⟨gb283, 0, none⟩ = some (.string (⟨#[]⟩ : ByteArray)) := (blk_cell BK283.out 0).trans rfl; have hcz110_1 : w101.cell? ⟨gb283, 1, none⟩ = some (.int .i64 0) := (blk_cell BK283.out 1).trans rfl; have hfz110_0 := blk_frozen BK283.out 0; have hfz110_1 := blk_frozen BK283.out 1))
                 have n0_ : Aside0 (Kd.R (Kd.int .i64) 3 ((w101.setCell ⟨gb283, 0, none⟩ (.string t281)).setCell ⟨gb283, 1, none⟩ (.int .i64 t282)) w.heap.size (fun _ => True) (.slice (some ad254) t251.length co47) t251) := ⟨by (with_reducible repeat (first | apply Kd.R_alloc | apply Kd.R_drewN | apply Kd.R_drew)); exact Kd.R_mono (Kd.R_far (p := ⟨gb283, 1, none⟩) (Kd.R_far (p := ⟨gb283, 0, none⟩) (Kd.R_types HO253.out BK283.out (by decide)) (fun _ hk => by first | exact hk.2 | trivial) (.string t281)) (fun _ hk => by first | exact hk.2 | trivial) (.int .i64 t282)) (fun _ hk => trivial)⟩
                 have n1_ : Aside0 (((w101.setCell ⟨gb283, 0, none⟩ (.string t281)).setCell ⟨gb283, 1, none⟩ (.int .i64 t282)).heap[gb250]? = some (.cells #[.string t248, .int .i64 t249] 75 (0, 0))) := ⟨by (with_reducible repeat (first | refine blk_drewN ?_ _ | refine blk_drew ?_ | refine blk_alloc ?_ _)); refine blk_far ?_ NB250_283.out _; (with_reducible repeat (first | refine blk_drewN ?_ _ | refine blk_drew ?_ | refine blk_alloc ?_ _)); refine blk_far ?_ NB250_283.out _; (with_reducible repeat (first | refine blk_drewN ?_ _ | refine blk_drew ?_ | refine blk_alloc ?_ _)); exact BK250.out⟩
                 have n2_ : Aside0 (((w101.setCell ⟨gb283, 0, none⟩ (.string t281)).setCell ⟨gb283, 1, none⟩ (.int .i64 t282)).heap[gb257]? = some (.cells #[.string t255, .int .i64 t256] 75 (0, 0))) := ⟨by (with_reducible repeat (first | refine blk_drewN ?_ _ | refine blk_drew ?_ | refine blk_alloc ?_ _)); refine blk_far ?_ NB257_283.out _; (with_reducible repeat (first | refine blk_drewN ?_ _ | refine blk_drew ?_ | refine blk_alloc ?_ _)); refine blk_far ?_ NB257_283.out _; (with_reducible repeat (first | refine blk_drewN ?_ _ | refine blk_drew ?_ | refine blk_alloc ?_ _)); exact BK257.out⟩
                 have n3_ : Aside0 (((w101.setCell ⟨gb283, 0, none⟩ (.string t281)).setCell ⟨gb283, 1, none⟩ (.int .i64 t282)).heap[gb261]? = some (.cells #[.string t258, .int .i64 t259] 75 (0, 0))) := ⟨by (with_reducible repeat (first | refine blk_drewN ?_ _ | refine blk_drew ?_ | refine blk_alloc ?_ _)); refine blk_far ?_ NB261_283.out _; (with_reducible repeat (first | refine blk_drewN ?_ _ | refine blk_drew ?_ | refine blk_alloc ?_ _)); refine blk_far ?_ NB261_283.out _; (with_reducible repeat (first | refine blk_drewN ?_ _ | refine blk_drew ?_ | refine blk_alloc ?_ _)); exact BK261.out⟩
                 have n4_ : Aside0 (((w101.setCell ⟨gb283, 0, none⟩ (.string t281)).setCell ⟨gb283, 1, none⟩ (.int .i64 t282)).heap[gb264]? = some (.cells #[.string t262, .int .i64 t263] 75 (0, 0))) := ⟨by (with_reducible repeat (first | refine blk_drewN ?_ _ | refine blk_drew ?_ | refine blk_alloc ?_ _)); refine blk_far ?_ NB264_283.out _; (with_reducible repeat (first | refine blk_drewN ?_ _ | refine blk_drew ?_ | refine blk_alloc ?_ _)); refine blk_far ?_ NB264_283.out _; (with_reducible repeat (first | refine blk_drewN ?_ _ | refine blk_drew ?_ | refine blk_alloc ?_ _)); exact BK264.out⟩
                 have n5_ : Aside0 (((w101.setCell ⟨gb283, 0, none⟩ (.string t281)).setCell ⟨gb283, 1, none⟩ (.int .i64 t282)).heap[gb268]? = some (.cells #[.string t265, .int .i64 t266] 75 (0, 0))) := ⟨by (with_reducible repeat (first | refine blk_drewN ?_ _ | refine blk_drew ?_ | refine blk_alloc ?_ _)); refine blk_far ?_ NB268_283.out _; (with_reducible repeat (first | refine blk_drewN ?_ _ | refine blk_drew ?_ | refine blk_alloc ?_ _)); refine blk_far ?_ NB268_283.out _; (with_reducible repeat (first | refine blk_drewN ?_ _ | refine blk_drew ?_ | refine blk_alloc ?_ _)); exact BK268.out⟩
                 have n6_ : Aside0 (((w101.setCell ⟨gb283, 0, none⟩ (.string t281)).setCell ⟨gb283, 1, none⟩ (.int .i64 t282)).heap[gb272]? = some (.cells #[.string t269, .int .i64 t270] 75 (0, 0))) := ⟨by (with_reducible repeat (first | refine blk_drewN ?_ _ | refine blk_drew ?_ | refine blk_alloc ?_ _)); refine blk_far ?_ NB272_283.out _; (with_reducible repeat (first | refine blk_drewN ?_ _ | refine blk_drew ?_ | refine blk_alloc ?_ _)); refine blk_far ?_ NB272_283.out _; (with_reducible repeat (first | refine blk_drewN ?_ _ | refine blk_drew ?_ | refine blk_alloc ?_ _)); exact BK272.out⟩
                 have n7_ : Aside0 (((w101.setCell ⟨gb283, 0, none⟩ (.string t281)).setCell ⟨gb283, 1, none⟩ (.int .i64 t282)).heap[gb276]? = some (.cells #[.string t273, .int .i64 t274] 75 (0, 0))) := ⟨by (with_reducible repeat (first | refine blk_drewN ?_ _ | refine blk_drew ?_ | refine blk_alloc ?_ _)); refine blk_far ?_ NB276_283.out _; (with_reducible repeat (first | refine blk_drewN ?_ _ | refine blk_drew ?_ | refine blk_alloc ?_ _)); refine blk_far ?_ NB276_283.out _; (with_reducible repeat (first | refine blk_drewN ?_ _ | refine blk_drew ?_ | refine blk_alloc ?_ _)); exact BK276.out⟩
                 have n8_ : Aside0 (((w101.setCell ⟨gb283, 0, none⟩ (.string t281)).setCell ⟨gb283, 1, none⟩ (.int .i64 t282)).heap[gb280]? = some (.cells #[.string t277, .int .i64 t278] 75 (0, 0))) := ⟨by (with_reducible repeat (first | refine blk_drewN ?_ _ | refine blk_drew ?_ | refine blk_alloc ?_ _)); refine blk_far ?_ NB280_283.out _; (with_reducible repeat (first | refine blk_drewN ?_ _ | refine blk_drew ?_ | refine blk_alloc ?_ _)); refine blk_far ?_ NB280_283.out _; (with_reducible repeat (first | refine blk_drewN ?_ _ | refine blk_drew ?_ | refine blk_alloc ?_ _)); exact BK280.out⟩
                 have n9_ : Aside0 (((w101.setCell ⟨gb283, 0, none⟩ (.string t281)).setCell ⟨gb283, 1, none⟩ (.int .i64 t282)).heap[gb283]? = some (.cells #[.string t281, .int .i64 t282] 75 (0, 0))) := ⟨by (with_reducible repeat (first | refine blk_drewN ?_ _ | refine blk_drew ?_ | refine blk_alloc ?_ _)); refine blk_put (cs := #[.string t281, .int .i64 0]) ?_ 1 _ rfl; (with_reducible repeat (first | refine blk_drewN ?_ _ | refine blk_drew ?_ | refine blk_alloc ?_ _)); refine blk_put (cs := #[.string (⟨#[]⟩ : ByteArray), .int .i64 0]) ?_ 0 _ rfl; (with_reducible repeat (first | refine blk_drewN ?_ _ | refine blk_drew ?_ | refine blk_alloc ?_ _)); exact BK283.out⟩
                 have n10_ : Aside0 (Below w.heap.size w ((w101.setCell ⟨gb283, 0, none⟩ (.string t281)).setCell ⟨gb283, 1, none⟩ (.int .i64 t282))) := ⟨z5_1⟩
                 (try clear HO253)
                 (try clear BK250)
                 (try clear BK257)
                 (try clear BK261)
                 (try clear BK264)
                 (try clear BK268)
                 (try clear BK272)
                 (try clear BK276)
                 (try clear BK280)
                 (try clear BK283)
                 (try clear HB)
                 generalize ((w101.setCell ⟨gb283, 0, none⟩ (.string t281)).setCell ⟨gb283, 1, none⟩ (.int .i64 t282)) = w111 at n0_ n1_ n2_ n3_ n4_ n5_ n6_ n7_ n8_ n9_ n10_ ⊢
                 have HO253 := n0_
                 have BK250 := n1_
                 have BK257 := n2_
                 have BK261 := n3_
                 have BK264 := n4_
                 have BK268 := n5_
                 have BK272 := n6_
                 have BK276 := n7_
                 have BK280 := n8_
                 have BK283 := n9_
                 have HB := n10_
                 clear n0_ n1_ n2_ n3_ n4_ n5_ n6_ n7_ n8_ n9_ n10_
                 have n0_ := Aside0.mk (Kd.R_drew HO253.out)
                 have n1_ := Aside0.mk (blk_drew BK250.out)
                 have n2_ := Aside0.mk (blk_drew BK257.out)
                 have n3_ := Aside0.mk (blk_drew BK261.out)
                 have n4_ := Aside0.mk (blk_drew BK264.out)
                 have n5_ := Aside0.mk (blk_drew BK268.out)
                 have n6_ := Aside0.mk (blk_drew BK272.out)
                 have n7_ := Aside0.mk (blk_drew BK276.out)
                 have n8_ := Aside0.mk (blk_drew BK280.out)
                 have n9_ := Aside0.mk (blk_drew BK283.out)
                 have n10_ := Aside0.mk (below_drew1 HB.out)
                 clear HO253
                 clear BK250
                 clear BK257
                 clear BK261
                 clear BK264
                 clear BK268
                 clear BK272
                 clear BK276
                 clear BK280
                 clear BK283
                 clear HB
                 have HO253 := n0_
                 have BK250 := n1_
                 have BK257 := n2_
                 have BK261 := n3_
                 have BK264 := n4_
                 have BK268 := n5_
                 have BK272 := n6_
                 have BK276 := n7_
                 have BK280 := n8_
                 have BK283 := n9_
                 have HB := n10_
                 clear n0_ n1_ n2_ n3_ n4_ n5_ n6_ n7_ n8_ n9_ n10_
                 refine start_ (n := 85) (S := fun w' => w'.cell? ⟨gb250, 0, none⟩ = some (.string t248) ∧ w'.cell? ⟨gb250, 1, none⟩ = some (.int .i64 t249) ∧ w'.cell? ⟨gb257, 0, none⟩ = some (.string t255) ∧ w'.cell? ⟨gb257, 1, none⟩ = some (.int .i64 t256) ∧ w'.cell? ⟨gb264, 0, none⟩ = some (.string t262) ∧ w'.cell? ⟨gb264, 1, none⟩ = some (.int .i64 t263) ∧ w'.cell? ⟨gb268, 0, none⟩ = some (.string t265) ∧ w'.cell? ⟨gb268, 1, none⟩ = some (.int .i64 t266) ∧ w'.cell? ⟨gb276, 0, none⟩ = some (.string t273) ∧ w'.cell? ⟨gb276, 1, none⟩ = some (.int .i64 t274) ∧ w'.cell? ⟨gb280, 0, none⟩ = some (.string t277) ∧ w'.cell? ⟨gb280, 1, none⟩ = some (.int .i64 t278) ∧ w'.cell? ⟨gb283, 0, none⟩ = some (.string t281) ∧ w'.cell? ⟨gb283, 1, none⟩ = some (.int .i64 t282) ∧ w'.cell? ⟨gb261, 0, none⟩ = some (.string t258) ∧ w'.cell? ⟨gb261, 1, none⟩ = some (.int .i64 t259)) (ds := []) #[false, false, false, false, false, false, false, false, false, false, false, false, false, false, false, false, false, false, false, false, false, false, false, false, false, false, false, false, false, false, false, false, false, false, false, false, false, false, false, false, false, false, false, false, false, false, false, false, false, false, false, false, false, false, false, false, false, false, false, false, false, false, false, false, false, false, false, false, false, false, false, false, false, false, false, false, false, false, false, false, false, false, false, false, false] z5_18 rfl rfl ⟨(blk_cell BK250.out 0).trans rfl, (blk_cell BK250.out 1).trans rfl, (blk_cell BK257.out 0).trans rfl, (blk_cell BK257.out 1).trans rfl, (blk_cell BK264.out 0).trans rfl, (blk_cell BK264.out 1).trans rfl, (blk_cell BK268.out 0).trans rfl, (blk_cell BK268.out 1).trans rfl, (blk_cell BK276.out 0).trans rfl, (blk_cell BK276.out 1).trans rfl, (blk_cell BK280.out 0).trans rfl, (blk_cell BK280.out 1).trans rfl, (blk_cell BK283.out 0).trans rfl, (blk_cell BK283.out 1).trans rfl, (blk_cell BK261.out 0).trans rfl, (blk_cell BK261.out 1).trans rfl⟩ (fun hHeld => ?_); refine with_tabW laws_FnFiles.tab14 laws_FnFiles.bits14 (fun HT_ HW_ => ?_)
                 generalize w111.drew = w112 at HO253 BK250 BK257 BK261 BK264 BK268 BK272 BK276 BK280 BK283 HB hHeld ⊢
                 refine pure_ (i := 0) (N := some 63) (v := ?_) (a' := ?_) #[true, false, false, false, false, false, false, false, false, false, false, false, false, false, false, false, false, false, false, false, false, false, false, false, false, false, false, false, false, false, false, false, false, false, false, false, false, false, false, false, false, false, false, false, false, false, false, false, false, false, false, false, false, false, false, false, false, false, false, false, false, false, false, false, false, false, false, false, false, false, false, false, false, false, false, false, false, false, false, false, false, false, false, false, false] rfl rfl (any_of HT_.out z5_18) (fun _ _ _ h => h) (Or.inl ⟨by rfl, ?_⟩) ?_ ?_
                 rotate_left
                 ·
                  exact z5_10
                 rotate_left
                 ·
                  exact z5_0
                 refine pure_ (i := 2) (N := some 65) (v := ?_) (a' := ?_) #[true, false, true, false, false, false, false, false, false, false, false, false, false, false, false, false, false, false, false, false, false, false, false, false, false, false, false, false, false, false, false, false, false, false, false, false, false, false, false, false, false, false, false, false, false, false, false, false, false, false, false, false, false, false, false, false, false, false, false, false, false, false, false, false, false, false, false, false, false, false, false, false, false, false, false, false, false, false, false, false, false, false, false, false, false] rfl rfl (any_of HT_.out z5_18) (fun _ _ _ h => h) (Or.inl ⟨by rfl, ?_⟩) ?_ ?_
                 rotate_left
                 ·
                  exact z5_10
                 rotate_left
                 ·
                  exact z5_0
                 refine pure_ (i := 5) (N := some 68) (v := ?_) (a' := ?_) #[true, false, true, false, false, true, false, false, false, false, false, false, false, false, false, false, false, false, false, false, false, false, false, false, false, false, false, false, false, false, false, false, false, false, false, false, false, false, false, false, false, false, false, false, false, false, false, false, false, false, false, false, false, false, false, false, false, false, false, false, false, false, false, false, false, false, false, false, false, false, false, false, false, false, false, false, false, false, false, false, false, false, false, false, false] rfl rfl (any_of HT_.out z5_18) (fun _ _ _ h => h) (Or.inl ⟨by rfl, ?_⟩) ?_ ?_
                 rotate_left
                 ·
                  exact z5_10
                 rotate_left
                 ·
                  exact z5_0
                 refine take_ (i := 1) (N := some 64) (v := ?_) (a' := ?_) #[true, true, true, false, false, true, false, false, false, false, false, false, false, false, false, false, false, false, false, false, false, false, false, false, false, false, false, false, false, false, false, false, false, false, false, false, false, false, false, false, false, false, false, false, false, false, false, false, false, false, false, false, false, false, false, false, false, false, false, false, false, false, false, false, false, false, false, false, false, false, false, false, false, false, false, false, false, false, false, false, false, false, false, false, false] rfl rfl (take_ofW HT_.out HW_.out z5_18) (fun _ _ _ h => h) (Or.inl ⟨by rfl, ?_⟩) hHeld ?_ ?_
                 rotate_left
                 ·
                  rintro w' ⟨s0, s1, s2, s3, s4, s5, s6, s7, s8, s9, s10, s11, s12, s13, s14, s15⟩
                  go_simp
                  with_reducible rfl
                 rotate_left
                 ·
                  exact z5_0
                 refine take_ (i := 3) (N := some 66) (v := ?_) (a' := ?_) #[true, true, true, true, false, true, false, false, false, false, false, false, false, false, false, false, false, false, false, false, false, false, false, false, false, false, false, false, false, false, false, false, false, false, false, false, false, false, false, false, false, false, false, false, false, false, false, false, false, false, false, false, false, false, false, false, false, false, false, false, false, false, false, false, false, false, false, false, false, false, false, false, false, false, false, false, false, false, false, false, false, false, false, false, false] rfl rfl (take_ofW HT_.out HW_.out z5_18) (fun _ _ _ h => h) (Or.inl ⟨by rfl, ?_⟩) hHeld ?_ ?_
                 rotate_left
                 ·
                  rintro w' ⟨s0, s1, s2, s3, s4, s5, s6, s7, s8, s9, s10, s11, s12, s13, s14, s15⟩
                  go_simp
                  with_reducible rfl
                 rotate_left
                 ·
                  exact z5_0
                 refine pure_ (i := 4) (N := some 67) (v := ?_) (a' := ?_) #[true, true, true, true, true, true, false, false, false, false, false, false, false, false, false, false, false, false, false, false, false, false, false, false, false, false, false, false, false, false, false, false, false, false, false, false, false, false, false, false, false, false, false, false, false, false, false, false, false, false, false, false, false, false, false, false, false, false, false, false, false, false, false, false, false, false, false, false, false, false, false, false, false, false, false, false, false, false, false, false, false, false, false, false, false] rfl rfl (any_of HT_.out z5_18) (fun _ _ _ h => h) (Or.inl ⟨by rfl, ?_⟩) ?_ ?_
                 rotate_left
                 ·
                  exact z5_10
                 rotate_left
                 ·
                  exact z5_0
                 refine take_ (i := 6) (N := some 69) (v := ?_) (a' := ?_) #[true, true, true, true, true, true, true, false, false, false, false, false, false, false, false, false, false, false, false, false, false, false, false, false, false, false, false, false, false, false, false, false, false, false, false, false, false, false, false, false, false, false, false, false, false, false, false, false, false, false, false, false, false, false, false, false, false, false, false, false, false, false, false, false, false, false, false, false, false, false, false, false, false, false, false, false, false, false, false, false, false, false, false, false, false] rfl rfl (take_ofW HT_.out HW_.out z5_18) (fun _ _ _ h => h) (Or.inl ⟨by rfl, ?_⟩) hHeld ?_ ?_
                 rotate_left
                 ·
                  rintro w' ⟨s0, s1, s2, s3, s4, s5, s6, s7, s8, s9, s10, s11, s12, s13, s14, s15⟩
                  go_simp
                  with_reducible rfl
                 rotate_left
                 ·
                  exact z5_0
                 refine one_ (i := 7) (N := some 70) #[true, true, true, true, true, true, true, true, false, false, false, false, false, false, false, false, false, false, false, false, false, false, false, false, false, false, false, false, false, false, false, false, false, false, false, false, false, false, false, false, false, false, false, false, false, false, false, false, false, false, false, false, false, false, false, false, false, false, false, false, false, false, false, false, false, false, false, false, false, false, false, false, false, false, false, false, false, false, false, false, false, false, false, false, false] rfl rfl (one_of HT_.out z5_18) (by decide) (fun K hK => ?_)
                 refine goes_ Try.func58 z5_18 rfl #[.string (t248.extract 0 (t249 : Int).toNat), .string t255] (by rfl) rfl rfl z5_7 ?_
                 with_reducible refine (laws_begins.calls (t248.extract 0 (t249 : Int).toNat) t255 true _ A17.out).mono ?_
                 rintro e w' ⟨rfl, ⟨nd, rfl⟩⟩
                 refine ⟨_, rfl, ?_⟩
                 refine hK.out _ _ ⟨(blk_cell BK250.out 0).trans rfl, (blk_cell BK250.out 1).trans rfl, (blk_cell BK257.out 0).trans rfl, (blk_cell BK257.out 1).trans rfl, (blk_cell BK264.out 0).trans rfl, (blk_cell BK264.out 1).trans rfl, (blk_cell BK268.out 0).trans rfl, (blk_cell BK268.out 1).trans rfl, (blk_cell BK276.out 0).trans rfl, (blk_cell BK276.out 1).trans rfl, (blk_cell BK280.out 0).trans rfl, (blk_cell BK280.out 1).trans rfl, (blk_cell BK283.out 0).trans rfl, (blk_cell BK283.out 1).trans rfl, (blk_cell BK261.out 0).trans rfl, (blk_cell BK261.out 1).trans rfl⟩ (fun hHeld => ?_)
                 clear hK K
                 refine norm_ (a' := ?_) ?_ ?_
                 rotate_left
                 ·
                  show Act.put _ (some 70) _ = _
                  simp only [Act.put, List.setIfInBounds_toArray, List.set_cons_zero, List.set_cons_succ, i64_w, i32_w]
                  rfl
                 refine pure_ (i := 8) (N := some 71) (v := ?_) (a' := ?_) #[true, true, true, true, true, true, true, true, true, false, false, false, false, false, false, false, false, false, false, false, false, false, false, false, false, false, false, false, false, false, false, false, false, false, false, false, false, false, false, false, false, false, false, false, false, false, false, false, false, false, false, false, false, false, false, false, false, false, false, false, false, false, false, false, false, false, false, false, false, false, false, false, false, false, false, false, false, false, false, false, false, false, false, false, false] rfl rfl (any_of HT_.out z5_18) (fun _ _ _ h => h) (Or.inl ⟨by rfl, ?_⟩) ?_ ?_
                 rotate_left
                 ·
                  exact z5_10
                 rotate_left
                 ·
                  exact z5_0
                 refine pure_ (i := 9) (N := some 72) (v := ?_) (a' := ?_) #[true, true, true, true, true, true, true, true, true, true, false, false, false, false, false, false, false, false, false, false, false, false, false, false, false, false, false, false, false, false, false, false, false, false, false, false, false, false, false, false, false, false, false, false, false, false, false, false, false, false, false, false, false, false, false, false, false, false, false, false, false, false, false, false, false, false, false, false, false, false, false, false, false, false, false, false, false, false, false, false, false, false, false, false, false] rfl rfl (any_of HT_.out z5_18) (fun _ _ _ h => h) (Or.inl ⟨by rfl, ?_⟩) ?_ ?_
                 rotate_left
                 ·
                  exact z5_10
                 rotate_left
                 ·
                  exact z5_0
                 refine pure_ (i := 11) (N := some 74) (v := ?_) (a' := ?_) #[true, true, true, true, true, true, true, true, true, true, false, true, false, false, false, false, false, false, false, false, false, false, false, false, false, false, false, false, false, false, false, false, false, false, false, false, false, false, false, false, false, false, false, false, false, false, false, false, false, false, false, false, false, false, false, false, false, false, false, false, false, false, false, false, false, false, false, false, false, false, false, false, false, false, false, false, false, false, false, false, false, false, false, false, false] rfl rfl (any_of HT_.out z5_18) (fun _ _ _ h => h) (Or.inl ⟨by rfl, ?_⟩) ?_ ?_
                 rotate_left
                 ·
                  exact z5_10
                 rotate_left
                 ·
                  exact z5_0
                 refine take_ (i := 10) (N := some 73) (v := ?_) (a' := ?_) #[true, true, true, true, true, true, true, true, true, true, true, true, false, false, false, false, false, false, false, false, false, false, false, false, false, false, false, false, false, false, false, false, false, false, false, false, false, false, false, false, false, false, false, false, false, false, false, false, false, false, false, false, false, false, false, false, false, false, false, false, false, false, false, false, false, false, false, false, false, false, false, false, false, false, false, false, false, false, false, false, false, false, false, false, false] rfl rfl (take_ofW HT_.out HW_.out z5_18) (fun _ _ _ h => h) (Or.inl ⟨by rfl, ?_⟩) hHeld ?_ ?_
                 rotate_left
                 ·
                  rintro w' ⟨s0, s1, s2, s3, s4, s5, s6, s7, s8, s9, s10, s11, s12, s13, s14, s15⟩
                  go_simp
                  with_reducible rfl
                 rotate_left
                 ·
                  exact z5_0
                 refine take_ (i := 12) (N := some 75) (v := ?_) (a' := ?_) #[true, true, true, true, true, true, true, true, true, true, true, true, true, false, false, false, false, false, false, false, false, false, false, false, false, false, false, false, false, false, false, false, false, false, false, false, false, false, false, false, false, false, false, false, false, false, false, false, false, false, false, false, false, false, false, false, false, false, false, false, false, false, false, false, false, false, false, false, false, false, false, false, false, false, false, false, false, false, false, false, false, false, false, false, false] rfl rfl (take_ofW HT_.out HW_.out z5_18) (fun _ _ _ h => h) (Or.inl ⟨by rfl, ?_⟩) hHeld ?_ ?_
                 rotate_left
                 ·
                  rintro w' ⟨s0, s1, s2, s3, s4, s5, s6, s7, s8, s9, s10, s11, s12, s13, s14, s15⟩
                  go_simp
                  with_reducible rfl
                 rotate_left
                 ·
                  exact z5_0
                 refine one_ (i := 13) (N := some 76) #[true, true, true, true, true, true, true, true, true, true, true, true, true, true, false, false, false, false, false, false, false, false, false, false, false, false, false, false, false, false, false, false, false, false, false, false, false, false, false, false, false, false, false, false, false, false, false, false, false, false, false, false, false, false, false, false, false, false, false, false, false, false, false, false, false, false, false, false, false, false, false, false, false, false, false, false, false, false, false, false, false, false, false, false, false] rfl rfl (one_of HT_.out z5_18) (by decide) (fun K hK => ?_)
                 refine goes_ Try.func58 z5_18 rfl #[.string t255, .string t248] (by rfl) rfl rfl z5_7 ?_
                 with_reducible refine (laws_begins.calls t255 t248 true _ A19.out).mono ?_
                 rintro e w' ⟨rfl, ⟨nd, rfl⟩⟩
                 refine ⟨_, rfl, ?_⟩
                 refine hK.out _ _ ⟨(blk_cell BK250.out 0).trans rfl, (blk_cell BK250.out 1).trans rfl, (blk_cell BK257.out 0).trans rfl, (blk_cell BK257.out 1).trans rfl, (blk_cell BK264.out 0).trans rfl, (blk_cell BK264.out 1).trans rfl, (blk_cell BK268.out 0).trans rfl, (blk_cell BK268.out 1).trans rfl, (blk_cell BK276.out 0).trans rfl, (blk_cell BK276.out 1).trans rfl, (blk_cell BK280.out 0).trans rfl, (blk_cell BK280.out 1).trans rfl, (blk_cell BK283.out 0).trans rfl, (blk_cell BK283.out 1).trans rfl, (blk_cell BK261.out 0).trans rfl, (blk_cell BK261.out 1).trans rfl⟩ (fun hHeld => ?_)
                 clear hK K
                 refine norm_ (a' := ?_) ?_ ?_
                 rotate_left
                 ·
                  show Act.put _ (some 76) _ = _
                  simp only [Act.put, List.setIfInBounds_toArray, List.set_cons_zero, List.set_cons_succ, i64_w, i32_w]
                  rfl
                 refine pure_ (i := 14) (N := some 77) (v := ?_) (a' := ?_) #[true, true, true, true, true, true, true, true, true, true, true, true, true, true, true, false, false, false, false, false, false, false, false, false, false, false, false, false, false, false, false, false, false, false, false, false, false, false, false, false, false, false, false, false, false, false, false, false, false, false, false, false, false, false, false, false, false, false, false, false, false, false, false, false, false, false, false, false, false, false, false, false, false, false, false, false, false, false, false, false, false, false, false, false, false] rfl rfl (any_of HT_.out z5_18) (fun _ _ _ h => h) (Or.inl ⟨by rfl, ?_⟩) ?_ ?_
                 rotate_left
                 ·
                  exact z5_10
                 rotate_left
                 ·
                  exact z5_0
                 refine pure_ (i := 15) (N := some 78) (v := ?_) (a' := ?_) #[true, true, true, true, true, true, true, true, true, true, true, true, true, true, true, true, false, false, false, false, false, false, false, false, false, false, false, false, false, false, false, false, false, false, false, false, false, false, false, false, false, false, false, false, false, false, false, false, false, false, false, false, false, false, false, false, false, false, false, false, false, false, false, false, false, false, false, false, false, false, false, false, false, false, false, false, false, false, false, false, false, false, false, false, false] rfl rfl (any_of HT_.out z5_18) (fun _ _ _ h => h) (Or.inl ⟨by rfl, ?_⟩) ?_ ?_
                 rotate_left
                 ·
                  exact z5_10
                 rotate_left
                 ·
                  exact z5_0
                 refine pure_ (i := 16) (N := some 79) (v := ?_) (a' := ?_) #[true, true, true, true, true, true, true, true, true, true, true, true, true, true, true, true, true, false, false, false, false, false, false, false, false, false, false, false, false, false, false, false, false, false, false, false, false, false, false, false, false, false, false, false, false, false, false, false, false, false, false, false, false, false, false, false, false, false, false, false, false, false, false, false, false, false, false, false, false, false, false, false, false, false, false, false, false, false, false, false, false, false, false, false, false] rfl rfl (any_of HT_.out z5_18) (fun _ _ _ h => h) (Or.inl ⟨by rfl, ?_⟩) ?_ ?_
                 rotate_left
                 ·
                  exact z5_10
                 rotate_left
                 ·
                  exact z5_0
                 refine pure_ (i := 18) (N := some 81) (v := ?_) (a' := ?_) #[true, true, true, true, true, true, true, true, true, true, true, true, true, true, true, true, true, false, true, false, false, false, false, false, false, false, false, false, false, false, false, false, false, false, false, false, false, false, false, false, false, false, false, false, false, false, false, false, false, false, false, false, false, false, false, false, false, false, false, false, false, false, false, false, false, false, false, false, false, false, false, false, false, false, false, false, false, false, false, false, false, false, false, false, false] rfl rfl (any_of HT_.out z5_18) (fun _ _ _ h => h) (Or.inl ⟨by rfl, ?_⟩) ?_ ?_
                 rotate_left
                 ·
                  exact z5_10
                 rotate_left
                 ·
                  exact z5_0
                 refine take_ (i := 17) (N := some 80) (v := ?_) (a' := ?_) #[true, true, true, true, true, true, true, true, true, true, true, true, true, true, true, true, true, true, true, false, false, false, false, false, false, false, false, false, false, false, false, false, false, false, false, false, false, false, false, false, false, false, false, false, false, false, false, false, false, false, false, false, false, false, false, false, false, false, false, false, false, false, false, false, false, false, false, false, false, false, false, false, false, false, false, false, false, false, false, false, false, false, false, false, false] rfl rfl (take_ofW HT_.out HW_.out z5_18) (fun _ _ _ h => h) (Or.inl ⟨by rfl, ?_⟩) hHeld ?_ ?_
                 rotate_left
                 ·
                  rintro w' ⟨s0, s1, s2, s3, s4, s5, s6, s7, s8, s9, s10, s11, s12, s13, s14, s15⟩
                  go_simp
                  with_reducible rfl
                 rotate_left
                 ·
                  exact z5_0
                 refine take_ (i := 19) (N := some 82) (v := ?_) (a' := ?_) #[true, true, true, true, true, true, true, true, true, true, true, true, true, true, true, true, true, true, true, true, false, false, false, false, false, false, false, false, false, false, false, false, false, false, false, false, false, false, false, false, false, false, false, false, false, false, false, false, false, false, false, false, false, false, false, false, false, false, false, false, false, false, false, false, false, false, false, false, false, false, false, false, false, false, false, false, false, false, false, false, false, false, false, false, false] rfl rfl (take_ofW HT_.out HW_.out z5_18) (fun _ _ _ h => h) (Or.inl ⟨by rfl, ?_⟩) hHeld ?_ ?_
                 rotate_left
                 ·
                  rintro w' ⟨s0, s1, s2, s3, s4, s5, s6, s7, s8, s9, s10, s11, s12, s13, s14, s15⟩
                  go_simp
                  with_reducible rfl
                 rotate_left
                 ·
                  exact z5_0
                 refine pure_ (i := 20) (N := some 83) (v := ?_) (a' := ?_) #[true, true, true, true, true, true, true, true, true, true, true, true, true, true, true, true, true, true, true, true, true, false, false, false, false, false, false, false, false, false, false, false, false, false, false, false, false, false, false, false, false, false, false, false, false, false, false, false, false, false, false, false, false, false, false, false, false, false, false, false, false, false, false, false, false, false, false, false, false, false, false, false, false, false, false, false, false, false, false, false, false, false, false, false, false] rfl rfl (any_of HT_.out z5_18) (fun _ _ _ h => h) (Or.inl ⟨by rfl, ?_⟩) ?_ ?_
                 rotate_left
                 ·
                  exact z5_10
                 rotate_left
                 ·
                  exact z5_0
                 refine pure_ (i := 21) (N := some 84) (v := ?_) (a' := ?_) #[true, true, true, true, true, true, true, true, true, true, true, true, true, true, true, true, true, true, true, true, true, true, false, false, false, false, false, false, false, false, false, false, false, false, false, false, false, false, false, false, false, false, false, false, false, false, false, false, false, false, false, false, false, false, false, false, false, false, false, false, false, false, false, false, false, false, false, false, false, false, false, false, false, false, false, false, false, false, false, false, false, false, false, false, false] rfl rfl (any_of HT_.out z5_18) (fun _ _ _ h => h) (Or.inl ⟨by rfl, ?_⟩) ?_ ?_
                 rotate_left
                 ·
                  exact z5_10
                 rotate_left
                 ·
                  exact z5_0
                 refine pure_ (i := 22) (N := some 85) (v := ?_) (a' := ?_) #[true, true, true, true, true, true, true, true, true, true, true, true, true, true, true, true, true, true, true, true, true, true, true, false, false, false, false, false, false, false, false, false, false, false, false, false, false, false, false, false, false, false, false, false, false, false, false, false, false, false, false, false, false, false, false, false, false, false, false, false, false, false, false, false, false, false, false, false, false, false, false, false, false, false, false, false, false, false, false, false, false, false, false, false, false] rfl rfl (any_of HT_.out z5_18) (fun _ _ _ h => h) (Or.inl ⟨by rfl, ?_⟩) ?_ ?_
                 rotate_left
                 ·
                  exact z5_10
                 rotate_left
                 ·
                  exact z5_0
                 refine pure_ (i := 23) (N := some 86) (v := ?_) (a' := ?_) #[true, true, true, true, true, true, true, true, true, true, true, true, true, true, true, true, true, true, true, true, true, true, true, true, false, false, false, false, false, false, false, false, false, false, false, false, false, false, false, false, false, false, false, false, false, false, false, false, false, false, false, false, false, false, false, false, false, false, false, false, false, false, false, false, false, false, false, false, false, false, false, false, false, false, false, false, false, false, false, false, false, false, false, false, false] rfl rfl (any_of HT_.out z5_18) (fun _ _ _ h => h) (Or.inl ⟨by rfl, ?_⟩) ?_ ?_
                 rotate_left
                 ·
                  exact z5_10
                 rotate_left
                 ·
                  exact z5_0
                 refine take_ (i := 24) (N := some 87) (v := ?_) (a' := ?_) #[true, true, true, true, true, true, true, true, true, true, true, true, true, true, true, true, true, true, true, true, true, true, true, true, true, false, false, false, false, false, false, false, false, false, false, false, false, false, false, false, false, false, false, false, false, false, false, false, false, false, false, false, false, false, false, false, false, false, false, false, false, false, false, false, false, false, false, false, false, false, false, false, false, false, false, false, false, false, false, false, false, false, false, false, false] rfl rfl (take_ofW HT_.out HW_.out z5_18) (fun _ _ _ h => h) (Or.inl ⟨by rfl, ?_⟩) hHeld ?_ ?_
                 rotate_left
                 ·
                  rintro w' ⟨s0, s1, s2, s3, s4, s5, s6, s7, s8, s9, s10, s11, s12, s13, s14, s15⟩
                  go_simp
                  with_reducible rfl
                 rotate_left
                 ·
                  exact z5_0
                 refine one_ (i := 25) (N := some 88) #[true, true, true, true, true, true, true, true, true, true, true, true, true, true, true, true, true, true, true, true, true, true, true, true, true, true, false, false, false, false, false, false, false, false, false, false, false, false, false, false, false, false, false, false, false, false, false, false, false, false, false, false, false, false, false, false, false, false, false, false, false, false, false, false, false, false, false, false, false, false, false, false, false, false, false, false, false, false, false, false, false, false, false, false, false] rfl rfl (one_of HT_.out z5_18) (by decide) (fun K hK => ?_)
                 refine goes_ Try.func59 z5_18 rfl #[.agg #[.string t248, .int .i64 t249]] (by rfl) rfl rfl z5_7 ?_
                 with_reducible refine (impl_FileOk.calls t248 t249 true _ A22.out).mono ?_
                 rintro e w113 ⟨rfl, hb⟩
                 refine ⟨_, rfl, ?_⟩
                 have n0_ := Aside0.mk (Kd.R_below z5_9 hb)
                 have n1_ := Aside0.mk (blk_below (g := gb250) (o := .cells #[.string t248, .int .i64 t249] 75 (0, 0)) z5_2 hb)
                 have n2_ := Aside0.mk (blk_below (g := gb257) (o := .cells #[.string t255, .int .i64 t256] 75 (0, 0)) z5_3 hb)
                 have n3_ := Aside0.mk (blk_below (g := gb261) (o := .cells #[.string t258, .int .i64 t259] 75 (0, 0)) z5_4 hb)
                 have n4_ := Aside0.mk (blk_below (g := gb264) (o := .cells #[.string t262, .int .i64 t263] 75 (0, 0)) z5_5 hb)
                 have n5_ := Aside0.mk (blk_below (g := gb268) (o := .cells #[.string t265, .int .i64 t266] 75 (0, 0)) z5_6 hb)
                 have n6_ := Aside0.mk (blk_below (g := gb272) (o := .cells #[.string t269, .int .i64 t270] 75 (0, 0)) z5_8 hb)
                 have n7_ := Aside0.mk (blk_below (g := gb276) (o := .cells #[.string t273, .int .i64 t274] 75 (0, 0)) z5_11 hb)
                 have n8_ := Aside0.mk (blk_below (g := gb280) (o := .cells #[.string t277, .int .i64 t278] 75 (0, 0)) z5_13 hb)
                 have n9_ := Aside0.mk (blk_below (g := gb283) (o := .cells #[.string t281, .int .i64 t282] 75 (0, 0)) z5_16 hb)
                 have n10_ := Aside0.mk (below_step z5_1 hb)
                 clear HO253
                 clear BK250
                 clear BK257
                 clear BK261
                 clear BK264
                 clear BK268
                 clear BK272
                 clear BK276
                 clear BK280
                 clear BK283
                 clear HB
                 have HO253 := n0_
                 have BK250 := n1_
                 have BK257 := n2_
                 have BK261 := n3_
                 have BK264 := n4_
                 have BK268 := n5_
                 have BK272 := n6_
                 have BK276 := n7_
                 have BK280 := n8_
                 have BK283 := n9_
                 have HB := n10_
                 clear n0_ n1_ n2_ n3_ n4_ n5_ n6_ n7_ n8_ n9_ n10_
                 (try clear hb)
                 (try clear hb2)
                 (try clear hk)
                 (try clear hi)
                 refine hK.out _ _ ⟨(blk_cell BK250.out 0).trans rfl, (blk_cell BK250.out 1).trans rfl, (blk_cell BK257.out 0).trans rfl, (blk_cell BK257.out 1).trans rfl, (blk_cell BK264.out 0).trans rfl, (blk_cell BK264.out 1).trans rfl, (blk_cell BK268.out 0).trans rfl, (blk_cell BK268.out 1).trans rfl, (blk_cell BK276.out 0).trans rfl, (blk_cell BK276.out 1).trans rfl, (blk_cell BK280.out 0).trans rfl, (blk_cell BK280.out 1).trans rfl, (blk_cell BK283.out 0).trans rfl, (blk_cell BK283.out 1).trans rfl, (blk_cell BK261.out 0).trans rfl, (blk_cell BK261.out 1).trans rfl⟩ (fun hHeld => ?_)
                 clear hK K
                 refine norm_ (a' := ?_) ?_ ?_
                 rotate_left
                 ·
                  show Act.put _ (some 88) _ = _
                  simp only [Act.put, List.setIfInBounds_toArray, List.set_cons_zero, List.set_cons_succ, i64_w, i32_w]
                  rfl
                 refine pure_ (i := 26) (N := some 89) (v := ?_) (a' := ?_) #[true, true, true, true, true, true, true, true, true, true, true, true, true, true, true, true, true, true, true, true, true, true, true, true, true, true, true, false, false, false, false, false, false, false, false, false, false, false, false, false, false, false, false, false, false, false, false, false, false, false, false, false, false, false, false, false, false, false, false, false, false, false, false, false, false, false, false, false, false, false, false, false, false, false, false, false, false, false, false, false, false, false, false, false, false] rfl rfl (any_of HT_.out z5_18) (fun _ _ _ h => h) (Or.inl ⟨by rfl, ?_⟩) ?_ ?_
                 rotate_left
                 ·
                  exact z5_10
                 rotate_left
                 ·
                  exact z5_0
                 refine pure_ (i := 27) (N := some 90) (v := ?_) (a' := ?_) #[true, true, true, true, true, true, true, true, true, true, true, true, true, true, true, true, true, true, true, true, true, true, true, true, true, true, true, true, false, false, false, false, false, false, false, false, false, false, false, false, false, false, false, false, false, false, false, false, false, false, false, false, false, false, false, false, false, false, false, false, false, false, false, false, false, false, false, false, false, false, false, false, false, false, false, false, false, false, false, false, false, false, false, false, false] rfl rfl (any_of HT_.out z5_18) (fun _ _ _ h => h) (Or.inl ⟨by rfl, ?_⟩) ?_ ?_
                 rotate_left
                 ·
                  exact z5_10
                 rotate_left
                 ·
                  exact z5_0
                 refine take_ (i := 28) (N := some 91) (v := ?_) (a' := ?_) #[true, true, true, true, true, true, true, true, true, true, true, true, true, true, true, true, true, true, true, true, true, true, true, true, true, true, true, true, true, false, false, false, false, false, false, false, false, false, false, false, false, false, false, false, false, false, false, false, false, false, false, false, false, false, false, false, false, false, false, false, false, false, false, false, false, false, false, false, false, false, false, false, false, false, false, false, false, false, false, false, false, false, false, false, false] rfl rfl (take_ofW HT_.out HW_.out z5_18) (fun _ _ _ h => h) (Or.inl ⟨by rfl, ?_⟩) hHeld ?_ ?_
                 rotate_left
                 ·
                  rintro w' ⟨s0, s1, s2, s3, s4, s5, s6, s7, s8, s9, s10, s11, s12, s13, s14, s15⟩
                  go_simp
                  with_reducible rfl
                 rotate_left
                 ·
                  exact z5_0
                 refine one_ (i := 29) (N := some 92) #[true, true, true, true, true, true, true, true, true, true, true, true, true, true, true, true, true, true, true, true, true, true, true, true, true, true, true, true, true, true, false, false, false, false, false, false, false, false, false, false, false, false, false, false, false, false, false, false, false, false, false, false, false, false, false, false, false, false, false, false, false, false, false, false, false, false, false, false, false, false, false, false, false, false, false, false, false, false, false, false, false, false, false, false, false] rfl rfl (one_of HT_.out z5_18) (by decide) (fun K hK => ?_)
                 refine goes_ Try.func59 z5_18 rfl #[.agg #[.string t255, .int .i64 t256]] (by rfl) rfl rfl z5_7 ?_
                 with_reducible refine (impl_FileOk.calls t255 t256 true _ A24.out).mono ?_
                 rintro e w114 ⟨rfl, hb⟩
                 refine ⟨_, rfl, ?_⟩
                 have n0_ := Aside0.mk (Kd.R_below z5_9 hb)
                 have n1_ := Aside0.mk (blk_below (g := gb250) (o := .cells #[.string t248, .int .i64 t249] 75 (0, 0)) z5_2 hb)
                 have n2_ := Aside0.mk (blk_below (g := gb257) (o := .cells #[.string t255, .int .i64 t256] 75 (0, 0)) z5_3 hb)
                 have n3_ := Aside0.mk (blk_below (g := gb261) (o := .cells #[.string t258, .int .i64 t259] 75 (0, 0)) z5_4 hb)
                 have n4_ := Aside0.mk (blk_below (g := gb264) (o := .cells #[.string t262, .int .i64 t263] 75 (0, 0)) z5_5 hb)
                 have n5_ := Aside0.mk (blk_below (g := gb268) (o := .cells #[.string t265, .int .i64 t266] 75 (0, 0)) z5_6 hb)
                 have n6_ := Aside0.mk (blk_below (g := gb272) (o := .cells #[.string t269, .int .i64 t270] 75 (0, 0)) z5_8 hb)
                 have n7_ := Aside0.mk (blk_below (g := gb276) (o := .cells #[.string t273, .int .i64 t274] 75 (0, 0)) z5_11 hb)
                 have n8_ := Aside0.mk (blk_below (g := gb280) (o := .cells #[.string t277, .int .i64 t278] 75 (0, 0)) z5_13 hb)
                 have n9_ := Aside0.mk (blk_below (g := gb283) (o := .cells #[.string t281, .int .i64 t282] 75 (0, 0)) z5_16 hb)
                 have n10_ := Aside0.mk (below_step z5_1 hb)
                 clear HO253
                 clear BK250
                 clear BK257
                 clear BK261
                 clear BK264
                 clear BK268
                 clear BK272
                 clear BK276
                 clear BK280
                 clear BK283
                 clear HB
                 have HO253 := n0_
                 have BK250 := n1_
                 have BK257 := n2_
                 have BK261 := n3_
                 have BK264 := n4_
                 have BK268 := n5_
                 have BK272 := n6_
                 have BK276 := n7_
                 have BK280 := n8_
                 have BK283 := n9_
                 have HB := n10_
                 clear n0_ n1_ n2_ n3_ n4_ n5_ n6_ n7_ n8_ n9_ n10_
                 (try clear hb)
                 (try clear hb2)
                 (try clear hk)
                 (try clear hi)
                 refine hK.out _ _ ⟨(blk_cell BK250.out 0).trans rfl, (blk_cell BK250.out 1).trans rfl, (blk_cell BK257.out 0).trans rfl, (blk_cell BK257.out 1).trans rfl, (blk_cell BK264.out 0).trans rfl, (blk_cell BK264.out 1).trans rfl, (blk_cell BK268.out 0).trans rfl, (blk_cell BK268.out 1).trans rfl, (blk_cell BK276.out 0).trans rfl, (blk_cell BK276.out 1).trans rfl, (blk_cell BK280.out 0).trans rfl, (blk_cell BK280.out 1).trans rfl, (blk_cell BK283.out 0).trans rfl, (blk_cell BK283.out 1).trans rfl, (blk_cell BK261.out 0).trans rfl, (blk_cell BK261.out 1).trans rfl⟩ (fun hHeld => ?_)
                 clear hK K
                 refine norm_ (a' := ?_) ?_ ?_
                 rotate_left
                 ·
                  show Act.put _ (some 92) _ = _
                  simp only [Act.put, List.setIfInBounds_toArray, List.set_cons_zero, List.set_cons_succ, i64_w, i32_w]
                  rfl
                 refine pure_ (i := 30) (N := some 93) (v := ?_) (a' := ?_) #[true, true, true, true, true, true, true, true, true, true, true, true, true, true, true, true, true, true, true, true, true, true, true, true, true, true, true, true, true, true, true, false, false, false, false, false, false, false, false, false, false, false, false, false, false, false, false, false, false, false, false, false, false, false, false, false, false, false, false, false, false, false, false, false, false, false, false, false, false, false, false, false, false, false, false, false, false, false, false, false, false, false, false, false, false] rfl rfl (any_of HT_.out z5_18) (fun _ _ _ h => h) (Or.inl ⟨by rfl, ?_⟩) ?_ ?_
                 rotate_left
                 ·
                  exact z5_10
                 rotate_left
                 ·
                  exact z5_0
                 refine pure_ (i := 31) (N := some 94) (v := ?_) (a' := ?_) #[true, true, true, true, true, true, true, true, true, true, true, true, true, true, true, true, true, true, true, true, true, true, true, true, true, true, true, true, true, true, true, true, false, false, false, false, false, false, false, false, false, false, false, false, false, false, false, false, false, false, false, false, false, false, false, false, false, false, false, false, false, false, false, false, false, false, false, false, false, false, false, false, false, false, false, false, false, false, false, false, false, false, false, false, false] rfl rfl (any_of HT_.out z5_18) (fun _ _ _ h => h) (Or.inl ⟨by rfl, ?_⟩) ?_ ?_
                 rotate_left
                 ·
                  exact z5_10
                 rotate_left
                 ·
                  exact z5_0
                 refine pure_ (i := 32) (N := some 95) (v := ?_) (a' := ?_) #[true, true, true, true, true, true, true, true, true, true, true, true, true, true, true, true, true, true, true, true, true, true, true, true, true, true, true, true, true, true, true, true, true, false, false, false, false, false, false, false, false, false, false, false, false, false, false, false, false, false, false, false, false, false, false, false, false, false, false, false, false, false, false, false, false, false, false, false, false, false, false, false, false, false, false, false, false, false, false, false, false, false, false, false, false] rfl rfl (any_of HT_.out z5_18) (fun _ _ _ h => h) (Or.inl ⟨by rfl, ?_⟩) ?_ ?_
                 rotate_left
                 ·
                  exact z5_10
                 rotate_left
                 ·
                  exact z5_0
                 refine pure_ (i := 33) (N := some 96) (v := ?_) (a' := ?_) #[true, true, true, true, true, true, true, true, true, true, true, true, true, true, true, true, true, true, true, true, true, true, true, true, true, true, true, true, true, true, true, true, true, true, false, false, false, false, false, false, false, false, false, false, false, false, false, false, false, false, false, false, false, false, false, false, false, false, false, false, false, false, false, false, false, false, false, false, false, false, false, false, false, false, false, false, false, false, false, false, false, false, false, false, false] rfl rfl (any_of HT_.out z5_18) (fun _ _ _ h => h) (Or.inl ⟨by rfl, ?_⟩) ?_ ?_
                 rotate_left
                 ·
                  exact z5_10
                 rotate_left
                 ·
                  exact z5_0
                 refine pure_ (i := 34) (N := some 97) (v := ?_) (a' := ?_) #[true, true, true, true, true, true, true, true, true, true, true, true, true, true, true, true, true, true, true, true, true, true, true, true, true, true, true, true, true, true, true, true, true, true, true, false, false, false, false, false, false, false, false, false, false, false, false, false, false, false, false, false, false, false, false, false, false, false, false, false, false, false, false, false, false, false, false, false, false, false, false, false, false, false, false, false, false, false, false, false, false, false, false, false, false] rfl rfl (any_of HT_.out z5_18) (fun _ _ _ h => h) (Or.inl ⟨by rfl, ?_⟩) ?_ ?_
                 rotate_left
                 ·
                  exact z5_10
                 rotate_left
                 ·
                  exact z5_0
                 refine take_ (i := 35) (N := some 98) (v := ?_) (a' := ?_) #[true, true, true, true, true, true, true, true, true, true, true, true, true, true, true, true, true, true, true, true, true, true, true, true, true, true, true, true, true, true, true, true, true, true, true, true, false, false, false, false, false, false, false, false, false, false, false, false, false, false, false, false, false, false, false, false, false, false, false, false, false, false, false, false, false, false, false, false, false, false, false, false, false, false, false, false, false, false, false, false, false, false, false, false, false] rfl rfl (take_ofW HT_.out HW_.out z5_18) (fun _ _ _ h => h) (Or.inl ⟨by rfl, ?_⟩) hHeld ?_ ?_
                 rotate_left
                 ·
                  rintro w' ⟨s0, s1, s2, s3, s4, s5, s6, s7, s8, s9, s10, s11, s12, s13, s14, s15⟩
                  go_simp
                  with_reducible rfl
                 rotate_left
                 ·
                  exact z5_0
                 refine take_ (i := 37) (N := some 100) (v := ?_) (a' := ?_) #[true, true, true, true, true, true, true, true, true, true, true, true, true, true, true, true, true, true, true, true, true, true, true, true, true, true, true, true, true, true, true, true, true, true, true, true, false, true, false, false, false, false, false, false, false, false, false, false, false, false, false, false, false, false, false, false, false, false, false, false, false, false, false, false, false, false, false, false, false, false, false, false, false, false, false, false, false, false, false, false, false, false, false, false, false] rfl rfl (take_ofW HT_.out HW_.out z5_18) (fun _ _ _ h => h) (Or.inl ⟨by rfl, ?_⟩) hHeld ?_ ?_
                 rotate_left
                 ·
                  rintro w' ⟨s0, s1, s2, s3, s4, s5, s6, s7, s8, s9, s10, s11, s12, s13, s14, s15⟩
                  go_simp
                  with_reducible rfl
                 rotate_left
                 ·
                  exact z5_0
                 refine one_ (i := 36) (N := some 99) #[true, true, true, true, true, true, true, true, true, true, true, true, true, true, true, true, true, true, true, true, true, true, true, true, true, true, true, true, true, true, true, true, true, true, true, true, true, true, false, false, false, false, false, false, false, false, false, false, false, false, false, false, false, false, false, false, false, false, false, false, false, false, false, false, false, false, false, false, false, false, false, false, false, false, false, false, false, false, false, false, false, false, false, false, false] rfl rfl (one_of HT_.out z5_18) (by decide) (fun K hK => ?_)
                 refine goes_ Try.func51 z5_18 rfl #[.agg #[.string t262, .int .i64 t263], .int .i64 0] (by rfl) rfl rfl z5_7 ?_
                 with_reducible refine (impl_Crashed.calls t262 t263 0 t288 t289 _ A27.out).mono ?_
                 rintro e w115 ⟨rfl, hb⟩
                 refine ⟨_, rfl, ?_⟩
                 have n0_ := Aside0.mk (Kd.R_below z5_9 hb)
                 have n1_ := Aside0.mk (blk_below (g := gb250) (o := .cells #[.string t248, .int .i64 t249] 75 (0, 0)) z5_2 hb)
                 have n2_ := Aside0.mk (blk_below (g := gb257) (o := .cells #[.string t255, .int .i64 t256] 75 (0, 0)) z5_3 hb)
                 have n3_ := Aside0.mk (blk_below (g := gb261) (o := .cells #[.string t258, .int .i64 t259] 75 (0, 0)) z5_4 hb)
                 have n4_ := Aside0.mk (blk_below (g := gb264) (o := .cells #[.string t262, .int .i64 t263] 75 (0, 0)) z5_5 hb)
                 have n5_ := Aside0.mk (blk_below (g := gb268) (o := .cells #[.string t265, .int .i64 t266] 75 (0, 0)) z5_6 hb)
                 have n6_ := Aside0.mk (blk_below (g := gb272) (o := .cells #[.string t269, .int .i64 t270] 75 (0, 0)) z5_8 hb)
                 have n7_ := Aside0.mk (blk_below (g := gb276) (o := .cells #[.string t273, .int .i64 t274] 75 (0, 0)) z5_11 hb)
                 have n8_ := Aside0.mk (blk_below (g := gb280) (o := .cells #[.string t277, .int .i64 t278] 75 (0, 0)) z5_13 hb)
                 have n9_ := Aside0.mk (blk_below (g := gb283) (o := .cells #[.string t281, .int .i64 t282] 75 (0, 0)) z5_16 hb)
                 have n10_ := Aside0.mk (below_step z5_1 hb)
                 clear HO253
                 clear BK250
                 clear BK257
                 clear BK261
                 clear BK264
                 clear BK268
                 clear BK272
                 clear BK276
                 clear BK280
                 clear BK283
                 clear HB
                 have HO253 := n0_
                 have BK250 := n1_
                 have BK257 := n2_
                 have BK261 := n3_
                 have BK264 := n4_
                 have BK268 := n5_
                 have BK272 := n6_
                 have BK276 := n7_
                 have BK280 := n8_
                 have BK283 := n9_
                 have HB := n10_
                 clear n0_ n1_ n2_ n3_ n4_ n5_ n6_ n7_ n8_ n9_ n10_
                 (try clear hb)
                 (try clear hb2)
                 (try clear hk)
                 (try clear hi)
                 refine hK.out _ _ ⟨(blk_cell BK250.out 0).trans rfl, (blk_cell BK250.out 1).trans rfl, (blk_cell BK257.out 0).trans rfl, (blk_cell BK257.out 1).trans rfl, (blk_cell BK264.out 0).trans rfl, (blk_cell BK264.out 1).trans rfl, (blk_cell BK268.out 0).trans rfl, (blk_cell BK268.out 1).trans rfl, (blk_cell BK276.out 0).trans rfl, (blk_cell BK276.out 1).trans rfl, (blk_cell BK280.out 0).trans rfl, (blk_cell BK280.out 1).trans rfl, (blk_cell BK283.out 0).trans rfl, (blk_cell BK283.out 1).trans rfl, (blk_cell BK261.out 0).trans rfl, (blk_cell BK261.out 1).trans rfl⟩ (fun hHeld => ?_)
                 clear hK K
                 refine norm_ (a' := ?_) ?_ ?_
                 rotate_left
                 ·
                  show Act.put _ (some 99) _ = _
                  simp only [Act.put, List.setIfInBounds_toArray, List.set_cons_zero, List.set_cons_succ, i64_w, i32_w]
                  rfl
                 refine pure_ (i := 38) (N := some 101) (v := ?_) (a' := ?_) #[true, true, true, true, true, true, true, true, true, true, true, true, true, true, true, true, true, true, true, true, true, true, true, true, true, true, true, true, true, true, true, true, true, true, true, true, true, true, true, false, false, false, false, false, false, false, false, false, false, false, false, false, false, false, false, false, false, false, false, false, false, false, false, false, false, false, false, false, false, false, false, false, false, false, false, false, false, false, false, false, false, false, false, false, false] rfl rfl (any_of HT_.out z5_18) (fun _ _ _ h => h) (Or.inl ⟨by rfl, ?_⟩) ?_ ?_
                 rotate_left
                 ·
                  exact z5_10
                 rotate_left
                 ·
                  exact z5_0
                 refine pure_ (i := 39) (N := some 102) (v := ?_) (a' := ?_) #[true, true, true, true, true, true, true, true, true, true, true, true, true, true, true, true, true, true, true, true, true, true, true, true, true, true, true, true, true, true, true, true, true, true, true, true, true, true, true, true, false, false, false, false, false, false, false, false, false, false, false, false, false, false, false, false, false, false, false, false, false, false, false, false, false, false, false, false, false, false, false, false, false, false, false, false, false, false, false, false, false, false, false, false, false] rfl rfl (any_of HT_.out z5_18) (fun _ _ _ h => h) (Or.inl ⟨by rfl, ?_⟩) ?_ ?_
                 rotate_left
                 ·
                  exact z5_10
                 rotate_left
                 ·
                  exact z5_0
                 refine pure_ (i := 40) (N := some 103) (v := ?_) (a' := ?_) #[true, true, true, true, true, true, true, true, true, true, true, true, true, true, true, true, true, true, true, true, true, true, true, true, true, true, true, true, true, true, true, true, true, true, true, true, true, true, true, true, true, false, false, false, false, false, false, false, false, false, false, false, false, false, false, false, false, false, false, false, false, false, false, false, false, false, false, false, false, false, false, false, false, false, false, false, false, false, false, false, false, false, false, false, false] rfl rfl (any_of HT_.out z5_18) (fun _ _ _ h => h) (Or.inl ⟨by rfl, ?_⟩) ?_ ?_
                 rotate_left
                 ·
                  exact z5_10
                 rotate_left
                 ·
                  exact z5_0
                 refine pure_ (i := 42) (N := some 105) (v := ?_) (a' := ?_) #[true, true, true, true, true, true, true, true, true, true, true, true, true, true, true, true, true, true, true, true, true, true, true, true, true, true, true, true, true, true, true, true, true, true, true, true, true, true, true, true, true, false, true, false, false, false, false, false, false, false, false, false, false, false, false, false, false, false, false, false, false, false, false, false, false, false, false, false, false, false, false, false, false, false, false, false, false, false, false, false, false, false, false, false, false] rfl rfl (any_of HT_.out z5_18) (fun _ _ _ h => h) (Or.inl ⟨by rfl, ?_⟩) ?_ ?_
                 rotate_left
                 ·
                  exact z5_10
                 rotate_left
                 ·
                  exact z5_0
                 refine pure_ (i := 45) (N := some 108) (v := ?_) (a' := ?_) #[true, true, true, true, true, true, true, true, true, true, true, true, true, true, true, true, true, true, true, true, true, true, true, true, true, true, true, true, true, true, true, true, true, true, true, true, true, true, true, true, true, false, true, false, false, true, false, false, false, false, false, false, false, false, false, false, false, false, false, false, false, false, false, false, false, false, false, false, false, false, false, false, false, false, false, false, false, false, false, false, false, false, false, false, false] rfl rfl (any_of HT_.out z5_18) (fun _ _ _ h => h) (Or.inl ⟨by rfl, ?_⟩) ?_ ?_
                 rotate_left
                 ·
                  exact z5_10
                 rotate_left
                 ·
                  exact z5_0
                 refine take_ (i := 41) (N := some 104) (v := ?_) (a' := ?_) #[true, true, true, true, true, true, true, true, true, true, true, true, true, true, true, true, true, true, true, true, true, true, true, true, true, true, true, true, true, true, true, true, true, true, true, true, true, true, true, true, true, true, true, false, false, true, false, false, false, false, false, false, false, false, false, false, false, false, false, false, false, false, false, false, false, false, false, false, false, false, false, false, false, false, false, false, false, false, false, false, false, false, false, false, false] rfl rfl (take_ofW HT_.out HW_.out z5_18) (fun _ _ _ h => h) (Or.inl ⟨by rfl, ?_⟩) hHeld ?_ ?_
                 rotate_left
                 ·
                  rintro w' ⟨s0, s1, s2, s3, s4, s5, s6, s7, s8, s9, s10, s11, s12, s13, s14, s15⟩
                  go_simp
                  with_reducible rfl
                 rotate_left
                 ·
                  exact z5_0
                 refine take_ (i := 44) (N := some 107) (v := ?_) (a' := ?_) #[true, true, true, true, true, true, true, true, true, true, true, true, true, true, true, true, true, true, true, true, true, true, true, true, true, true, true, true, true, true, true, true, true, true, true, true, true, true, true, true, true, true, true, false, true, true, false, false, false, false, false, false, false, false, false, false, false, false, false, false, false, false, false, false, false, false, false, false, false, false, false, false, false, false, false, false, false, false, false, false, false, false, false, false, false] rfl rfl (take_ofW HT_.out HW_.out z5_18) (fun _ _ _ h => h) (Or.inl ⟨by rfl, ?_⟩) hHeld ?_ ?_
                 rotate_left
                 ·
                  rintro w' ⟨s0, s1, s2, s3, s4, s5, s6, s7, s8, s9, s10, s11, s12, s13, s14, s15⟩
                  go_simp
                  with_reducible rfl
                 rotate_left
                 ·
                  exact z5_0
                 refine one_ (i := 43) (N := some 106) #[true, true, true, true, true, true, true, true, true, true, true, true, true, true, true, true, true, true, true, true, true, true, true, true, true, true, true, true, true, true, true, true, true, true, true, true, true, true, true, true, true, true, true, true, true, true, false, false, false, false, false, false, false, false, false, false, false, false, false, false, false, false, false, false, false, false, false, false, false, false, false, false, false, false, false, false, false, false, false, false, false, false, false, false, false] rfl rfl (one_of HT_.out z5_18) (by decide) (fun K hK => ?_)
                 refine goes_ Try.func51 z5_18 rfl #[.agg #[.string t265, .int .i64 t266], .int .i64 t267] (by rfl) rfl rfl z5_7 ?_
                 with_reducible refine (impl_Crashed.calls t265 t266 t267 t290 t291 _ A29.out).mono ?_
                 rintro e w116 ⟨rfl, hb⟩
                 refine ⟨_, rfl, ?_⟩
                 have n0_ := Aside0.mk (Kd.R_below z5_9 hb)
                 have n1_ := Aside0.mk (blk_below (g := gb250) (o := .cells #[.string t248, .int .i64 t249] 75 (0, 0)) z5_2 hb)
                 have n2_ := Aside0.mk (blk_below (g := gb257) (o := .cells #[.string t255, .int .i64 t256] 75 (0, 0)) z5_3 hb)
                 have n3_ := Aside0.mk (blk_below (g := gb261) (o := .cells #[.string t258, .int .i64 t259] 75 (0, 0)) z5_4 hb)
                 have n4_ := Aside0.mk (blk_below (g := gb264) (o := .cells #[.string t262, .int .i64 t263] 75 (0, 0)) z5_5 hb)
                 have n5_ := Aside0.mk (blk_below (g := gb268) (o := .cells #[.string t265, .int .i64 t266] 75 (0, 0)) z5_6 hb)
                 have n6_ := Aside0.mk (blk_below (g := gb272) (o := .cells #[.string t269, .int .i64 t270] 75 (0, 0)) z5_8 hb)
                 have n7_ := Aside0.mk (blk_below (g := gb276) (o := .cells #[.string t273, .int .i64 t274] 75 (0, 0)) z5_11 hb)
                 have n8_ := Aside0.mk (blk_below (g := gb280) (o := .cells #[.string t277, .int .i64 t278] 75 (0, 0)) z5_13 hb)
                 have n9_ := Aside0.mk (blk_below (g := gb283) (o := .cells #[.string t281, .int .i64 t282] 75 (0, 0)) z5_16 hb)
                 have n10_ := Aside0.mk (below_step z5_1 hb)
                 clear HO253
                 clear BK250
                 clear BK257
                 clear BK261
                 clear BK264
                 clear BK268
                 clear BK272
                 clear BK276
                 clear BK280
                 clear BK283
                 clear HB
                 have HO253 := n0_
                 have BK250 := n1_
                 have BK257 := n2_
                 have BK261 := n3_
                 have BK264 := n4_
                 have BK268 := n5_
                 have BK272 := n6_
                 have BK276 := n7_
                 have BK280 := n8_
                 have BK283 := n9_
                 have HB := n10_
                 clear n0_ n1_ n2_ n3_ n4_ n5_ n6_ n7_ n8_ n9_ n10_
                 (try clear hb)
                 (try clear hb2)
                 (try clear hk)
                 (try clear hi)
                 refine hK.out _ _ ⟨(blk_cell BK250.out 0).trans rfl, (blk_cell BK250.out 1).trans rfl, (blk_cell BK257.out 0).trans rfl, (blk_cell BK257.out 1).trans rfl, (blk_cell BK264.out 0).trans rfl, (blk_cell BK264.out 1).trans rfl, (blk_cell BK268.out 0).trans rfl, (blk_cell BK268.out 1).trans rfl, (blk_cell BK276.out 0).trans rfl, (blk_cell BK276.out 1).trans rfl, (blk_cell BK280.out 0).trans rfl, (blk_cell BK280.out 1).trans rfl, (blk_cell BK283.out 0).trans rfl, (blk_cell BK283.out 1).trans rfl, (blk_cell BK261.out 0).trans rfl, (blk_cell BK261.out 1).trans rfl⟩ (fun hHeld => ?_)
                 clear hK K
                 refine norm_ (a' := ?_) ?_ ?_
                 rotate_left
                 ·
                  show Act.put _ (some 106) _ = _
                  simp only [Act.put, List.setIfInBounds_toArray, List.set_cons_zero, List.set_cons_succ, i64_w, i32_w]
                  rfl
                 refine one_ (i := 46) (N := some 109) #[true, true, true, true, true, true, true, true, true, true, true, true, true, true, true, true, true, true, true, true, true, true, true, true, true, true, true, true, true, true, true, true, true, true, true, true, true, true, true, true, true, true, true, true, true, true, true, false, false, false, false, false, false, false, false, false, false, false, false, false, false, false, false, false, false, false, false, false, false, false, false, false, false, false, false, false, false, false, false, false, false, false, false, false, false] rfl rfl (one_of HT_.out z5_18) (by decide) (fun K hK => ?_)
                 refine goes_ Try.func60 z5_18 rfl #[.agg #[.string t265, .int .i64 t266], .int .i64 t267] (by rfl) rfl rfl z5_7 ?_
                 with_reducible refine (spec_Crashed.calls t265 t266 t267 t292 t293 _ A30.out).mono ?_
                 rintro e w117 ⟨rfl, hb⟩
                 refine ⟨_, rfl, ?_⟩
                 have n0_ := Aside0.mk (Kd.R_below z5_9 hb)
                 have n1_ := Aside0.mk (blk_below (g := gb250) (o := .cells #[.string t248, .int .i64 t249] 75 (0, 0)) z5_2 hb)
                 have n2_ := Aside0.mk (blk_below (g := gb257) (o := .cells #[.string t255, .int .i64 t256] 75 (0, 0)) z5_3 hb)
                 have n3_ := Aside0.mk (blk_below (g := gb261) (o := .cells #[.string t258, .int .i64 t259] 75 (0, 0)) z5_4 hb)
                 have n4_ := Aside0.mk (blk_below (g := gb264) (o := .cells #[.string t262, .int .i64 t263] 75 (0, 0)) z5_5 hb)
                 have n5_ := Aside0.mk (blk_below (g := gb268) (o := .cells #[.string t265, .int .i64 t266] 75 (0, 0)) z5_6 hb)
                 have n6_ := Aside0.mk (blk_below (g := gb272) (o := .cells #[.string t269, .int .i64 t270] 75 (0, 0)) z5_8 hb)
                 have n7_ := Aside0.mk (blk_below (g := gb276) (o := .cells #[.string t273, .int .i64 t274] 75 (0, 0)) z5_11 hb)
                 have n8_ := Aside0.mk (blk_below (g := gb280) (o := .cells #[.string t277, .int .i64 t278] 75 (0, 0)) z5_13 hb)
                 have n9_ := Aside0.mk (blk_below (g := gb283) (o := .cells #[.string t281, .int .i64 t282] 75 (0, 0)) z5_16 hb)
                 have n10_ := Aside0.mk (below_step z5_1 hb)
                 clear HO253
                 clear BK250
                 clear BK257
                 clear BK261
                 clear BK264
                 clear BK268
                 clear BK272
                 clear BK276
                 clear BK280
                 clear BK283
                 clear HB
                 have HO253 := n0_
                 have BK250 := n1_
                 have BK257 := n2_
                 have BK261 := n3_
                 have BK264 := n4_
                 have BK268 := n5_
                 have BK272 := n6_
                 have BK276 := n7_
                 have BK280 := n8_
                 have BK283 := n9_
                 have HB := n10_
                 clear n0_ n1_ n2_ n3_ n4_ n5_ n6_ n7_ n8_ n9_ n10_
                 (try clear hb)
                 (try clear hb2)
                 (try clear hk)
                 (try clear hi)
                 refine hK.out _ _ ⟨(blk_cell BK250.out 0).trans rfl, (blk_cell BK250.out 1).trans rfl, (blk_cell BK257.out 0).trans rfl, (blk_cell BK257.out 1).trans rfl, (blk_cell BK264.out 0).trans rfl, (blk_cell BK264.out 1).trans rfl, (blk_cell BK268.out 0).trans rfl, (blk_cell BK268.out 1).trans rfl, (blk_cell BK276.out 0).trans rfl, (blk_cell BK276.out 1).trans rfl, (blk_cell BK280.out 0).trans rfl, (blk_cell BK280.out 1).trans rfl, (blk_cell BK283.out 0).trans rfl, (blk_cell BK283.out 1).trans rfl, (blk_cell BK261.out 0).trans rfl, (blk_cell BK261.out 1).trans rfl⟩ (fun hHeld => ?_)
                 clear hK K
                 refine norm_ (a' := ?_) ?_ ?_
                 rotate_left
                 ·
                  show Act.put _ (some 109) _ = _
                  simp only [Act.put, List.setIfInBounds_toArray, List.set_cons_zero, List.set_cons_succ, i64_w, i32_w]
                  rfl
                 refine pure_ (i := 47) (N := some 110) (v := ?_) (a' := ?_) #[true, true, true, true, true, true, true, true, true, true, true, true, true, true, true, true, true, true, true, true, true, true, true, true, true, true, true, true, true, true, true, true, true, true, true, true, true, true, true, true, true, true, true, true, true, true, true, true, false, false, false, false, false, false, false, false, false, false, false, false, false, false, false, false, false, false, false, false, false, false, false, false, false, false, false, false, false, false, false, false, false, false, false, false, false] rfl rfl (any_of HT_.out z5_18) (fun _ _ _ h => h) (Or.inl ⟨by rfl, ?_⟩) ?_ ?_
                 rotate_left
                 ·
                  exact z5_10
                 rotate_left
                 ·
                  exact z5_0
                 refine pure_ (i := 48) (N := some 111) (v := ?_) (a' := ?_) #[true, true, true, true, true, true, true, true, true, true, true, true, true, true, true, true, true, true, true, true, true, true, true, true, true, true, true, true, true, true, true, true, true, true, true, true, true, true, true, true, true, true, true, true, true, true, true, true, true, false, false, false, false, false, false, false, false, false, false, false, false, false, false, false, false, false, false, false, false, false, false, false, false, false, false, false, false, false, false, false, false, false, false, false, false] rfl rfl (any_of HT_.out z5_18) (fun _ _ _ h => h) (Or.inl ⟨by rfl, ?_⟩) ?_ ?_
                 rotate_left
                 ·
                  exact z5_10
                 rotate_left
                 ·
                  exact z5_0
                 refine pure_ (i := 49) (N := some 112) (v := ?_) (a' := ?_) #[true, true, true, true, true, true, true, true, true, true, true, true, true, true, true, true, true, true, true, true, true, true, true, true, true, true, true, true, true, true, true, true, true, true, true, true, true, true, true, true, true, true, true, true, true, true, true, true, true, true, false, false, false, false, false, false, false, false, false, false, false, false, false, false, false, false, false, false, false, false, false, false, false, false, false, false, false, false, false, false, false, false, false, false, false] rfl rfl (any_of HT_.out z5_18) (fun _ _ _ h => h) (Or.inl ⟨by rfl, ?_⟩) ?_ ?_
                 rotate_left
                 ·
                  exact z5_10
                 rotate_left
                 ·
                  exact z5_0
                 refine pure_ (i := 50) (N := some 113) (v := ?_) (a' := ?_) #[true, true, true, true, true, true, true, true, true, true, true, true, true, true, true, true, true, true, true, true, true, true, true, true, true, true, true, true, true, true, true, true, true, true, true, true, true, true, true, true, true, true, true, true, true, true, true, true, true, true, true, false, false, false, false, false, false, false, false, false, false, false, false, false, false, false, false, false, false, false, false, false, false, false, false, false, false, false, false, false, false, false, false, false, false] rfl rfl (any_of HT_.out z5_18) (fun _ _ _ h => h) (Or.inl ⟨by rfl, ?_⟩) ?_ ?_
                 rotate_left
                 ·
                  exact z5_10
                 rotate_left
                 ·
                  exact z5_0
                 refine pure_ (i := 51) (N := some 114) (v := ?_) (a' := ?_) #[true, true, true, true, true, true, true, true, true, true, true, true, true, true, true, true, true, true, true, true, true, true, true, true, true, true, true, true, true, true, true, true, true, true, true, true, true, true, true, true, true, true, true, true, true, true, true, true, true, true, true, true, false, false, false, false, false, false, false, false, false, false, false, false, false, false, false, false, false, false, false, false, false, false, false, false, false, false, false, false, false, false, false, false, false] rfl rfl (any_of HT_.out z5_18) (fun _ _ _ h => h) (Or.inl ⟨by rfl, ?_⟩) ?_ ?_
                 rotate_left
                 ·
                  exact z5_10
                 rotate_left
                 ·
                  exact z5_0
                 refine pure_ (i := 52) (N := some 115) (v := ?_) (a' := ?_) #[true, true, true, true, true, true, true, true, true, true, true, true, true, true, true, true, true, true, true, true, true, true, true, true, true, true, true, true, true, true, true, true, true, true, true, true, true, true, true, true, true, true, true, true, true, true, true, true, true, true, true, true, true, false, false, false, false, false, false, false, false, false, false, false, false, false, false, false, false, false, false, false, false, false, false, false, false, false, false, false, false, false, false, false, false] rfl rfl (any_of HT_.out z5_18) (fun _ _ _ h => h) (Or.inl ⟨by rfl, ?_⟩) ?_ ?_
                 rotate_left
                 ·
                  exact z5_10
                 rotate_left
                 ·
                  exact z5_0
                 refine pure_ (i := 53) (N := some 116) (v := ?_) (a' := ?_) #[true, true, true, true, true, true, true, true, true, true, true, true, true, true, true, true, true, true, true, true, true, true, true, true, true, true, true, true, true, true, true, true, true, true, true, true, true, true, true, true, true, true, true, true, true, true, true, true, true, true, true, true, true, true, false, false, false, false, false, false, false, false, false, false, false, false, false, false, false, false, false, false, false, false, false, false, false, false, false, false, false, false, false, false, false] rfl rfl (any_of HT_.out z5_18) (fun _ _ _ h => h) (Or.inl ⟨by rfl, ?_⟩) ?_ ?_
                 rotate_left
                 ·
                  exact z5_10
                 rotate_left
                 ·
                  exact z5_0
                 refine pure_ (i := 54) (N := some 117) (v := ?_) (a' := ?_) #[true, true, true, true, true, true, true, true, true, true, true, true, true, true, true, true, true, true, true, true, true, true, true, true, true, true, true, true, true, true, true, true, true, true, true, true, true, true, true, true, true, true, true, true, true, true, true, true, true, true, true, true, true, true, true, false, false, false, false, false, false, false, false, false, false, false, false, false, false, false, false, false, false, false, false, false, false, false, false, false, false, false, false, false, false] rfl rfl (any_of HT_.out z5_18) (fun _ _ _ h => h) (Or.inl ⟨by rfl, ?_⟩) ?_ ?_
                 rotate_left
                 ·
                  exact z5_10
                 rotate_left
                 ·
                  exact z5_0
                 refine take_ (i := 55) (N := some 118) (v := ?_) (a' := ?_) #[true, true, true, true, true, true, true, true, true, true, true, true, true, true, true, true, true, true, true, true, true, true, true, true, true, true, true, true, true, true, true, true, true, true, true, true, true, true, true, true, true, true, true, true, true, true, true, true, true, true, true, true, true, true, true, true, false, false, false, false, false, false, false, false, false, false, false, false, false, false, false, false, false, false, false, false, false, false, false, false, false, false, false, false, false] rfl rfl (take_ofW HT_.out HW_.out z5_18) (fun _ _ _ h => h) (Or.inl ⟨by rfl, ?_⟩) hHeld ?_ ?_
                 rotate_left
                 ·
                  rintro w' ⟨s0, s1, s2, s3, s4, s5, s6, s7, s8, s9, s10, s11, s12, s13, s14, s15⟩
                  go_simp
                  with_reducible rfl
                 rotate_left
                 ·
                  exact z5_0
                 refine take_ (i := 56) (N := some 119) (v := ?_) (a' := ?_) #[true, true, true, true, true, true, true, true, true, true, true, true, true, true, true, true, true, true, true, true, true, true, true, true, true, true, true, true, true, true, true, true, true, true, true, true, true, true, true, true, true, true, true, true, true, true, true, true, true, true, true, true, true, true, true, true, true, false, false, false, false, false, false, false, false, false, false, false, false, false, false, false, false, false, false, false, false, false, false, false, false, false, false, false, false] rfl rfl (take_ofW HT_.out HW_.out z5_18) (fun _ _ _ h => h) (Or.inl ⟨by rfl, ?_⟩) hHeld ?_ ?_
                 rotate_left
                 ·
                  rintro w' ⟨s0, s1, s2, s3, s4, s5, s6, s7, s8, s9, s10, s11, s12, s13, s14, s15⟩
                  go_simp
                  with_reducible rfl
                 rotate_left
                 ·
                  exact z5_0
                 refine pure_ (i := 57) (N := some 120) (v := ?_) (a' := ?_) #[true, true, true, true, true, true, true, true, true, true, true, true, true, true, true, true, true, true, true, true, true, true, true, true, true, true, true, true, true, true, true, true, true, true, true, true, true, true, true, true, true, true, true, true, true, true, true, true, true, true, true, true, true, true, true, true, true, true, false, false, false, false, false, false, false, false, false, false, false, false, false, false, false, false, false, false, false, false, false, false, false, false, false, false, false] rfl rfl (any_of HT_.out z5_18) (fun _ _ _ h => h) (Or.inl ⟨by rfl, ?_⟩) ?_ ?_
                 rotate_left
                 ·
                  exact z5_10
                 rotate_left
                 ·
                  exact z5_0
                 refine pure_ (i := 58) (N := some 121) (v := ?_) (a' := ?_) #[true, true, true, true, true, true, true, true, true, true, true, true, true, true, true, true, true, true, true, true, true, true, true, true, true, true, true, true, true, true, true, true, true, true, true, true, true, true, true, true, true, true, true, true, true, true, true, true, true, true, true, true, true, true, true, true, true, true, true, false, false, false, false, false, false, false, false, false, false, false, false, false, false, false, false, false, false, false, false, false, false, false, false, false, false] rfl rfl (any_of HT_.out z5_18) (fun _ _ _ h => h) (Or.inl ⟨by rfl, ?_⟩) ?_ ?_
                 rotate_left
                 ·
                  exact z5_10
                 rotate_left
                 ·
                  exact z5_0
                 refine pure_ (i := 59) (N := some 122) (v := ?_) (a' := ?_) #[true, true, true, true, true, true, true, true, true, true, true, true, true, true, true, true, true, true, true, true, true, true, true, true, true, true, true, true, true, true, true, true, true, true, true, true, true, true, true, true, true, true, true, true, true, true, true, true, true, true, true, true, true, true, true, true, true, true, true, true, false, false, false, false, false, false, false, false, false, false, false, false, false, false, false, false, false, false, false, false, false, false, false, false, false] rfl rfl (any_of HT_.out z5_18) (fun _ _ _ h => h) (Or.inl ⟨by rfl, ?_⟩) ?_ ?_
                 rotate_left
                 ·
                  exact z5_10
                 rotate_left
                 ·
                  exact z5_0
                 refine take_ (i := 60) (N := some 123) (v := ?_) (a' := ?_) #[true, true, true, true, true, true, true, true, true, true, true, true, true, true, true, true, true, true, true, true, true, true, true, true, true, true, true, true, true, true, true, true, true, true, true, true, true, true, true, true, true, true, true, true, true, true, true, true, true, true, true, true, true, true, true, true, true, true, true, true, true, false, false, false, false, false, false, false, false, false, false, false, false, false, false, false, false, false, false, false, false, false, false, false, false] rfl rfl (take_ofW HT_.out HW_.out z5_18) (fun _ _ _ h => h) (Or.inl ⟨by rfl, ?_⟩) hHeld ?_ ?_
                 rotate_left
                 ·
                  rintro w' ⟨s0, s1, s2, s3, s4, s5, s6, s7, s8, s9, s10, s11, s12, s13, s14, s15⟩
                  go_simp
                  with_reducible rfl
                 rotate_left
                 ·
                  exact z5_0
                 refine take_ (i := 62) (N := some 125) (v := ?_) (a' := ?_) #[true, true, true, true, true, true, true, true, true, true, true, true, true, true, true, true, true, true, true, true, true, true, true, true, true, true, true, true, true, true, true, true, true, true, true, true, true, true, true, true, true, true, true, true, true, true, true, true, true, true, true, true, true, true, true, true, true, true, true, true, true, false, true, false, false, false, false, false, false, false, false, false, false, false, false, false, false, false, false, false, false, false, false, false, false] rfl rfl (take_ofW HT_.out HW_.out z5_18) (fun _ _ _ h => h) (Or.inl ⟨by rfl, ?_⟩) hHeld ?_ ?_
                 rotate_left
                 ·
                  rintro w' ⟨s0, s1, s2, s3, s4, s5, s6, s7, s8, s9, s10, s11, s12, s13, s14, s15⟩
                  go_simp
                  with_reducible rfl
                 rotate_left
                 ·
                  exact z5_0
                 refine one_ (i := 61) (N := some 124) #[true, true, true, true, true, true, true, true, true, true, true, true, true, true, true, true, true, true, true, true, true, true, true, true, true, true, true, true, true, true, true, true, true, true, true, true, true, true, true, true, true, true, true, true, true, true, true, true, true, true, true, true, true, true, true, true, true, true, true, true, true, true, true, false, false, false, false, false, false, false, false, false, false, false, false, false, false, false, false, false, false, false, false, false, false] rfl rfl (one_of HT_.out z5_18) (by decide) (fun K hK => ?_)
                 refine goes_ Try.func53 z5_18 rfl #[.agg #[.string t281, .int .i64 t282]] (by rfl) rfl rfl z5_7 ?_
                 with_reducible refine (impl_SyncedFile.calls t281 t282 t294 t295 _ A34.out).mono ?_
                 rintro e w118 ⟨rfl, hb⟩
                 refine ⟨_, rfl, ?_⟩
                 have n0_ := Aside0.mk (Kd.R_below z5_9 hb)
                 have n1_ := Aside0.mk (blk_below (g := gb250) (o := .cells #[.string t248, .int .i64 t249] 75 (0, 0)) z5_2 hb)
                 have n2_ := Aside0.mk (blk_below (g := gb257) (o := .cells #[.string t255, .int .i64 t256] 75 (0, 0)) z5_3 hb)
                 have n3_ := Aside0.mk (blk_below (g := gb261) (o := .cells #[.string t258, .int .i64 t259] 75 (0, 0)) z5_4 hb)
                 have n4_ := Aside0.mk (blk_below (g := gb264) (o := .cells #[.string t262, .int .i64 t263] 75 (0, 0)) z5_5 hb)
                 have n5_ := Aside0.mk (blk_below (g := gb268) (o := .cells #[.string t265, .int .i64 t266] 75 (0, 0)) z5_6 hb)
                 have n6_ := Aside0.mk (blk_below (g := gb272) (o := .cells #[.string t269, .int .i64 t270] 75 (0, 0)) z5_8 hb)
                 have n7_ := Aside0.mk (blk_below (g := gb276) (o := .cells #[.string t273, .int .i64 t274] 75 (0, 0)) z5_11 hb)
                 have n8_ := Aside0.mk (blk_below (g := gb280) (o := .cells #[.string t277, .int .i64 t278] 75 (0, 0)) z5_13 hb)
                 have n9_ := Aside0.mk (blk_below (g := gb283) (o := .cells #[.string t281, .int .i64 t282] 75 (0, 0)) z5_16 hb)
                 have n10_ := Aside0.mk (below_step z5_1 hb)
                 clear HO253
                 clear BK250
                 clear BK257
                 clear BK261
                 clear BK264
                 clear BK268
                 clear BK272
                 clear BK276
                 clear BK280
                 clear BK283
                 clear HB
                 have HO253 := n0_
                 have BK250 := n1_
                 have BK257 := n2_
                 have BK261 := n3_
                 have BK264 := n4_
                 have BK268 := n5_
                 have BK272 := n6_
                 have BK276 := n7_
                 have BK280 := n8_
                 have BK283 := n9_
                 have HB := n10_
                 clear n0_ n1_ n2_ n3_ n4_ n5_ n6_ n7_ n8_ n9_ n10_
                 (try clear hb)
                 (try clear hb2)
                 (try clear hk)
                 (try clear hi)
                 refine hK.out _ _ ⟨(blk_cell BK250.out 0).trans rfl, (blk_cell BK250.out 1).trans rfl, (blk_cell BK257.out 0).trans rfl, (blk_cell BK257.out 1).trans rfl, (blk_cell BK264.out 0).trans rfl, (blk_cell BK264.out 1).trans rfl, (blk_cell BK268.out 0).trans rfl, (blk_cell BK268.out 1).trans rfl, (blk_cell BK276.out 0).trans rfl, (blk_cell BK276.out 1).trans rfl, (blk_cell BK280.out 0).trans rfl, (blk_cell BK280.out 1).trans rfl, (blk_cell BK283.out 0).trans rfl, (blk_cell BK283.out 1).trans rfl, (blk_cell BK261.out 0).trans rfl, (blk_cell BK261.out 1).trans rfl⟩ (fun hHeld => ?_)
                 clear hK K
                 refine norm_ (a' := ?_) ?_ ?_
                 rotate_left
                 ·
                  show Act.put _ (some 124) _ = _
                  simp only [Act.put, List.setIfInBounds_toArray, List.set_cons_zero, List.set_cons_succ, i64_w, i32_w]
                  rfl
                 refine one_ (i := 63) (N := some 126) #[true, true, true, true, true, true, true, true, true, true, true, true, true, true, true, true, true, true, true, true, true, true, true, true, true, true, true, true, true, true, true, true, true, true, true, true, true, true, true, true, true, true, true, true, true, true, true, true, true, true, true, true, true, true, true, true, true, true, true, true, true, true, true, true, false, false, false, false, false, false, false, false, false, false, false, false, false, false, false, false, false, false, false, false, false] rfl rfl (one_of HT_.out z5_18) (by decide) (fun K hK => ?_)
                 refine goes_ Try.func61 z5_18 rfl #[.agg #[.string t281, .int .i64 t282]] (by rfl) rfl rfl z5_7 ?_
                 with_reducible refine (spec_SyncedFile.calls t281 t282 t296 t297 _ A35.out).mono ?_
                 rintro e w119 ⟨rfl, hb⟩
                 refine ⟨_, rfl, ?_⟩
                 have n0_ := Aside0.mk (Kd.R_below z5_9 hb)
                 have n1_ := Aside0.mk (blk_below (g := gb250) (o := .cells #[.string t248, .int .i64 t249] 75 (0, 0)) z5_2 hb)
                 have n2_ := Aside0.mk (blk_below (g := gb257) (o := .cells #[.string t255, .int .i64 t256] 75 (0, 0)) z5_3 hb)
                 have n3_ := Aside0.mk (blk_below (g := gb261) (o := .cells #[.string t258, .int .i64 t259] 75 (0, 0)) z5_4 hb)
                 have n4_ := Aside0.mk (blk_below (g := gb264) (o := .cells #[.string t262, .int .i64 t263] 75 (0, 0)) z5_5 hb)
                 have n5_ := Aside0.mk (blk_below (g := gb268) (o := .cells #[.string t265, .int .i64 t266] 75 (0, 0)) z5_6 hb)
                 have n6_ := Aside0.mk (blk_below (g := gb272) (o := .cells #[.string t269, .int .i64 t270] 75 (0, 0)) z5_8 hb)
                 have n7_ := Aside0.mk (blk_below (g := gb276) (o := .cells #[.string t273, .int .i64 t274] 75 (0, 0)) z5_11 hb)
                 have n8_ := Aside0.mk (blk_below (g := gb280) (o := .cells #[.string t277, .int .i64 t278] 75 (0, 0)) z5_13 hb)
                 have n9_ := Aside0.mk (blk_below (g := gb283) (o := .cells #[.string t281, .int .i64 t282] 75 (0, 0)) z5_16 hb)
                 have n10_ := Aside0.mk (below_step z5_1 hb)
                 clear HO253
                 clear BK250
                 clear BK257
                 clear BK261
                 clear BK264
                 clear BK268
                 clear BK272
                 clear BK276
                 clear BK280
                 clear BK283
                 clear HB
                 have HO253 := n0_
                 have BK250 := n1_
                 have BK257 := n2_
                 have BK261 := n3_
                 have BK264 := n4_
                 have BK268 := n5_
                 have BK272 := n6_
                 have BK276 := n7_
                 have BK280 := n8_
                 have BK283 := n9_
                 have HB := n10_
                 clear n0_ n1_ n2_ n3_ n4_ n5_ n6_ n7_ n8_ n9_ n10_
                 (try clear hb)
                 (try clear hb2)
                 (try clear hk)
                 (try clear hi)
                 refine hK.out _ _ ⟨(blk_cell BK250.out 0).trans rfl, (blk_cell BK250.out 1).trans rfl, (blk_cell BK257.out 0).trans rfl, (blk_cell BK257.out 1).trans rfl, (blk_cell BK264.out 0).trans rfl, (blk_cell BK264.out 1).trans rfl, (blk_cell BK268.out 0).trans rfl, (blk_cell BK268.out 1).trans rfl, (blk_cell BK276.out 0).trans rfl, (blk_cell BK276.out 1).trans rfl, (blk_cell BK280.out 0).trans rfl, (blk_cell BK280.out 1).trans rfl, (blk_cell BK283.out 0).trans rfl, (blk_cell BK283.out 1).trans rfl, (blk_cell BK261.out 0).trans rfl, (blk_cell BK261.out 1).trans rfl⟩ (fun hHeld => ?_)
                 clear hK K
                 refine norm_ (a' := ?_) ?_ ?_
                 rotate_left
                 ·
                  show Act.put _ (some 126) _ = _
                  simp only [Act.put, List.setIfInBounds_toArray, List.set_cons_zero, List.set_cons_succ, i64_w, i32_w]
                  rfl
                 refine pure_ (i := 64) (N := some 127) (v := ?_) (a' := ?_) #[true, true, true, true, true, true, true, true, true, true, true, true, true, true, true, true, true, true, true, true, true, true, true, true, true, true, true, true, true, true, true, true, true, true, true, true, true, true, true, true, true, true, true, true, true, true, true, true, true, true, true, true, true, true, true, true, true, true, true, true, true, true, true, true, true, false, false, false, false, false, false, false, false, false, false, false, false, false, false, false, false, false, false, false, false] rfl rfl (any_of HT_.out z5_18) (fun _ _ _ h => h) (Or.inl ⟨by rfl, ?_⟩) ?_ ?_
                 rotate_left
                 ·
                  exact z5_10
                 rotate_left
                 ·
                  exact z5_0
                 refine pure_ (i := 65) (N := some 128) (v := ?_) (a' := ?_) #[true, true, true, true, true, true, true, true, true, true, true, true, true, true, true, true, true, true, true, true, true, true, true, true, true, true, true, true, true, true, true, true, true, true, true, true, true, true, true, true, true, true, true, true, true, true, true, true, true, true, true, true, true, true, true, true, true, true, true, true, true, true, true, true, true, true, false, false, false, false, false, false, false, false, false, false, false, false, false, false, false, false, false, false, false] rfl rfl (any_of HT_.out z5_18) (fun _ _ _ h => h) (Or.inl ⟨by rfl, ?_⟩) ?_ ?_
                 rotate_left
                 ·
                  exact z5_10
                 rotate_left
                 ·
                  exact z5_0
                 refine pure_ (i := 66) (N := some 129) (v := ?_) (a' := ?_) #[true, true, true, true, true, true, true, true, true, true, true, true, true, true, true, true, true, true, true, true, true, true, true, true, true, true, true, true, true, true, true, true, true, true, true, true, true, true, true, true, true, true, true, true, true, true, true, true, true, true, true, true, true, true, true, true, true, true, true, true, true, true, true, true, true, true, true, false, false, false, false, false, false, false, false, false, false, false, false, false, false, false, false, false, false] rfl rfl (any_of HT_.out z5_18) (fun _ _ _ h => h) (Or.inl ⟨by rfl, ?_⟩) ?_ ?_
                 rotate_left
                 ·
                  exact z5_10
                 rotate_left
                 ·
                  exact z5_0
                 refine take_ (i := 67) (N := some 130) (v := ?_) (a' := ?_) #[true, true, true, true, true, true, true, true, true, true, true, true, true, true, true, true, true, true, true, true, true, true, true, true, true, true, true, true, true, true, true, true, true, true, true, true, true, true, true, true, true, true, true, true, true, true, true, true, true, true, true, true, true, true, true, true, true, true, true, true, true, true, true, true, true, true, true, true, false, false, false, false, false, false, false, false, false, false, false, false, false, false, false, false, false] rfl rfl (take_ofW HT_.out HW_.out z5_18) (fun _ _ _ h => h) (Or.inl ⟨by rfl, ?_⟩) hHeld ?_ ?_
                 rotate_left
                 ·
                  rintro w' ⟨s0, s1, s2, s3, s4, s5, s6, s7, s8, s9, s10, s11, s12, s13, s14, s15⟩
                  go_simp
                  with_reducible rfl
                 rotate_left
                 ·
                  exact z5_0
                 refine take_ (i := 69) (N := some 132) (v := ?_) (a' := ?_) #[true, true, true, true, true, true, true, true, true, true, true, true, true, true, true, true, true, true, true, true, true, true, true, true, true, true, true, true, true, true, true, true, true, true, true, true, true, true, true, true, true, true, true, true, true, true, true, true, true, true, true, true, true, true, true, true, true, true, true, true, true, true, true, true, true, true, true, true, false, true, false, false, false, false, false, false, false, false, false, false, false, false, false, false, false] rfl rfl (take_ofW HT_.out HW_.out z5_18) (fun _ _ _ h => h) (Or.inl ⟨by rfl, ?_⟩) hHeld ?_ ?_
                 rotate_left
                 ·
                  rintro w' ⟨s0, s1, s2, s3, s4, s5, s6, s7, s8, s9, s10, s11, s12, s13, s14, s15⟩
                  go_simp
                  with_reducible rfl
                 rotate_left
                 ·
                  exact z5_0
                 refine one_ (i := 68) (N := some 131) #[true, true, true, true, true, true, true, true, true, true, true, true, true, true, true, true, true, true, true, true, true, true, true, true, true, true, true, true, true, true, true, true, true, true, true, true, true, true, true, true, true, true, true, true, true, true, true, true, true, true, true, true, true, true, true, true, true, true, true, true, true, true, true, true, true, true, true, true, true, true, false, false, false, false, false, false, false, false, false, false, false, false, false, false, false] rfl rfl (one_of HT_.out z5_18) (by decide) (fun K hK => ?_)
                 refine goes_ Try.func59 z5_18 rfl #[.agg #[.string t265, .int .i64 t266]] (by rfl) rfl rfl z5_7 ?_
                 with_reducible refine (impl_FileOk.calls t265 t266 t298 _ A37.out).mono ?_
                 rintro e w120 ⟨rfl, hb⟩
                 refine ⟨_, rfl, ?_⟩
                 have n0_ := Aside0.mk (Kd.R_below z5_9 hb)
                 have n1_ := Aside0.mk (blk_below (g := gb250) (o := .cells #[.string t248, .int .i64 t249] 75 (0, 0)) z5_2 hb)
                 have n2_ := Aside0.mk (blk_below (g := gb257) (o := .cells #[.string t255, .int .i64 t256] 75 (0, 0)) z5_3 hb)
                 have n3_ := Aside0.mk (blk_below (g := gb261) (o := .cells #[.string t258, .int .i64 t259] 75 (0, 0)) z5_4 hb)
                 have n4_ := Aside0.mk (blk_below (g := gb264) (o := .cells #[.string t262, .int .i64 t263] 75 (0, 0)) z5_5 hb)
                 have n5_ := Aside0.mk (blk_below (g := gb268) (o := .cells #[.string t265, .int .i64 t266] 75 (0, 0)) z5_6 hb)
                 have n6_ := Aside0.mk (blk_below (g := gb272) (o := .cells #[.string t269, .int .i64 t270] 75 (0, 0)) z5_8 hb)
                 have n7_ := Aside0.mk (blk_below (g := gb276) (o := .cells #[.string t273, .int .i64 t274] 75 (0, 0)) z5_11 hb)
                 have n8_ := Aside0.mk (blk_below (g := gb280) (o := .cells #[.string t277, .int .i64 t278] 75 (0, 0)) z5_13 hb)
                 have n9_ := Aside0.mk (blk_below (g := gb283) (o := .cells #[.string t281, .int .i64 t282] 75 (0, 0)) z5_16 hb)
                 have n10_ := Aside0.mk (below_step z5_1 hb)
                 clear HO253
                 clear BK250
                 clear BK257
                 clear BK261
                 clear BK264
                 clear BK268
                 clear BK272
                 clear BK276
                 clear BK280
                 clear BK283
                 clear HB
                 have HO253 := n0_
                 have BK250 := n1_
                 have BK257 := n2_
                 have BK261 := n3_
                 have BK264 := n4_
                 have BK268 := n5_
                 have BK272 := n6_
                 have BK276 := n7_
                 have BK280 := n8_
                 have BK283 := n9_
                 have HB := n10_
                 clear n0_ n1_ n2_ n3_ n4_ n5_ n6_ n7_ n8_ n9_ n10_
                 (try clear hb)
                 (try clear hb2)
                 (try clear hk)
                 (try clear hi)
                 refine hK.out _ _ ⟨(blk_cell BK250.out 0).trans rfl, (blk_cell BK250.out 1).trans rfl, (blk_cell BK257.out 0).trans rfl, (blk_cell BK257.out 1).trans rfl, (blk_cell BK264.out 0).trans rfl, (blk_cell BK264.out 1).trans rfl, (blk_cell BK268.out 0).trans rfl, (blk_cell BK268.out 1).trans rfl, (blk_cell BK276.out 0).trans rfl, (blk_cell BK276.out 1).trans rfl, (blk_cell BK280.out 0).trans rfl, (blk_cell BK280.out 1).trans rfl, (blk_cell BK283.out 0).trans rfl, (blk_cell BK283.out 1).trans rfl, (blk_cell BK261.out 0).trans rfl, (blk_cell BK261.out 1).trans rfl⟩ (fun hHeld => ?_)
                 clear hK K
                 refine norm_ (a' := ?_) ?_ ?_
                 rotate_left
                 ·
                  show Act.put _ (some 131) _ = _
                  simp only [Act.put, List.setIfInBounds_toArray, List.set_cons_zero, List.set_cons_succ, i64_w, i32_w]
                  rfl
                 refine one_ (i := 70) (N := some 133) #[true, true, true, true, true, true, true, true, true, true, true, true, true, true, true, true, true, true, true, true, true, true, true, true, true, true, true, true, true, true, true, true, true, true, true, true, true, true, true, true, true, true, true, true, true, true, true, true, true, true, true, true, true, true, true, true, true, true, true, true, true, true, true, true, true, true, true, true, true, true, true, false, false, false, false, false, false, false, false, false, false, false, false, false, false] rfl rfl (one_of HT_.out z5_18) (by decide) (fun K hK => ?_)
                 refine goes_ Try.func62 z5_18 rfl #[.agg #[.string t265, .int .i64 t266]] (by rfl) rfl rfl z5_7 ?_
                 with_reducible refine (spec_FileOk.calls t265 t266 t299 _ A38.out).mono ?_
                 rintro e w121 ⟨rfl, hb⟩
                 refine ⟨_, rfl, ?_⟩
                 have n0_ := Aside0.mk (Kd.R_below z5_9 hb)
                 have n1_ := Aside0.mk (blk_below (g := gb250) (o := .cells #[.string t248, .int .i64 t249] 75 (0, 0)) z5_2 hb)
                 have n2_ := Aside0.mk (blk_below (g := gb257) (o := .cells #[.string t255, .int .i64 t256] 75 (0, 0)) z5_3 hb)
                 have n3_ := Aside0.mk (blk_below (g := gb261) (o := .cells #[.string t258, .int .i64 t259] 75 (0, 0)) z5_4 hb)
                 have n4_ := Aside0.mk (blk_below (g := gb264) (o := .cells #[.string t262, .int .i64 t263] 75 (0, 0)) z5_5 hb)
                 have n5_ := Aside0.mk (blk_below (g := gb268) (o := .cells #[.string t265, .int .i64 t266] 75 (0, 0)) z5_6 hb)
                 have n6_ := Aside0.mk (blk_below (g := gb272) (o := .cells #[.string t269, .int .i64 t270] 75 (0, 0)) z5_8 hb)
                 have n7_ := Aside0.mk (blk_below (g := gb276) (o := .cells #[.string t273, .int .i64 t274] 75 (0, 0)) z5_11 hb)
                 have n8_ := Aside0.mk (blk_below (g := gb280) (o := .cells #[.string t277, .int .i64 t278] 75 (0, 0)) z5_13 hb)
                 have n9_ := Aside0.mk (blk_below (g := gb283) (o := .cells #[.string t281, .int .i64 t282] 75 (0, 0)) z5_16 hb)
                 have n10_ := Aside0.mk (below_step z5_1 hb)
                 clear HO253
                 clear BK250
                 clear BK257
                 clear BK261
                 clear BK264
                 clear BK268
                 clear BK272
                 clear BK276
                 clear BK280
                 clear BK283
                 clear HB
                 have HO253 := n0_
                 have BK250 := n1_
                 have BK257 := n2_
                 have BK261 := n3_
                 have BK264 := n4_
                 have BK268 := n5_
                 have BK272 := n6_
                 have BK276 := n7_
                 have BK280 := n8_
                 have BK283 := n9_
                 have HB := n10_
                 clear n0_ n1_ n2_ n3_ n4_ n5_ n6_ n7_ n8_ n9_ n10_
                 (try clear hb)
                 (try clear hb2)
                 (try clear hk)
                 (try clear hi)
                 refine hK.out _ _ ⟨(blk_cell BK250.out 0).trans rfl, (blk_cell BK250.out 1).trans rfl, (blk_cell BK257.out 0).trans rfl, (blk_cell BK257.out 1).trans rfl, (blk_cell BK264.out 0).trans rfl, (blk_cell BK264.out 1).trans rfl, (blk_cell BK268.out 0).trans rfl, (blk_cell BK268.out 1).trans rfl, (blk_cell BK276.out 0).trans rfl, (blk_cell BK276.out 1).trans rfl, (blk_cell BK280.out 0).trans rfl, (blk_cell BK280.out 1).trans rfl, (blk_cell BK283.out 0).trans rfl, (blk_cell BK283.out 1).trans rfl, (blk_cell BK261.out 0).trans rfl, (blk_cell BK261.out 1).trans rfl⟩ (fun hHeld => ?_)
                 clear hK K
                 refine norm_ (a' := ?_) ?_ ?_
                 rotate_left
                 ·
                  show Act.put _ (some 133) _ = _
                  simp only [Act.put, List.setIfInBounds_toArray, List.set_cons_zero, List.set_cons_succ, i64_w, i32_w]
                  rfl
                 refine pure_ (i := 71) (N := some 134) (v := ?_) (a' := ?_) #[true, true, true, true, true, true, true, true, true, true, true, true, true, true, true, true, true, true, true, true, true, true, true, true, true, true, true, true, true, true, true, true, true, true, true, true, true, true, true, true, true, true, true, true, true, true, true, true, true, true, true, true, true, true, true, true, true, true, true, true, true, true, true, true, true, true, true, true, true, true, true, true, false, false, false, false, false, false, false, false, false, false, false, false, false] rfl rfl (any_of HT_.out z5_18) (fun _ _ _ h => h) (Or.inl ⟨by rfl, ?_⟩) ?_ ?_
                 rotate_left
                 ·
                  exact z5_10
                 rotate_left
                 ·
                  exact z5_0
                 refine pure_ (i := 72) (N := some 135) (v := ?_) (a' := ?_) #[true, true, true, true, true, true, true, true, true, true, true, true, true, true, true, true, true, true, true, true, true, true, true, true, true, true, true, true, true, true, true, true, true, true, true, true, true, true, true, true, true, true, true, true, true, true, true, true, true, true, true, true, true, true, true, true, true, true, true, true, true, true, true, true, true, true, true, true, true, true, true, true, true, false, false, false, false, false, false, false, false, false, false, false, false] rfl rfl (any_of HT_.out z5_18) (fun _ _ _ h => h) (Or.inl ⟨by rfl, ?_⟩) ?_ ?_
                 rotate_left
                 ·
                  exact z5_10
                 rotate_left
                 ·
                  exact z5_0
                 refine pure_ (i := 73) (N := some 136) (v := ?_) (a' := ?_) #[true, true, true, true, true, true, true, true, true, true, true, true, true, true, true, true, true, true, true, true, true, true, true, true, true, true, true, true, true, true, true, true, true, true, true, true, true, true, true, true, true, true, true, true, true, true, true, true, true, true, true, true, true, true, true, true, true, true, true, true, true, true, true, true, true, true, true, true, true, true, true, true, true, true, false, false, false, false, false, false, false, false, false, false, false] rfl rfl (any_of HT_.out z5_18) (fun _ _ _ h => h) (Or.inl ⟨by rfl, ?_⟩) ?_ ?_
                 rotate_left
                 ·
                  exact z5_10
                 rotate_left
                 ·
                  exact z5_0
                 refine pure_ (i := 77) (N := some 140) (v := ?_) (a' := ?_) #[true, true, true, true, true, true, true, true, true, true, true, true, true, true, true, true, true, true, true, true, true, true, true, true, true, true, true, true, true, true, true, true, true, true, true, true, true, true, true, true, true, true, true, true, true, true, true, true, true, true, true, true, true, true, true, true, true, true, true, true, true, true, true, true, true, true, true, true, true, true, true, true, true, true, false, false, false, true, false, false, false, false, false, false, false] rfl rfl (any_of HT_.out z5_18) (fun _ _ _ h => h) (Or.inl ⟨by rfl, ?_⟩) ?_ ?_
                 rotate_left
                 ·
                  exact z5_10
                 rotate_left
                 ·
                  exact z5_0
                 refine pure_ (i := 79) (N := some 142) (v := ?_) (a' := ?_) #[true, true, true, true, true, true, true, true, true, true, true, true, true, true, true, true, true, true, true, true, true, true, true, true, true, true, true, true, true, true, true, true, true, true, true, true, true, true, true, true, true, true, true, true, true, true, true, true, true, true, true, true, true, true, true, true, true, true, true, true, true, true, true, true, true, true, true, true, true, true, true, true, true, true, false, false, false, true, false, true, false, false, false, false, false] rfl rfl (any_of HT_.out z5_18) (fun _ _ _ h => h) (Or.inl ⟨by rfl, ?_⟩) ?_ ?_
                 rotate_left
                 ·
                  exact z5_10
                 rotate_left
                 ·
                  exact z5_0
                 refine take_ (i := 74) (N := some 137) (v := ?_) (a' := ?_) #[true, true, true, true, true, true, true, true, true, true, true, true, true, true, true, true, true, true, true, true, true, true, true, true, true, true, true, true, true, true, true, true, true, true, true, true, true, true, true, true, true, true, true, true, true, true, true, true, true, true, true, true, true, true, true, true, true, true, true, true, true, true, true, true, true, true, true, true, true, true, true, true, true, true, true, false, false, true, false, true, false, false, false, false, false] rfl rfl (take_ofW HT_.out HW_.out z5_18) (fun _ _ _ h => h) (Or.inl ⟨by rfl, ?_⟩) hHeld ?_ ?_
                 rotate_left
                 ·
                  rintro w' ⟨s0, s1, s2, s3, s4, s5, s6, s7, s8, s9, s10, s11, s12, s13, s14, s15⟩
                  go_simp
                  with_reducible rfl
                 rotate_left
                 ·
                  exact z5_0
                 refine take_ (i := 78) (N := some 141) (v := ?_) (a' := ?_) #[true, true, true, true, true, true, true, true, true, true, true, true, true, true, true, true, true, true, true, true, true, true, true, true, true, true, true, true, true, true, true, true, true, true, true, true, true, true, true, true, true, true, true, true, true, true, true, true, true, true, true, true, true, true, true, true, true, true, true, true, true, true, true, true, true, true, true, true, true, true, true, true, true, true, true, false, false, true, true, true, false, false, false, false, false] rfl rfl (take_ofW HT_.out HW_.out z5_18) (fun _ _ _ h => h) (Or.inl ⟨by rfl, ?_⟩) hHeld ?_ ?_
                 rotate_left
                 ·
                  rintro w' ⟨s0, s1, s2, s3, s4, s5, s6, s7, s8, s9, s10, s11, s12, s13, s14, s15⟩
                  go_simp
                  with_reducible rfl
                 rotate_left
                 ·
                  exact z5_0
                 refine take_ (i := 80) (N := some 143) (v := ?_) (a' := ?_) #[true, true, true, true, true, true, true, true, true, true, true, true, true, true, true, true, true, true, true, true, true, true, true, true, true, true, true, true, true, true, true, true, true, true, true, true, true, true, true, true, true, true, true, true, true, true, true, true, true, true, true, true, true, true, true, true, true, true, true, true, true, true, true, true, true, true, true, true, true, true, true, true, true, true, true, false, false, true, true, true, true, false, false, false, false] rfl rfl (take_ofW HT_.out HW_.out z5_18) (fun _ _ _ h => h) (Or.inl ⟨by rfl, ?_⟩) hHeld ?_ ?_
                 rotate_left
                 ·
                  rintro w' ⟨s0, s1, s2, s3, s4, s5, s6, s7, s8, s9, s10, s11, s12, s13, s14, s15⟩
                  go_simp
                  with_reducible rfl
                 rotate_left
                 ·
                  exact z5_0
                 refine pure_ (i := 81) (N := some 144) (v := ?_) (a' := ?_) #[true, true, true, true, true, true, true, true, true, true, true, true, true, true, true, true, true, true, true, true, true, true, true, true, true, true, true, true, true, true, true, true, true, true, true, true, true, true, true, true, true, true, true, true, true, true, true, true, true, true, true, true, true, true, true, true, true, true, true, true, true, true, true, true, true, true, true, true, true, true, true, true, true, true, true, false, false, true, true, true, true, true, false, false, false] rfl rfl (any_of HT_.out z5_18) (fun _ _ _ h => h) (Or.inl ⟨by rfl, ?_⟩) ?_ ?_
                 rotate_left
                 ·
                  exact z5_10
                 rotate_left
                 ·
                  exact z5_0
                 refine one_ (i := 75) (N := some 138) #[true, true, true, true, true, true, true, true, true, true, true, true, true, true, true, true, true, true, true, true, true, true, true, true, true, true, true, true, true, true, true, true, true, true, true, true, true, true, true, true, true, true, true, true, true, true, true, true, true, true, true, true, true, true, true, true, true, true, true, true, true, true, true, true, true, true, true, true, true, true, true, true, true, true, true, true, false, true, true, true, true, true, false, false, false] rfl rfl (one_of HT_.out z5_18) (by decide) (fun K hK => ?_)
                 refine goes_ Try.func51 z5_18 rfl #[.agg #[.string t258, .int .i64 t259], .int .i64 0] (by rfl) rfl rfl z5_7 ?_
                 with_reducible refine (impl_Crashed.calls t258 t259 0 t300 t301 _ A40.out).mono ?_
                 rintro e w122 ⟨rfl, hb⟩
                 refine ⟨_, rfl, ?_⟩
                 have n0_ := Aside0.mk (Kd.R_below z5_9 hb)
                 have n1_ := Aside0.mk (blk_below (g := gb250) (o := .cells #[.string t248, .int .i64 t249] 75 (0, 0)) z5_2 hb)
                 have n2_ := Aside0.mk (blk_below (g := gb257) (o := .cells #[.string t255, .int .i64 t256] 75 (0, 0)) z5_3 hb)
                 have n3_ := Aside0.mk (blk_below (g := gb261) (o := .cells #[.string t258, .int .i64 t259] 75 (0, 0)) z5_4 hb)
                 have n4_ := Aside0.mk (blk_below (g := gb264) (o := .cells #[.string t262, .int .i64 t263] 75 (0, 0)) z5_5 hb)
                 have n5_ := Aside0.mk (blk_below (g := gb268) (o := .cells #[.string t265, .int .i64 t266] 75 (0, 0)) z5_6 hb)
                 have n6_ := Aside0.mk (blk_below (g := gb272) (o := .cells #[.string t269, .int .i64 t270] 75 (0, 0)) z5_8 hb)
                 have n7_ := Aside0.mk (blk_below (g := gb276) (o := .cells #[.string t273, .int .i64 t274] 75 (0, 0)) z5_11 hb)
                 have n8_ := Aside0.mk (blk_below (g := gb280) (o := .cells #[.string t277, .int .i64 t278] 75 (0, 0)) z5_13 hb)
                 have n9_ := Aside0.mk (blk_below (g := gb283) (o := .cells #[.string t281, .int .i64 t282] 75 (0, 0)) z5_16 hb)
                 have n10_ := Aside0.mk (below_step z5_1 hb)
                 clear HO253
                 clear BK250
                 clear BK257
                 clear BK261
                 clear BK264
                 clear BK268
                 clear BK272
                 clear BK276
                 clear BK280
                 clear BK283
                 clear HB
                 have HO253 := n0_
                 have BK250 := n1_
                 have BK257 := n2_
                 have BK261 := n3_
                 have BK264 := n4_
                 have BK268 := n5_
                 have BK272 := n6_
                 have BK276 := n7_
                 have BK280 := n8_
                 have BK283 := n9_
                 have HB := n10_
                 clear n0_ n1_ n2_ n3_ n4_ n5_ n6_ n7_ n8_ n9_ n10_
                 (try clear hb)
                 (try clear hb2)
                 (try clear hk)
                 (try clear hi)
                 refine hK.out _ _ ⟨(blk_cell BK250.out 0).trans rfl, (blk_cell BK250.out 1).trans rfl, (blk_cell BK257.out 0).trans rfl, (blk_cell BK257.out 1).trans rfl, (blk_cell BK264.out 0).trans rfl, (blk_cell BK264.out 1).trans rfl, (blk_cell BK268.out 0).trans rfl, (blk_cell BK268.out 1).trans rfl, (blk_cell BK276.out 0).trans rfl, (blk_cell BK276.out 1).trans rfl, (blk_cell BK280.out 0).trans rfl, (blk_cell BK280.out 1).trans rfl, (blk_cell BK283.out 0).trans rfl, (blk_cell BK283.out 1).trans rfl, (blk_cell BK261.out 0).trans rfl, (blk_cell BK261.out 1).trans rfl⟩ (fun hHeld => ?_)
                 clear hK K
                 refine norm_ (a' := ?_) ?_ ?_
                 rotate_left
                 ·
                  show Act.put _ (some 138) _ = _
                  simp only [Act.put, List.setIfInBounds_toArray, List.set_cons_zero, List.set_cons_succ, i64_w, i32_w]
                  rfl
                 refine pure_ (i := 76) (N := some 139) (v := ?_) (a' := ?_) #[true, true, true, true, true, true, true, true, true, true, true, true, true, true, true, true, true, true, true, true, true, true, true, true, true, true, true, true, true, true, true, true, true, true, true, true, true, true, true, true, true, true, true, true, true, true, true, true, true, true, true, true, true, true, true, true, true, true, true, true, true, true, true, true, true, true, true, true, true, true, true, true, true, true, true, true, true, true, true, true, true, true, false, false, false] rfl rfl (any_of HT_.out z5_18) (fun _ _ _ h => h) (Or.inl ⟨by rfl, ?_⟩) ?_ ?_
                 rotate_left
                 ·
                  exact z5_10
                 rotate_left
                 ·
                  exact z5_0
                 refine pure_ (i := 82) (N := some 145) (v := ?_) (a' := ?_) #[true, true, true, true, true, true, true, true, true, true, true, true, true, true, true, true, true, true, true, true, true, true, true, true, true, true, true, true, true, true, true, true, true, true, true, true, true, true, true, true, true, true, true, true, true, true, true, true, true, true, true, true, true, true, true, true, true, true, true, true, true, true, true, true, true, true, true, true, true, true, true, true, true, true, true, true, true, true, true, true, true, true, true, false, false] rfl rfl (any_of HT_.out z5_18) (fun _ _ _ h => h) (Or.inl ⟨by rfl, ?_⟩) ?_ ?_
                 rotate_left
                 ·
                  exact z5_10
                 rotate_left
                 ·
                  exact z5_0
                 refine pure_ (i := 83) (N := some 146) (v := ?_) (a' := ?_) #[true, true, true, true, true, true, true, true, true, true, true, true, true, true, true, true, true, true, true, true, true, true, true, true, true, true, true, true, true, true, true, true, true, true, true, true, true, true, true, true, true, true, true, true, true, true, true, true, true, true, true, true, true, true, true, true, true, true, true, true, true, true, true, true, true, true, true, true, true, true, true, true, true, true, true, true, true, true, true, true, true, true, true, true, false] rfl rfl (any_of HT_.out z5_18) (fun _ _ _ h => h) (Or.inl ⟨by rfl, ?_⟩) ?_ ?_
                 rotate_left
                 ·
                  exact z5_10
                 rotate_left
                 ·
                  exact z5_0
                 refine pure_ (i := 84) (N := some 2) (v := ?_) (a' := ?_) #[true, true, true, true, true, true, true, true, true, true, true, true, true, true, true, true, true, true, true, true, true, true, true, true, true, true, true, true, true, true, true, true, true, true, true, true, true, true, true, true, true, true, true, true, true, true, true, true, true, true, true, true, true, true, true, true, true, true, true, true, true, true, true, true, true, true, true, true, true, true, true, true, true, true, true, true, true, true, true, true, true, true, true, true, true] rfl rfl (any_of HT_.out z5_18) (fun _ _ _ h => h) (Or.inl ⟨by rfl, ?_⟩) ?_ ?_
                 rotate_left
                 ·
                  exact z5_10
                 rotate_left
                 ·
                  exact z5_0
                 refine done_ (done_of HT_.out z5_18) ?_
                 try go_wp2
                 go_ret
                 exact ⟨by first | rfl | (simp [errW_none, errW_some] <;> rfl) | (simp [*, errW_none, errW_some] <;> rfl), z5_1⟩
                ·
                 rw [if_neg c39] at H
                 have c39b0 : (t298 == t299) = false := by simpa using c39
                 (try (have c39b1 : decide (t298 = t299) = false := by simpa using c39))
                 (try (have c39b2 : (t298 == t299) = false := by simpa using c39))
                 (try (have c39b3 : ¬ (t298 = t299) := by simpa using c39))
                 clear c39
                 exact absurd H (by simp)
               ·
                rw [if_neg c36] at H
                have c36b0 : (t294.toList == t296.toList && (t295 == t297)) = false := by simpa using c36
                (try (have c36b1 : decide (t294.toList = t296.toList && (t295 == t297)) = false := by simpa using c36))
                (try (have c36b2 : (t294.toList == t296.toList && (t295 == t297)) = false := by simpa using c36))
                (try (have c36b3 : ¬ (t294.toList = t296.toList && (t295 == t297)) := by simpa using c36))
                clear c36
                exact absurd H (by simp)
              ·
               rw [if_neg c33] at H
               have c33b0 : (t273.toList == t277.toList && (t274 == t278)) = false := by simpa using c33
               (try (have c33b1 : decide (t273.toList = t277.toList && (t274 == t278)) = false := by simpa using c33))
               (try (have c33b2 : (t273.toList == t277.toList && (t274 == t278)) = false := by simpa using c33))
               (try (have c33b3 : ¬ (t273.toList = t277.toList && (t274 == t278)) := by simpa using c33))
               clear c33
               exact absurd H (by simp)
             ·
              rw [if_neg c32] at H
              have c32b0 : (t275 == t279) = false := by simpa using c32
              (try (have c32b1 : decide (t275 = t279) = false := by simpa using c32))
              (try (have c32b2 : (t275 == t279) = false := by simpa using c32))
              (try (have c32b3 : ¬ (t275 = t279) := by simpa using c32))
              clear c32
              exact absurd H (by simp)
            ·
             rw [if_neg c31] at H
             have c31b0 : (t290.toList == t292.toList && (t291 == t293)) = false := by simpa using c31
             (try (have c31b1 : decide (t290.toList = t292.toList && (t291 == t293)) = false := by simpa using c31))
             (try (have c31b2 : (t290.toList == t292.toList && (t291 == t293)) = false := by simpa using c31))
             (try (have c31b3 : ¬ (t290.toList = t292.toList && (t291 == t293)) := by simpa using c31))
             clear c31
             exact absurd H (by simp)
           ·
            rw [if_neg c28] at H
            have c28b0 : (t288.toList == t262.toList && (t289 == t263)) = false := by simpa using c28
            (try (have c28b1 : decide (t288.toList = t262.toList && (t289 == t263)) = false := by simpa using c28))
            (try (have c28b2 : (t288.toList == t262.toList && (t289 == t263)) = false := by simpa using c28))
            (try (have c28b3 : ¬ (t288.toList = t262.toList && (t289 == t263)) := by simpa using c28))
            clear c28
            exact absurd H (by simp)
          ·
           replace c26 := Bool.eq_false_iff.mpr c26
           subst c26
           rw [if_neg (show ¬ (false = true) by decide)] at H
           exact absurd H (by simp)
         ·
          replace c25 := Bool.eq_false_iff.mpr c25
          subst c25
          rw [if_neg (show ¬ (false = true) by decide)] at H
          exact absurd H (by simp)
        ·
         replace c23 := Bool.eq_false_iff.mpr c23
         subst c23
         rw [if_neg (show ¬ (false = true) by decide)] at H
         exact absurd H (by simp)
       ·
        rw [if_neg c21] at H
        have c21b0 : (t256 == (t255.size : Int)) = false := beq_eq_false_iff_ne.mpr c21
        have c21b1 : (t256 != (t255.size : Int)) = true := bne_iff_ne.mpr c21
        exact absurd H (by simp)
      ·
       replace c20 := Bool.eq_false_iff.mpr c20
       subst c20
       rw [if_neg (show ¬ (false = true) by decide)] at H
       exact absurd H (by simp)
     ·
      replace c18 := Bool.eq_false_iff.mpr c18
      subst c18
      rw [if_neg (show ¬ (false = true) by decide)] at H
      exact absurd H (by simp)
    ·
     rw [if_neg c16] at H
     exact absurd H (by simp)
   ·
    rw [if_neg c15] at H
    exact absurd H (by simp)
  ·
   rw [if_neg c6] at H
   exact absurd H (by simp)

end Go.Proofs.Ytmohbiagcbfkpaa.QDraw
