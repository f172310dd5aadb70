/- What the functions behind RA compute, and that the program's calls come to just that. Written by a program of this session on the base of the kit's print. No condition. -/
import Derived.Test.YthajpckfodhhpaaVFnActsShort
import Derived.Test.YthajpckfodhhpaaVFnActsQRAx0
import Derived.Test.YthajpckfodhhpaaVFnActsQRAx2
import Derived.Test.YthajpckfodhhpaaVFnActsQRAx3
import Derived.Test.YthajpckfodhhpaaVFnActsQRAx8
import Derived.Test.YthajpckfodhhpaaVFnActsQRAx11
namespace Go.Proofs.Ythajpckfodhhpaa.QRA
open Go.RowKit Go.Proofs.Ythajpckfodhhpaa.Short Go.Proofs.YthajpckfodhhpaaW.PrintWords Go.Proofs.YthajpckfodhhpaaW.PrintLast Go.Proofs.YthajpckfodhhpaaW.PrintMore
attribute [local go_sem] max2_int min2_int max_two min_two max_three min_three max_four min_four   -- for this text's walks alone
set_option linter.unusedVariables false
set_option linter.unusedSimpArgs false
theorem z12_28 {P : Prop} (h : P := by first | omega | exact Nat.le_refl _) : P := h
theorem z12_27 {P : Prop} (h : P := by first | exact Kd.R_nil _ _ _ _ _ | exact Kd.N_nil _ _ _ _ _ | exact Kd.V_nil _ _ _ _ _ | exact Kd.Q_nil _ _ _ _ _ | exact Kd.S_nil _ _ _ _ _) : P := h
theorem z12_26 {P : Prop} (h : P := by intro w'; go_simp; with_reducible rfl) : P := h
theorem z12_25 {P : Prop} (h : P := by first | rfl | (simp [errW_none, errW_some] <;> rfl) | (simp [*, errW_none, errW_some] <;> rfl)) : P := h
theorem z12_24 {P : Prop} (h : P := by kernel_rfl) : P := h
theorem z12_23 {P : Prop} (h : P := by first | (with_reducible assumption) | assumption) : P := h
theorem z12_22 {P : Prop} (h : P := by first | rfl | (simp; done) | (simp [*]; done)) : P := h
theorem z12_21 {P : Prop} (h : P := by (with_reducible repeat (first | apply Kd.R_alloc | apply Kd.R_drewN | apply Kd.R_drew)); exact (Kd.R_mono (Kd.R_far (p := ⟨gb386, 5, none⟩) (Kd.R_types HO398.out BK386.out (by decide)) (fun _ hk => by first | exact hk.2 | trivial) (.string t406)) (fun _ h_ => h_.1))) : P := h
theorem z12_20 {P : Prop} (h : P := by (with_reducible repeat (first | apply Kd.R_alloc | apply Kd.R_drewN | apply Kd.R_drew)); exact (Kd.R_mono (Kd.R_far (p := ⟨gb386, 6, none⟩) (Kd.R_types HO398.out BK386.out (by decide)) (fun _ hk => by first | exact hk.2 | trivial) (.string t410)) (fun _ h_ => h_.1))) : P := h
theorem z12_19 {P : Prop} (h : P := by (with_reducible repeat (first | apply Kd.R_alloc | apply Kd.R_drewN | apply Kd.R_drew)); exact (Kd.R_mono (Kd.R_far (p := ⟨gb386, 4, none⟩) (Kd.R_types HO398.out BK386.out (by decide)) (fun _ hk => by first | exact hk.2 | trivial) (.int .i64 t402)) (fun _ h_ => h_.1))) : P := h
theorem z12_18 {P : Prop} (h : P := by (with_reducible repeat (first | apply Kd.R_alloc | apply Kd.R_drewN | apply Kd.R_drew)); exact (Kd.R_mono (Kd.R_far (p := ⟨gb386, 7, none⟩) (Kd.R_types HO398.out BK386.out (by decide)) (fun _ hk => by first | exact hk.2 | trivial) (.int .i64 t414)) (fun _ h_ => h_.1))) : P := h
theorem z12_17 {P : Prop} (h : P := by simp only [Act.put, List.setIfInBounds_toArray, List.set_cons_zero, List.set_cons_succ, i64_w, i32_w]; rfl) : P := h
theorem z12_16 {P : Prop} (h : P := by repeat (first | exact Drawn0.refl _ | apply Drawn0.step)) : P := h
theorem z12_15 {P : Prop} (h : P := by (with_reducible repeat (first | apply bp10_2 | refine blk_drewN ?_ _ | refine blk_drew ?_ | refine blk_alloc ?_ _)); exact BK386.out) : P := h
theorem z12_14 {P : Prop} (h : P := by (with_reducible repeat (first | apply bp10_3 | refine blk_drewN ?_ _ | refine blk_drew ?_ | refine blk_alloc ?_ _)); exact BK386.out) : P := h
theorem z12_13 {P : Prop} (h : P := by (with_reducible repeat (first | refine blk_drewN ?_ _ | refine blk_drew ?_ | refine blk_alloc ?_ _)); exact BK385.out) : P := h
theorem z12_12 {P : Prop} (h : P := by repeat (first | (with_reducible first | exact HB.out | apply below_alloc | apply pw_below_drewN | apply below_drew1) | exact HB.out)) : P := h
theorem z12_11 {P : Prop} (h : P := by (with_reducible repeat (first | apply Kd.R_alloc | apply Kd.R_drewN | apply Kd.R_drew)); exact (Kd.R_mono (Kd.R_far (p := ⟨gb386, 9, none⟩) (Kd.R_far (p := ⟨gb386, 8, none⟩) (Kd.R_types HO398.out BK386.out (by decide)) (fun _ hk => by first | exact hk.2 | trivial) (.int .i64 t418)) (fun _ hk => by first | exact hk.2 | trivial) (.int .i64 t419)) (fun _ h_ => h_.1))) : P := h
theorem z12_10 {P : Prop} (h : P := by repeat (first | (with_reducible first | exact HB.out | apply below_alloc | apply pw_below_drewN | apply below_drew1 | refine below_set ?_ GE384.out) | exact HB.out)) : P := h
theorem z12_9 {P : Prop} (h : P := by (with_reducible repeat (first | apply bp10_1 | apply bp10_0 | refine blk_drewN ?_ _ | refine blk_drew ?_ | refine blk_alloc ?_ _)); exact BK386.out) : P := h
theorem z12_8 {P : Prop} (h : P := by (with_reducible repeat (first | apply blk_far (hp := NB384_386.out) | refine blk_drewN ?_ _ | refine blk_drew ?_ | refine blk_alloc ?_ _)); exact BK384.out) : P := h
theorem z12_7 {P : Prop} (h : P := by repeat (first | (with_reducible first | exact HB.out | apply below_alloc | apply pw_below_drewN | apply below_drew1 | refine below_set ?_ GE384.out | refine below_set ?_ GE385.out) | exact HB.out)) : P := h
theorem z12_6 {P : Prop} (h : P := by repeat (first | (with_reducible first | exact HB.out | apply below_alloc | apply pw_below_drewN | apply below_drew1 | refine below_set ?_ (IsS52.ge HI385.out) | refine below_set ?_ GE384.out | refine below_set ?_ GE386.out) | exact HB.out)) : P := h
theorem z12_5 {P : Prop} (h : P := by (with_reducible repeat (first | refine blk_drewN ?_ _ | refine blk_drew ?_ | refine blk_alloc ?_ _)); exact BK384.out) : P := h
theorem z12_4 {P : Prop} (h : P := by first | rfl | (simp only [List.map_toArray, List.map_cons, List.map_nil]; first | done | rfl)) : P := h
theorem z12_2 {P : Prop} (h : P := by (with_reducible repeat (first | apply blk_far (hp := NB385_386.out) | refine blk_drewN ?_ _ | refine blk_drew ?_ | refine blk_alloc ?_ _)); exact BK385.out) : P := h
theorem z12_0 {P : Prop} (h : P := by (with_reducible repeat (first | apply bpa10 | refine blk_drewN ?_ _ | refine blk_drew ?_ | refine blk_alloc ?_ _)); exact BK386.out) : P := h
abbrev mk12_0 : Array Bool := mb 8 0
abbrev mk12_1 : Array Bool := mb 8 2
abbrev mk12_2 : Array Bool := mb 8 6
abbrev mk12_3 : Array Bool := mb 8 14
abbrev mk12_4 : Array Bool := mb 8 15
abbrev mk12_5 : Array Bool := mb 8 31
abbrev mk12_6 : Array Bool := mb 8 63
abbrev mk12_7 : Array Bool := mb 8 127
abbrev mk12_8 : Array Bool := mb 8 255
theorem z12_30 {P : Prop} (h : P := by repeat (first | (with_reducible first | exact HI385.out | apply IsS52.alloc | apply IsS52.drewN | apply IsS52.drew | apply IsS52.set_0 | apply IsS52.set_1 | apply IsS52.set_2 | refine IsS52.far ?_ NB385_384.out _ | refine IsS52.far ?_ NB385_386.out _) | exact HI385.out)) : P := h
def impl_ReadAct.f (k : Nat) (a0 : ByteArray) (a1 : Int) : Option (Int × Int × Int × List Int × Int × ByteArray × ByteArray × Int × Int × Int × Int × Bool) := (impl_scan_dot.f k a0 a1 false).bind fun bt387 => ((impl_scan_number.f k bt387.2.2.1 bt387.2.2.2.1 bt387.2.2.2.2).bind fun bt392 => ((impl_scan_know.f k bt392.2.1 bt392.2.2.1 bt392.2.2.2).bind fun bt396 => ((impl_scan_number.f k bt396.2.1 bt396.2.2.1 bt396.2.2.2).bind fun bt402 => ((impl_scan_short.f k bt402.2.1 bt402.2.2.1 bt402.2.2.2).bind fun bt406 => ((impl_scan_short.f k bt406.2.1 bt406.2.2.1 bt406.2.2.2).bind fun bt410 => ((impl_scan_number.f k bt410.2.1 bt410.2.2.1 bt410.2.2.2).bind fun bt414 => ((impl_scan_dot.f k bt414.2.1 bt414.2.2.1 bt414.2.2.2).bind fun bt418 => (if bt418.2.2.2.2 = true then (some (0, 0, 0, ([] : List Int), 0, (⟨#[]⟩ : ByteArray), (⟨#[]⟩ : ByteArray), 0, 0, 0, 0, false)) else ((impl_ActOk.f k bt387.1 bt387.2.1 bt392.1 bt396.1 bt402.1 bt406.1 bt410.1 bt414.1 bt418.1 bt418.2.1).bind fun t423 => (if t423 = true then (some (bt387.1, bt387.2.1, bt392.1, bt396.1, bt402.1, bt406.1, bt410.1, bt414.1, bt418.1, bt418.2.1, bt418.2.2.2.1, true)) else (some (0, 0, 0, ([] : List Int), 0, (⟨#[]⟩ : ByteArray), (⟨#[]⟩ : ByteArray), 0, 0, 0, 0, false))))))))))))
def impl_ReadAct.T13 : Bool × List (List Nat × List Nat) := (true, [([], []), ([], []), ([1], [1]), ([2], [2]), ([3], [3]), ([0, 0], [0]), ([4, 5, 0, 1, 2, 3, 4, 5], [4]), ([6, 0, 1, 2, 3, 4, 5, 6], [])])
def impl_ReadAct.B13 : List Nat := [0, 0, 2, 6, 14, 1, 63, 127]
theorem impl_ReadAct.tab13 : rtab .any (opsOf Try.f10 13) = impl_ReadAct.T13 := by kernel_rfl
theorem impl_ReadAct.bits13 : waitsOk impl_ReadAct.T13.2 impl_ReadAct.B13 = true := by kernel_rfl
set_option maxHeartbeats 8000000 in
set_option maxRecDepth 100000 in
theorem impl_ReadAct.calls (k : Nat) (a0 : ByteArray) (a1 : Int) (r1 : Int) (r2 : Int) (r3 : Int) (r4 : List Int) (r5 : Int) (r6 : ByteArray) (r7 : ByteArray) (r8 : Int) (r9 : Int) (r10 : Int) (r11 : Int) (r12 : Bool) (w : World) (h : impl_ReadAct.f k a0 a1 = some (r1, r2, r3, r4, r5, r6, r7, r8, r9, r10, r11, r12)) :
  Calls Try.prog 10 #[.string a0, .int .i64 a1] w fun e w' => ∃ v3_ : Value, e = .returned (.tuple #[.agg #[.int .i64 r1, .int .i64 r2, .int .i64 r3, v3_, .int .i64 r5, .string r6, .string r7, .int .i64 r8, .int .i64 r9, .int .i64 r10], .int .i64 r11, .bool r12]) ∧ Kd.R (Kd.int .i64) 3 w' w.heap.size (fun _ => True) v3_ r4 ∧ Below w.heap.size w w' := by
 have hu31 := Try.underlying31
 have hu52 := Try.underlying52
 have hu28 := Try.underlying28
 have HB := Aside0.mk (Below.refl w.heap.size w)
 have H := h
 unfold impl_ReadAct.f at H
 clear h
 replace H := Option.bind_eq_some_iff.mp H
 obtain ⟨⟨t387, t388, t389, t390, t391⟩, A30, H⟩ := H
 (try dsimp only at H)
 have A3 := Aside0.mk A30
 clear A30
 replace H := Option.bind_eq_some_iff.mp H
 obtain ⟨⟨t392, t393, t394, t395⟩, A40, H⟩ := H
 (try dsimp only at H)
 have A4 := Aside0.mk A40
 clear A40
 replace H := Option.bind_eq_some_iff.mp H
 obtain ⟨⟨t396, t399, t400, t401⟩, A50, H⟩ := H
 (try dsimp only at H)
 have A5 := Aside0.mk A50
 clear A50
 replace H := Option.bind_eq_some_iff.mp H
 obtain ⟨⟨t402, t403, t404, t405⟩, A60, H⟩ := H
 (try dsimp only at H)
 have A6 := Aside0.mk A60
 clear A60
 replace H := Option.bind_eq_some_iff.mp H
 obtain ⟨⟨t406, t407, t408, t409⟩, A70, H⟩ := H
 (try dsimp only at H)
 have A7 := Aside0.mk A70
 clear A70
 replace H := Option.bind_eq_some_iff.mp H
 obtain ⟨⟨t410, t411, t412, t413⟩, A80, H⟩ := H
 (try dsimp only at H)
 have A8 := Aside0.mk A80
 clear A80
 replace H := Option.bind_eq_some_iff.mp H
 obtain ⟨⟨t414, t415, t416, t417⟩, A90, H⟩ := H
 (try dsimp only at H)
 have A9 := Aside0.mk A90
 clear A90
 replace H := Option.bind_eq_some_iff.mp H
 obtain ⟨⟨t418, t419, t420, t421, t422⟩, A100, H⟩ := H
 (try dsimp only at H)
 have A10 := Aside0.mk A100
 clear A100
 by_cases c11 : t422 = true
 ·
  subst c11
  rw [if_pos rfl] at H
  simp only [Option.some.injEq, Prod.mk.injEq] at H
  obtain ⟨rfl, rfl, rfl, rfl, rfl, rfl, rfl, rfl, rfl, rfl, rfl, rfl⟩ := H
  go_enter Try.func10, Try.ntmps10
  go_wp2_with (first | ((with_reducible refine gate_dst (N := 4) rfl ?_); refine box_event ?hg (N := 4) ?hd (cs := #[.int .i64 0, .int .i64 0, .int .i64 0, .slice none 0 0, .int .i64 0, .string (⟨#[]⟩ : ByteArray), .string (⟨#[]⟩ : ByteArray), .int .i64 0, .int .i64 0, .int .i64 0]) (t := 31) ?hr ?_; (case hd => rfl); (case hg => rfl); (case hr => first | (go_simp; done) | (go_simp; rfl)); intro gb384 hg w12 hbox hb; have BK384 := Aside0.mk (hbox); have GW384 := gw_ w z12_12 hg; have GE384 := gw_ w z12_12 hg; replace HB := Aside0.mk (below_step z12_12 hb); clear hb hbox hg) | ((with_reducible refine gate_dst (N := 12) rfl ?_); refine box_event ?hg (N := 12) ?hd (cs := #[.string a0, .int .i64 a1, .bool false]) (t := 52) ?hr ?_; (case hd => rfl); (case hg => rfl); (case hr => first | (go_simp; done) | (go_simp; rfl)); intro gb385 hg w13 hbox hb; have BK385 := Aside0.mk (hbox); have GW385 := gw_ w z12_10 hg; have GE385 := gw_ w z12_10 hg; replace HB := Aside0.mk (below_step z12_10 hb); have NB384_385 := nb_ BK384 z12_5 hg; have NB385_384 := nc_ BK384 z12_5 hg; replace BK384 := bb_ BK384 z12_5 hb; clear hb hbox hg) | ((with_reducible refine gate_dst (N := 8) rfl ?_); refine box_event ?hg (N := 8) ?hd (cs := #[.int .i64 0, .int .i64 0, .int .i64 0, .slice none 0 0, .int .i64 0, .string (⟨#[]⟩ : ByteArray), .string (⟨#[]⟩ : ByteArray), .int .i64 0, .int .i64 0, .int .i64 0]) (t := 31) ?hr ?_; (case hd => rfl); (case hg => rfl); (case hr => first | (go_simp; done) | (go_simp; rfl)); intro gb386 hg w14 hbox hb; have BK386 := Aside0.mk (hbox); have GW386 := gw_ w z12_7 hg; have GE386 := gw_ w z12_7 hg; replace HB := Aside0.mk (below_step z12_7 hb); have NB384_386 := nb_ BK384 z12_5 hg; have NB386_384 := nc_ BK384 z12_5 hg; replace BK384 := bb_ BK384 z12_5 hb; have NB385_386 := nb_ BK385 z12_13 hg; have NB386_385 := nc_ BK385 z12_13 hg; replace BK385 := bb_ BK385 z12_13 hb; clear hb hbox hg; have hnb15 := NB386_384.out; have hnc15 := NB384_386.out; have hnb16 := NB386_385.out; have hnc16 := NB385_386.out; have hcz17 := bc10 BK386.out) | ((with_reducible refine gate_callee (f := 30) rfl ?_); refine goesL_ (some 15) rfl rfl Try.func30 z12_24 rfl #[.pointer (some ⟨gb385, 0, none⟩)] rfl z12_4 ?_; (with_reducible refine (impl_scan_dot.calls k gb385 a0 a1 false t387 t388 t389 t390 t391 w _ ?side1 ?side2 A3.out).mono ?_); (case side1 => exact ⟨z12_2, GW385.out⟩); (case side2 => exact z12_6); rintro e w18 ⟨rfl, hi, hb, hk⟩; refine ⟨_, rfl, ?_⟩; replace BK384 := kb_ BK384 hk z12_8 NB384_385; replace BK386 := Aside0.mk (KeepBut.blk hk (g' := gb386) (o := .cells #[.int .i64 0, .int .i64 0, .int .i64 0, .slice none 0 0, .int .i64 0, .string (⟨#[]⟩ : ByteArray), .string (⟨#[]⟩ : ByteArray), .int .i64 0, .int .i64 0, .int .i64 0] 31 (0, 0)) z12_0 NB386_385.out (by simp)); replace HB := Aside0.mk (hb); have HI385 := Aside0.mk (hi); clear BK385; have hcz19 := bc10 BK386.out) | ((with_reducible refine gate_callee (f := 31) rfl ?_); refine goesL_ (some 18) rfl rfl Try.func31 z12_24 rfl #[.pointer (some ⟨gb385, 0, none⟩)] rfl z12_4 ?_; (with_reducible refine (impl_scan_number.calls k gb385 t389 t390 t391 t392 t393 t394 t395 w _ ?side1 ?side2 A4.out).mono ?_); (case side1 => exact z12_30); (case side2 => exact z12_6); rintro e w20 ⟨rfl, hi, hb, hk⟩; refine ⟨_, rfl, ?_⟩; replace BK384 := kb_ BK384 hk z12_8 NB384_385; replace BK386 := Aside0.mk (KeepBut.blk hk (g' := gb386) (o := .cells #[.int .i64 t387, .int .i64 t388, .int .i64 0, .slice none 0 0, .int .i64 0, .string (⟨#[]⟩ : ByteArray), .string (⟨#[]⟩ : ByteArray), .int .i64 0, .int .i64 0, .int .i64 0] 31 (0, 0)) z12_9 NB386_385.out (by simp)); replace HB := Aside0.mk (hb); replace HI385 := Aside0.mk (hi); have hcz21 := bc10 BK386.out) | ((with_reducible refine gate_callee (f := 32) rfl ?_); refine goesL_ (some 21) rfl rfl Try.func32 z12_24 rfl #[.pointer (some ⟨gb385, 0, none⟩)] rfl z12_4 ?_; (with_reducible refine (impl_scan_know.calls k gb385 t393 t394 t395 t396 t399 t400 t401 w _ ?side1 ?side2 A5.out).mono ?_); (case side1 => exact z12_30); (case side2 => exact z12_6); rintro e w22 ⟨v397, rfl, ho0, hi, hb, hk⟩; refine ⟨_, rfl, ?_⟩; replace BK384 := kb_ BK384 hk z12_8 NB384_385; replace BK386 := Aside0.mk (KeepBut.blk hk (g' := gb386) (o := .cells #[.int .i64 t387, .int .i64 t388, .int .i64 t392, .slice none 0 0, .int .i64 0, .string (⟨#[]⟩ : ByteArray), .string (⟨#[]⟩ : ByteArray), .int .i64 0, .int .i64 0, .int .i64 0] 31 (0, 0)) z12_15 NB386_385.out (by simp)); have HO398 := Aside0.mk (Kd.R_lower ho0 (below_size z12_6)); replace HB := Aside0.mk (hb); replace HI385 := Aside0.mk (hi); (try clear ho0); obtain ⟨Ao23, co23, eo23⟩ := Kd.R_slice HO398.out; subst eo23; have hcz24 := bc10 BK386.out) | ((with_reducible refine gate_callee (f := 31) rfl ?_); refine goesL_ (some 24) rfl rfl Try.func31 z12_24 rfl #[.pointer (some ⟨gb385, 0, none⟩)] rfl z12_4 ?_; (with_reducible refine (impl_scan_number.calls k gb385 t399 t400 t401 t402 t403 t404 t405 w _ ?side1 ?side2 A6.out).mono ?_); (case side1 => exact z12_30); (case side2 => exact z12_6); rintro e w25 ⟨rfl, hi, hb, hk⟩; refine ⟨_, rfl, ?_⟩; replace BK384 := kb_ BK384 hk z12_8 NB384_385; replace HO398 := Aside0.mk (Kd.R_mono (Kd.R_keep (IsS52.apart (show IsS52 w _ gb385 t399 t400 t401 from by repeat (first | (with_reducible first | exact HI385.out | apply IsS52.alloc | apply IsS52.drewN | apply IsS52.drew | apply IsS52.set_0 | apply IsS52.set_1 | apply IsS52.set_2 | refine IsS52.far ?_ NB385_384.out _ | refine IsS52.far ?_ NB385_386.out _) | exact HI385.out)) (by (with_reducible repeat (first | apply Kd.R_alloc | apply Kd.R_drewN | apply Kd.R_drew)); exact (Kd.R_mono (Kd.R_far (p := ⟨gb386, 3, none⟩) (Kd.R_types HO398.out BK386.out (by decide)) (fun _ hk => by first | exact hk.2 | trivial) (.slice Ao23 t396.length co23)) (fun _ h_ => h_.1))) (by decide)) hk (fun _ h => h.2)) (fun _ h => h.1)); replace BK386 := Aside0.mk (KeepBut.blk hk (g' := gb386) (o := .cells #[.int .i64 t387, .int .i64 t388, .int .i64 t392, .slice Ao23 t396.length co23, .int .i64 0, .string (⟨#[]⟩ : ByteArray), .string (⟨#[]⟩ : ByteArray), .int .i64 0, .int .i64 0, .int .i64 0] 31 (0, 0)) z12_14 NB386_385.out (by simp)); replace HB := Aside0.mk (hb); replace HI385 := Aside0.mk (hi); have hcz26 := bc10 BK386.out) | ((with_reducible refine gate_callee (f := 33) rfl ?_); refine goesL_ (some 27) rfl rfl Try.func33 z12_24 rfl #[.pointer (some ⟨gb385, 0, none⟩)] rfl z12_4 ?_; (with_reducible refine (impl_scan_short.calls k gb385 t403 t404 t405 t406 t407 t408 t409 w _ ?side1 ?side2 A7.out).mono ?_); (case side1 => exact z12_30); (case side2 => exact z12_6); rintro e w27 ⟨rfl, hi, hb, hk⟩; refine ⟨_, rfl, ?_⟩; replace BK384 := kb_ BK384 hk z12_8 NB384_385; replace HO398 := Aside0.mk (Kd.R_mono (Kd.R_keep (IsS52.apart (show IsS52 w _ gb385 t403 t404 t405 from by repeat (first | (with_reducible first | exact HI385.out | apply IsS52.alloc | apply IsS52.drewN | apply IsS52.drew | apply IsS52.set_0 | apply IsS52.set_1 | apply IsS52.set_2 | refine IsS52.far ?_ NB385_384.out _ | refine IsS52.far ?_ NB385_386.out _) | exact HI385.out)) z12_19 (by decide)) hk (fun _ h => h.2)) (fun _ h => h.1)); replace BK386 := Aside0.mk (KeepBut.blk hk (g' := gb386) (o := .cells #[.int .i64 t387, .int .i64 t388, .int .i64 t392, .slice Ao23 t396.length co23, .int .i64 t402, .string (⟨#[]⟩ : ByteArray), .string (⟨#[]⟩ : ByteArray), .int .i64 0, .int .i64 0, .int .i64 0] 31 (0, 0)) (by (with_reducible repeat (first | apply bp10_4 | refine blk_drewN ?_ _ | refine blk_drew ?_ | refine blk_alloc ?_ _)); exact BK386.out) NB386_385.out (by simp)); replace HB := Aside0.mk (hb); replace HI385 := Aside0.mk (hi); have hcz28 := bc10 BK386.out) | ((with_reducible refine gate_callee (f := 33) rfl ?_); refine goesL_ (some 30) rfl rfl Try.func33 z12_24 rfl #[.pointer (some ⟨gb385, 0, none⟩)] rfl z12_4 ?_; (with_reducible refine (impl_scan_short.calls k gb385 t407 t408 t409 t410 t411 t412 t413 w _ ?side1 ?side2 A8.out).mono ?_); (case side1 => exact z12_30); (case side2 => exact z12_6); rintro e w29 ⟨rfl, hi, hb, hk⟩; refine ⟨_, rfl, ?_⟩; replace BK384 := kb_ BK384 hk z12_8 NB384_385; replace HO398 := Aside0.mk (Kd.R_mono (Kd.R_keep (IsS52.apart (show IsS52 w _ gb385 t407 t408 t409 from by repeat (first | (with_reducible first | exact HI385.out | apply IsS52.alloc | apply IsS52.drewN | apply IsS52.drew | apply IsS52.set_0 | apply IsS52.set_1 | apply IsS52.set_2 | refine IsS52.far ?_ NB385_384.out _ | refine IsS52.far ?_ NB385_386.out _) | exact HI385.out)) z12_21 (by decide)) hk (fun _ h => h.2)) (fun _ h => h.1)); replace BK386 := Aside0.mk (KeepBut.blk hk (g' := gb386) (o := .cells #[.int .i64 t387, .int .i64 t388, .int .i64 t392, .slice Ao23 t396.length co23, .int .i64 t402, .string t406, .string (⟨#[]⟩ : ByteArray), .int .i64 0, .int .i64 0, .int .i64 0] 31 (0, 0)) (by (with_reducible repeat (first | apply bp10_5 | refine blk_drewN ?_ _ | refine blk_drew ?_ | refine blk_alloc ?_ _)); exact BK386.out) NB386_385.out (by simp)); replace HB := Aside0.mk (hb); replace HI385 := Aside0.mk (hi); have hcz30 := bc10 BK386.out) | ((with_reducible refine gate_callee (f := 31) rfl ?_); refine goesL_ (some 33) rfl rfl Try.func31 z12_24 rfl #[.pointer (some ⟨gb385, 0, none⟩)] rfl z12_4 ?_; (with_reducible refine (impl_scan_number.calls k gb385 t411 t412 t413 t414 t415 t416 t417 w _ ?side1 ?side2 A9.out).mono ?_); (case side1 => exact z12_30); (case side2 => exact z12_6); rintro e w31 ⟨rfl, hi, hb, hk⟩; refine ⟨_, rfl, ?_⟩; replace BK384 := kb_ BK384 hk z12_8 NB384_385; replace HO398 := Aside0.mk (Kd.R_mono (Kd.R_keep (IsS52.apart (show IsS52 w _ gb385 t411 t412 t413 from by repeat (first | (with_reducible first | exact HI385.out | apply IsS52.alloc | apply IsS52.drewN | apply IsS52.drew | apply IsS52.set_0 | apply IsS52.set_1 | apply IsS52.set_2 | refine IsS52.far ?_ NB385_384.out _ | refine IsS52.far ?_ NB385_386.out _) | exact HI385.out)) z12_20 (by decide)) hk (fun _ h => h.2)) (fun _ h => h.1)); replace BK386 := Aside0.mk (KeepBut.blk hk (g' := gb386) (o := .cells #[.int .i64 t387, .int .i64 t388, .int .i64 t392, .slice Ao23 t396.length co23, .int .i64 t402, .string t406, .string t410, .int .i64 0, .int .i64 0, .int .i64 0] 31 (0, 0)) (by (with_reducible repeat (first | apply bp10_6 | refine blk_drewN ?_ _ | refine blk_drew ?_ | refine blk_alloc ?_ _)); exact BK386.out) NB386_385.out (by simp)); replace HB := Aside0.mk (hb); replace HI385 := Aside0.mk (hi); have hcz32 := bc10 BK386.out) | ((with_reducible refine gate_callee (f := 30) rfl ?_); refine goesL_ (some 36) rfl rfl Try.func30 z12_24 rfl #[.pointer (some ⟨gb385, 0, none⟩)] rfl z12_4 ?_; (with_reducible refine (impl_scan_dot.calls k gb385 t415 t416 t417 t418 t419 t420 t421 true w _ ?side1 ?side2 A10.out).mono ?_); (case side1 => exact z12_30); (case side2 => exact z12_6); rintro e w33 ⟨rfl, hi, hb, hk⟩; refine ⟨_, rfl, ?_⟩; replace BK384 := kb_ BK384 hk z12_8 NB384_385; replace HO398 := Aside0.mk (Kd.R_mono (Kd.R_keep (IsS52.apart (show IsS52 w _ gb385 t415 t416 t417 from by repeat (first | (with_reducible first | exact HI385.out | apply IsS52.alloc | apply IsS52.drewN | apply IsS52.drew | apply IsS52.set_0 | apply IsS52.set_1 | apply IsS52.set_2 | refine IsS52.far ?_ NB385_384.out _ | refine IsS52.far ?_ NB385_386.out _) | exact HI385.out)) z12_18 (by decide)) hk (fun _ h => h.2)) (fun _ h => h.1)); replace BK386 := Aside0.mk (KeepBut.blk hk (g' := gb386) (o := .cells #[.int .i64 t387, .int .i64 t388, .int .i64 t392, .slice Ao23 t396.length co23, .int .i64 t402, .string t406, .string t410, .int .i64 t414, .int .i64 0, .int .i64 0] 31 (0, 0)) (by (with_reducible repeat (first | apply bp10_7 | refine blk_drewN ?_ _ | refine blk_drew ?_ | refine blk_alloc ?_ _)); exact BK386.out) NB386_385.out (by simp)); replace HB := Aside0.mk (hb); replace HI385 := Aside0.mk (hi); have hcz34 := bc10 BK386.out; obtain ⟨HGz35, hgz35⟩ := HI385.out; have hcz35_0 := cellS52_0 HGz35; have hcz35_1 := cellS52_1 HGz35; have hcz35_2 := cellS52_2 HGz35; have hfz35_0 := blk_frozen HGz35 0; have hfz35_1 := blk_frozen HGz35 1; have hfz35_2 := blk_frozen HGz35 2; clear HGz35 hgz35; have hnb36 := NB384_385.out; have hnc36 := NB385_384.out; have hcz37 := bc10 BK384.out))
  refine bodyPost_ret (results_ctt rfl _ _ gb384 31 #[.int .i64 0, .int .i64 0, .int .i64 0, .slice none 0 0, .int .i64 0, .string (⟨#[]⟩ : ByteArray), .string (⟨#[]⟩ : ByteArray), .int .i64 0, .int .i64 0, .int .i64 0] (0, 0) _ rfl (by (with_reducible repeat (first | apply bpa10 | apply blk_far (hp := NB384_386.out) | refine blk_drewN ?_ _ | refine blk_drew ?_ | refine blk_alloc ?_ _)); exact BK384.out) Try.underlying31 rfl z12_24) rfl ?_
  exact ⟨_, z12_25, z12_27, z12_6⟩
 replace c11 := Bool.eq_false_iff.mpr c11
 subst c11
 rw [if_neg (show ¬ (false = true) by decide)] at H
 replace H := Option.bind_eq_some_iff.mp H
 obtain ⟨t423, A380, H⟩ := H
 (try dsimp only at H)
 have A38 := Aside0.mk A380
 clear A380
 by_cases c39 : t423 = true
 rotate_left
 ·
  replace c39 := Bool.eq_false_iff.mpr c39
  subst c39
  rw [if_neg (show ¬ (false = true) by decide)] at H
  simp only [Option.some.injEq, Prod.mk.injEq] at H
  obtain ⟨rfl, rfl, rfl, rfl, rfl, rfl, rfl, rfl, rfl, rfl, rfl, rfl⟩ := H
  go_enter Try.func10, Try.ntmps10
  go_wp2_with (first | ((with_reducible refine gate_dst (N := 4) rfl ?_); refine box_event ?hg (N := 4) ?hd (cs := #[.int .i64 0, .int .i64 0, .int .i64 0, .slice none 0 0, .int .i64 0, .string (⟨#[]⟩ : ByteArray), .string (⟨#[]⟩ : ByteArray), .int .i64 0, .int .i64 0, .int .i64 0]) (t := 31) ?hr ?_; (case hd => rfl); (case hg => rfl); (case hr => first | (go_simp; done) | (go_simp; rfl)); intro gb384 hg w76 hbox hb; have BK384 := Aside0.mk (hbox); have GW384 := gw_ w z12_12 hg; have GE384 := gw_ w z12_12 hg; replace HB := Aside0.mk (below_step z12_12 hb); clear hb hbox hg) | ((with_reducible refine gate_dst (N := 12) rfl ?_); refine box_event ?hg (N := 12) ?hd (cs := #[.string a0, .int .i64 a1, .bool false]) (t := 52) ?hr ?_; (case hd => rfl); (case hg => rfl); (case hr => first | (go_simp; done) | (go_simp; rfl)); intro gb385 hg w77 hbox hb; have BK385 := Aside0.mk (hbox); have GW385 := gw_ w z12_10 hg; have GE385 := gw_ w z12_10 hg; replace HB := Aside0.mk (below_step z12_10 hb); have NB384_385 := nb_ BK384 z12_5 hg; have NB385_384 := nc_ BK384 z12_5 hg; replace BK384 := bb_ BK384 z12_5 hb; clear hb hbox hg) | ((with_reducible refine gate_dst (N := 8) rfl ?_); refine box_event ?hg (N := 8) ?hd (cs := #[.int .i64 0, .int .i64 0, .int .i64 0, .slice none 0 0, .int .i64 0, .string (⟨#[]⟩ : ByteArray), .string (⟨#[]⟩ : ByteArray), .int .i64 0, .int .i64 0, .int .i64 0]) (t := 31) ?hr ?_; (case hd => rfl); (case hg => rfl); (case hr => first | (go_simp; done) | (go_simp; rfl)); intro gb386 hg w78 hbox hb; have BK386 := Aside0.mk (hbox); have GW386 := gw_ w z12_7 hg; have GE386 := gw_ w z12_7 hg; replace HB := Aside0.mk (below_step z12_7 hb); have NB384_386 := nb_ BK384 z12_5 hg; have NB386_384 := nc_ BK384 z12_5 hg; replace BK384 := bb_ BK384 z12_5 hb; have NB385_386 := nb_ BK385 z12_13 hg; have NB386_385 := nc_ BK385 z12_13 hg; replace BK385 := bb_ BK385 z12_13 hb; clear hb hbox hg; have hnb79 := NB386_384.out; have hnc79 := NB384_386.out; have hnb80 := NB386_385.out; have hnc80 := NB385_386.out; have hcz81 := bc10 BK386.out) | ((with_reducible refine gate_callee (f := 30) rfl ?_); refine goesL_ (some 15) rfl rfl Try.func30 z12_24 rfl #[.pointer (some ⟨gb385, 0, none⟩)] rfl z12_4 ?_; (with_reducible refine (impl_scan_dot.calls k gb385 a0 a1 false t387 t388 t389 t390 t391 w _ ?side1 ?side2 A3.out).mono ?_); (case side1 => exact ⟨z12_2, GW385.out⟩); (case side2 => exact z12_6); rintro e w82 ⟨rfl, hi, hb, hk⟩; refine ⟨_, rfl, ?_⟩; replace BK384 := kb_ BK384 hk z12_8 NB384_385; replace BK386 := Aside0.mk (KeepBut.blk hk (g' := gb386) (o := .cells #[.int .i64 0, .int .i64 0, .int .i64 0, .slice none 0 0, .int .i64 0, .string (⟨#[]⟩ : ByteArray), .string (⟨#[]⟩ : ByteArray), .int .i64 0, .int .i64 0, .int .i64 0] 31 (0, 0)) z12_0 NB386_385.out (by simp)); replace HB := Aside0.mk (hb); have HI385 := Aside0.mk (hi); clear BK385; have hcz83 := bc10 BK386.out) | ((with_reducible refine gate_callee (f := 31) rfl ?_); refine goesL_ (some 18) rfl rfl Try.func31 z12_24 rfl #[.pointer (some ⟨gb385, 0, none⟩)] rfl z12_4 ?_; (with_reducible refine (impl_scan_number.calls k gb385 t389 t390 t391 t392 t393 t394 t395 w _ ?side1 ?side2 A4.out).mono ?_); (case side1 => exact z12_30); (case side2 => exact z12_6); rintro e w84 ⟨rfl, hi, hb, hk⟩; refine ⟨_, rfl, ?_⟩; replace BK384 := kb_ BK384 hk z12_8 NB384_385; replace BK386 := Aside0.mk (KeepBut.blk hk (g' := gb386) (o := .cells #[.int .i64 t387, .int .i64 t388, .int .i64 0, .slice none 0 0, .int .i64 0, .string (⟨#[]⟩ : ByteArray), .string (⟨#[]⟩ : ByteArray), .int .i64 0, .int .i64 0, .int .i64 0] 31 (0, 0)) z12_9 NB386_385.out (by simp)); replace HB := Aside0.mk (hb); replace HI385 := Aside0.mk (hi); have hcz85 := bc10 BK386.out) | ((with_reducible refine gate_callee (f := 32) rfl ?_); refine goesL_ (some 21) rfl rfl Try.func32 z12_24 rfl #[.pointer (some ⟨gb385, 0, none⟩)] rfl z12_4 ?_; (with_reducible refine (impl_scan_know.calls k gb385 t393 t394 t395 t396 t399 t400 t401 w _ ?side1 ?side2 A5.out).mono ?_); (case side1 => exact z12_30); (case side2 => exact z12_6); rintro e w86 ⟨v397, rfl, ho0, hi, hb, hk⟩; refine ⟨_, rfl, ?_⟩; replace BK384 := kb_ BK384 hk z12_8 NB384_385; replace BK386 := Aside0.mk (KeepBut.blk hk (g' := gb386) (o := .cells #[.int .i64 t387, .int .i64 t388, .int .i64 t392, .slice none 0 0, .int .i64 0, .string (⟨#[]⟩ : ByteArray), .string (⟨#[]⟩ : ByteArray), .int .i64 0, .int .i64 0, .int .i64 0] 31 (0, 0)) z12_15 NB386_385.out (by simp)); have HO398 := Aside0.mk (Kd.R_lower ho0 (below_size z12_6)); replace HB := Aside0.mk (hb); replace HI385 := Aside0.mk (hi); (try clear ho0); obtain ⟨Ao87, co87, eo87⟩ := Kd.R_slice HO398.out; subst eo87; have hcz88 := bc10 BK386.out) | ((with_reducible refine gate_callee (f := 31) rfl ?_); refine goesL_ (some 24) rfl rfl Try.func31 z12_24 rfl #[.pointer (some ⟨gb385, 0, none⟩)] rfl z12_4 ?_; (with_reducible refine (impl_scan_number.calls k gb385 t399 t400 t401 t402 t403 t404 t405 w _ ?side1 ?side2 A6.out).mono ?_); (case side1 => exact z12_30); (case side2 => exact z12_6); rintro e w89 ⟨rfl, hi, hb, hk⟩; refine ⟨_, rfl, ?_⟩; replace BK384 := kb_ BK384 hk z12_8 NB384_385; replace HO398 := Aside0.mk (Kd.R_mono (Kd.R_keep (IsS52.apart (show IsS52 w _ gb385 t399 t400 t401 from by repeat (first | (with_reducible first | exact HI385.out | apply IsS52.alloc | apply IsS52.drewN | apply IsS52.drew | apply IsS52.set_0 | apply IsS52.set_1 | apply IsS52.set_2 | refine IsS52.far ?_ NB385_384.out _ | refine IsS52.far ?_ NB385_386.out _) | exact HI385.out)) (by (with_reducible repeat (first | apply Kd.R_alloc | apply Kd.R_drewN | apply Kd.R_drew)); exact (Kd.R_mono (Kd.R_far (p := ⟨gb386, 3, none⟩) (Kd.R_types HO398.out BK386.out (by decide)) (fun _ hk => by first | exact hk.2 | trivial) (.slice Ao87 t396.length co87)) (fun _ h_ => h_.1))) (by decide)) hk (fun _ h => h.2)) (fun _ h => h.1)); replace BK386 := Aside0.mk (KeepBut.blk hk (g' := gb386) (o := .cells #[.int .i64 t387, .int .i64 t388, .int .i64 t392, .slice Ao87 t396.length co87, .int .i64 0, .string (⟨#[]⟩ : ByteArray), .string (⟨#[]⟩ : ByteArray), .int .i64 0, .int .i64 0, .int .i64 0] 31 (0, 0)) z12_14 NB386_385.out (by simp)); replace HB := Aside0.mk (hb); replace HI385 := Aside0.mk (hi); have hcz90 := bc10 BK386.out) | ((with_reducible refine gate_callee (f := 33) rfl ?_); refine goesL_ (some 27) rfl rfl Try.func33 z12_24 rfl #[.pointer (some ⟨gb385, 0, none⟩)] rfl z12_4 ?_; (with_reducible refine (impl_scan_short.calls k gb385 t403 t404 t405 t406 t407 t408 t409 w _ ?side1 ?side2 A7.out).mono ?_); (case side1 => exact z12_30); (case side2 => exact z12_6); rintro e w91 ⟨rfl, hi, hb, hk⟩; refine ⟨_, rfl, ?_⟩; replace BK384 := kb_ BK384 hk z12_8 NB384_385; replace HO398 := Aside0.mk (Kd.R_mono (Kd.R_keep (IsS52.apart (show IsS52 w _ gb385 t403 t404 t405 from by repeat (first | (with_reducible first | exact HI385.out | apply IsS52.alloc | apply IsS52.drewN | apply IsS52.drew | apply IsS52.set_0 | apply IsS52.set_1 | apply IsS52.set_2 | refine IsS52.far ?_ NB385_384.out _ | refine IsS52.far ?_ NB385_386.out _) | exact HI385.out)) z12_19 (by decide)) hk (fun _ h => h.2)) (fun _ h => h.1)); replace BK386 := Aside0.mk (KeepBut.blk hk (g' := gb386) (o := .cells #[.int .i64 t387, .int .i64 t388, .int .i64 t392, .slice Ao87 t396.length co87, .int .i64 t402, .string (⟨#[]⟩ : ByteArray), .string (⟨#[]⟩ : ByteArray), .int .i64 0, .int .i64 0, .int .i64 0] 31 (0, 0)) (by (with_reducible repeat (first | apply bp10_4 | refine blk_drewN ?_ _ | refine blk_drew ?_ | refine blk_alloc ?_ _)); exact BK386.out) NB386_385.out (by simp)); replace HB := Aside0.mk (hb); replace HI385 := Aside0.mk (hi); have hcz92 := bc10 BK386.out) | ((with_reducible refine gate_callee (f := 33) rfl ?_); refine goesL_ (some 30) rfl rfl Try.func33 z12_24 rfl #[.pointer (some ⟨gb385, 0, none⟩)] rfl z12_4 ?_; (with_reducible refine (impl_scan_short.calls k gb385 t407 t408 t409 t410 t411 t412 t413 w _ ?side1 ?side2 A8.out).mono ?_); (case side1 => exact z12_30); (case side2 => exact z12_6); rintro e w93 ⟨rfl, hi, hb, hk⟩; refine ⟨_, rfl, ?_⟩; replace BK384 := kb_ BK384 hk z12_8 NB384_385; replace HO398 := Aside0.mk (Kd.R_mono (Kd.R_keep (IsS52.apart (show IsS52 w _ gb385 t407 t408 t409 from by repeat (first | (with_reducible first | exact HI385.out | apply IsS52.alloc | apply IsS52.drewN | apply IsS52.drew | apply IsS52.set_0 | apply IsS52.set_1 | apply IsS52.set_2 | refine IsS52.far ?_ NB385_384.out _ | refine IsS52.far ?_ NB385_386.out _) | exact HI385.out)) z12_21 (by decide)) hk (fun _ h => h.2)) (fun _ h => h.1)); replace BK386 := Aside0.mk (KeepBut.blk hk (g' := gb386) (o := .cells #[.int .i64 t387, .int .i64 t388, .int .i64 t392, .slice Ao87 t396.length co87, .int .i64 t402, .string t406, .string (⟨#[]⟩ : ByteArray), .int .i64 0, .int .i64 0, .int .i64 0] 31 (0, 0)) (by (with_reducible repeat (first | apply bp10_5 | refine blk_drewN ?_ _ | refine blk_drew ?_ | refine blk_alloc ?_ _)); exact BK386.out) NB386_385.out (by simp)); replace HB := Aside0.mk (hb); replace HI385 := Aside0.mk (hi); have hcz94 := bc10 BK386.out) | ((with_reducible refine gate_callee (f := 31) rfl ?_); refine goesL_ (some 33) rfl rfl Try.func31 z12_24 rfl #[.pointer (some ⟨gb385, 0, none⟩)] rfl z12_4 ?_; (with_reducible refine (impl_scan_number.calls k gb385 t411 t412 t413 t414 t415 t416 t417 w _ ?side1 ?side2 A9.out).mono ?_); (case side1 => exact z12_30); (case side2 => exact z12_6); rintro e w95 ⟨rfl, hi, hb, hk⟩; refine ⟨_, rfl, ?_⟩; replace BK384 := kb_ BK384 hk z12_8 NB384_385; replace HO398 := Aside0.mk (Kd.R_mono (Kd.R_keep (IsS52.apart (show IsS52 w _ gb385 t411 t412 t413 from by repeat (first | (with_reducible first | exact HI385.out | apply IsS52.alloc | apply IsS52.drewN | apply IsS52.drew | apply IsS52.set_0 | apply IsS52.set_1 | apply IsS52.set_2 | refine IsS52.far ?_ NB385_384.out _ | refine IsS52.far ?_ NB385_386.out _) | exact HI385.out)) z12_20 (by decide)) hk (fun _ h => h.2)) (fun _ h => h.1)); replace BK386 := Aside0.mk (KeepBut.blk hk (g' := gb386) (o := .cells #[.int .i64 t387, .int .i64 t388, .int .i64 t392, .slice Ao87 t396.length co87, .int .i64 t402, .string t406, .string t410, .int .i64 0, .int .i64 0, .int .i64 0] 31 (0, 0)) (by (with_reducible repeat (first | apply bp10_6 | refine blk_drewN ?_ _ | refine blk_drew ?_ | refine blk_alloc ?_ _)); exact BK386.out) NB386_385.out (by simp)); replace HB := Aside0.mk (hb); replace HI385 := Aside0.mk (hi); have hcz96 := bc10 BK386.out) | ((with_reducible refine gate_callee (f := 30) rfl ?_); refine goesL_ (some 36) rfl rfl Try.func30 z12_24 rfl #[.pointer (some ⟨gb385, 0, none⟩)] rfl z12_4 ?_; (with_reducible refine (impl_scan_dot.calls k gb385 t415 t416 t417 t418 t419 t420 t421 false w _ ?side1 ?side2 A10.out).mono ?_); (case side1 => exact z12_30); (case side2 => exact z12_6); rintro e w97 ⟨rfl, hi, hb, hk⟩; refine ⟨_, rfl, ?_⟩; replace BK384 := kb_ BK384 hk z12_8 NB384_385; replace HO398 := Aside0.mk (Kd.R_mono (Kd.R_keep (IsS52.apart (show IsS52 w _ gb385 t415 t416 t417 from by repeat (first | (with_reducible first | exact HI385.out | apply IsS52.alloc | apply IsS52.drewN | apply IsS52.drew | apply IsS52.set_0 | apply IsS52.set_1 | apply IsS52.set_2 | refine IsS52.far ?_ NB385_384.out _ | refine IsS52.far ?_ NB385_386.out _) | exact HI385.out)) z12_18 (by decide)) hk (fun _ h => h.2)) (fun _ h => h.1)); replace BK386 := Aside0.mk (KeepBut.blk hk (g' := gb386) (o := .cells #[.int .i64 t387, .int .i64 t388, .int .i64 t392, .slice Ao87 t396.length co87, .int .i64 t402, .string t406, .string t410, .int .i64 t414, .int .i64 0, .int .i64 0] 31 (0, 0)) (by (with_reducible repeat (first | apply bp10_7 | refine blk_drewN ?_ _ | refine blk_drew ?_ | refine blk_alloc ?_ _)); exact BK386.out) NB386_385.out (by simp)); replace HB := Aside0.mk (hb); replace HI385 := Aside0.mk (hi); have hcz98 := bc10 BK386.out; obtain ⟨HGz99, hgz99⟩ := HI385.out; have hcz99_0 := cellS52_0 HGz99; have hcz99_1 := cellS52_1 HGz99; have hcz99_2 := cellS52_2 HGz99; have hfz99_0 := blk_frozen HGz99 0; have hfz99_1 := blk_frozen HGz99 1; have hfz99_2 := blk_frozen HGz99 2; clear HGz99 hgz99) | (go_at_call 17; (with_reducible refine (impl_ActOk.calls k t387 t388 t392 _ _ t396 t402 t406 t410 t414 t418 t419 false _ ?side1 ?side2 A38.out).mono ?_); (case side1 => refine (Kd.R_reads' (e := 3) (base := w.heap.size) (ok := fun k_ => True) (n := t396.length) (c := co87) ?_).2.2; exact z12_11); (case side2 => exact (Kd.R_reads' HO398.out).2.1); rintro e w100 ⟨rfl, hb⟩; replace HO398 := Aside0.mk (Kd.R_below z12_11 hb); replace BK384 := bb_ BK384 z12_8 hb; replace BK386 := Aside0.mk (blk_below (g := gb386) (o := .cells #[.int .i64 t387, .int .i64 t388, .int .i64 t392, .slice Ao87 t396.length co87, .int .i64 t402, .string t406, .string t410, .int .i64 t414, .int .i64 t418, .int .i64 t419] 31 (0, 0)) (by (with_reducible repeat (first | apply bp10_9 | apply bp10_8 | refine blk_drewN ?_ _ | refine blk_drew ?_ | refine blk_alloc ?_ _)); exact BK386.out) hb); replace HB := Aside0.mk (below_step z12_6 hb); replace HI385 := Aside0.mk (IsS52.below (show IsS52 w ((w97.setCell ⟨gb386, 8, none⟩ (.int .i64 t418)).setCell ⟨gb386, 9, none⟩ (.int .i64 t419)) gb385 t420 t421 false from by repeat (first | (with_reducible first | exact HI385.out | apply IsS52.alloc | apply IsS52.drewN | apply IsS52.drew | apply IsS52.set_0 | apply IsS52.set_1 | apply IsS52.set_2 | refine IsS52.far ?_ NB385_384.out _ | refine IsS52.far ?_ NB385_386.out _) | exact HI385.out)) hb); have hnb101 := NB384_385.out; have hnc101 := NB385_384.out; have hcz102 := bc10 BK384.out))
  refine bodyPost_ret (results_ctt rfl _ _ gb384 31 #[.int .i64 0, .int .i64 0, .int .i64 0, .slice none 0 0, .int .i64 0, .string (⟨#[]⟩ : ByteArray), .string (⟨#[]⟩ : ByteArray), .int .i64 0, .int .i64 0, .int .i64 0] (0, 0) _ rfl (by (with_reducible repeat (first | apply bpa10 | refine blk_drewN ?_ _ | refine blk_drew ?_ | refine blk_alloc ?_ _)); exact BK384.out) Try.underlying31 rfl z12_24) rfl ?_
  exact ⟨_, z12_25, z12_27, z12_6⟩
 subst c39
 rw [if_pos rfl] at H
 simp only [Option.some.injEq, Prod.mk.injEq] at H
 obtain ⟨rfl, rfl, rfl, rfl, rfl, rfl, rfl, rfl, rfl, rfl, rfl, rfl⟩ := H
 go_enter Try.func10, Try.ntmps10
 try go_wp2_with (first | ((with_reducible refine gate_dst (N := 4) rfl ?_); refine box_event ?hg (N := 4) ?hd (cs := #[.int .i64 0, .int .i64 0, .int .i64 0, .slice none 0 0, .int .i64 0, .string (⟨#[]⟩ : ByteArray), .string (⟨#[]⟩ : ByteArray), .int .i64 0, .int .i64 0, .int .i64 0]) (t := 31) ?hr ?_; (case hd => rfl); (case hg => rfl); (case hr => first | (go_simp; done) | (go_simp; rfl)); intro gb384 hg w40 hbox hb; have BK384 := Aside0.mk (hbox); have GW384 := gw_ w z12_12 hg; have GE384 := gw_ w z12_12 hg; replace HB := Aside0.mk (below_step z12_12 hb); clear hb hbox hg) | ((with_reducible refine gate_dst (N := 12) rfl ?_); refine box_event ?hg (N := 12) ?hd (cs := #[.string a0, .int .i64 a1, .bool false]) (t := 52) ?hr ?_; (case hd => rfl); (case hg => rfl); (case hr => first | (go_simp; done) | (go_simp; rfl)); intro gb385 hg w41 hbox hb; have BK385 := Aside0.mk (hbox); have GW385 := gw_ w z12_10 hg; have GE385 := gw_ w z12_10 hg; replace HB := Aside0.mk (below_step z12_10 hb); have NB384_385 := nb_ BK384 z12_5 hg; have NB385_384 := nc_ BK384 z12_5 hg; replace BK384 := bb_ BK384 z12_5 hb; clear hb hbox hg) | ((with_reducible refine gate_dst (N := 8) rfl ?_); refine box_event ?hg (N := 8) ?hd (cs := #[.int .i64 0, .int .i64 0, .int .i64 0, .slice none 0 0, .int .i64 0, .string (⟨#[]⟩ : ByteArray), .string (⟨#[]⟩ : ByteArray), .int .i64 0, .int .i64 0, .int .i64 0]) (t := 31) ?hr ?_; (case hd => rfl); (case hg => rfl); (case hr => first | (go_simp; done) | (go_simp; rfl)); intro gb386 hg w42 hbox hb; have BK386 := Aside0.mk (hbox); have GW386 := gw_ w z12_7 hg; have GE386 := gw_ w z12_7 hg; replace HB := Aside0.mk (below_step z12_7 hb); have NB384_386 := nb_ BK384 z12_5 hg; have NB386_384 := nc_ BK384 z12_5 hg; replace BK384 := bb_ BK384 z12_5 hb; have NB385_386 := nb_ BK385 z12_13 hg; have NB386_385 := nc_ BK385 z12_13 hg; replace BK385 := bb_ BK385 z12_13 hb; clear hb hbox hg; have hnb43 := NB386_384.out; have hnc43 := NB384_386.out; have hnb44 := NB386_385.out; have hnc44 := NB385_386.out; have hcz45 := bc10 BK386.out) | ((with_reducible refine gate_callee (f := 30) rfl ?_); refine goesL_ (some 15) rfl rfl Try.func30 z12_24 rfl #[.pointer (some ⟨gb385, 0, none⟩)] rfl z12_4 ?_; (with_reducible refine (impl_scan_dot.calls k gb385 a0 a1 false t387 t388 t389 t390 t391 w _ ?side1 ?side2 A3.out).mono ?_); (case side1 => exact ⟨z12_2, GW385.out⟩); (case side2 => exact z12_6); rintro e w46 ⟨rfl, hi, hb, hk⟩; refine ⟨_, rfl, ?_⟩; replace BK384 := kb_ BK384 hk z12_8 NB384_385; replace BK386 := Aside0.mk (KeepBut.blk hk (g' := gb386) (o := .cells #[.int .i64 0, .int .i64 0, .int .i64 0, .slice none 0 0, .int .i64 0, .string (⟨#[]⟩ : ByteArray), .string (⟨#[]⟩ : ByteArray), .int .i64 0, .int .i64 0, .int .i64 0] 31 (0, 0)) z12_0 NB386_385.out (by simp)); replace HB := Aside0.mk (hb); have HI385 := Aside0.mk (hi); clear BK385; have hcz47 := bc10 BK386.out) | ((with_reducible refine gate_callee (f := 31) rfl ?_); refine goesL_ (some 18) rfl rfl Try.func31 z12_24 rfl #[.pointer (some ⟨gb385, 0, none⟩)] rfl z12_4 ?_; (with_reducible refine (impl_scan_number.calls k gb385 t389 t390 t391 t392 t393 t394 t395 w _ ?side1 ?side2 A4.out).mono ?_); (case side1 => exact z12_30); (case side2 => exact z12_6); rintro e w48 ⟨rfl, hi, hb, hk⟩; refine ⟨_, rfl, ?_⟩; replace BK384 := kb_ BK384 hk z12_8 NB384_385; replace BK386 := Aside0.mk (KeepBut.blk hk (g' := gb386) (o := .cells #[.int .i64 t387, .int .i64 t388, .int .i64 0, .slice none 0 0, .int .i64 0, .string (⟨#[]⟩ : ByteArray), .string (⟨#[]⟩ : ByteArray), .int .i64 0, .int .i64 0, .int .i64 0] 31 (0, 0)) z12_9 NB386_385.out (by simp)); replace HB := Aside0.mk (hb); replace HI385 := Aside0.mk (hi); have hcz49 := bc10 BK386.out) | ((with_reducible refine gate_callee (f := 32) rfl ?_); refine goesL_ (some 21) rfl rfl Try.func32 z12_24 rfl #[.pointer (some ⟨gb385, 0, none⟩)] rfl z12_4 ?_; (with_reducible refine (impl_scan_know.calls k gb385 t393 t394 t395 t396 t399 t400 t401 w _ ?side1 ?side2 A5.out).mono ?_); (case side1 => exact z12_30); (case side2 => exact z12_6); rintro e w50 ⟨v397, rfl, ho0, hi, hb, hk⟩; refine ⟨_, rfl, ?_⟩; replace BK384 := kb_ BK384 hk z12_8 NB384_385; replace BK386 := Aside0.mk (KeepBut.blk hk (g' := gb386) (o := .cells #[.int .i64 t387, .int .i64 t388, .int .i64 t392, .slice none 0 0, .int .i64 0, .string (⟨#[]⟩ : ByteArray), .string (⟨#[]⟩ : ByteArray), .int .i64 0, .int .i64 0, .int .i64 0] 31 (0, 0)) z12_15 NB386_385.out (by simp)); have HO398 := Aside0.mk (Kd.R_lower ho0 (below_size z12_6)); replace HB := Aside0.mk (hb); replace HI385 := Aside0.mk (hi); (try clear ho0); obtain ⟨Ao51, co51, eo51⟩ := Kd.R_slice HO398.out; subst eo51; have hcz52 := bc10 BK386.out) | ((with_reducible refine gate_callee (f := 31) rfl ?_); refine goesL_ (some 24) rfl rfl Try.func31 z12_24 rfl #[.pointer (some ⟨gb385, 0, none⟩)] rfl z12_4 ?_; (with_reducible refine (impl_scan_number.calls k gb385 t399 t400 t401 t402 t403 t404 t405 w _ ?side1 ?side2 A6.out).mono ?_); (case side1 => exact z12_30); (case side2 => exact z12_6); rintro e w53 ⟨rfl, hi, hb, hk⟩; refine ⟨_, rfl, ?_⟩; replace BK384 := kb_ BK384 hk z12_8 NB384_385; replace HO398 := Aside0.mk (Kd.R_mono (Kd.R_keep (IsS52.apart (show IsS52 w _ gb385 t399 t400 t401 from by repeat (first | (with_reducible first | exact HI385.out | apply IsS52.alloc | apply IsS52.drewN | apply IsS52.drew | apply IsS52.set_0 | apply IsS52.set_1 | apply IsS52.set_2 | refine IsS52.far ?_ NB385_384.out _ | refine IsS52.far ?_ NB385_386.out _) | exact HI385.out)) (by (with_reducible repeat (first | apply Kd.R_alloc | apply Kd.R_drewN | apply Kd.R_drew)); exact (Kd.R_mono (Kd.R_far (p := ⟨gb386, 3, none⟩) (Kd.R_types HO398.out BK386.out (by decide)) (fun _ hk => by first | exact hk.2 | trivial) (.slice Ao51 t396.length co51)) (fun _ h_ => h_.1))) (by decide)) hk (fun _ h => h.2)) (fun _ h => h.1)); replace BK386 := Aside0.mk (KeepBut.blk hk (g' := gb386) (o := .cells #[.int .i64 t387, .int .i64 t388, .int .i64 t392, .slice Ao51 t396.length co51, .int .i64 0, .string (⟨#[]⟩ : ByteArray), .string (⟨#[]⟩ : ByteArray), .int .i64 0, .int .i64 0, .int .i64 0] 31 (0, 0)) z12_14 NB386_385.out (by simp)); replace HB := Aside0.mk (hb); replace HI385 := Aside0.mk (hi); have hcz54 := bc10 BK386.out) | ((with_reducible refine gate_callee (f := 33) rfl ?_); refine goesL_ (some 27) rfl rfl Try.func33 z12_24 rfl #[.pointer (some ⟨gb385, 0, none⟩)] rfl z12_4 ?_; (with_reducible refine (impl_scan_short.calls k gb385 t403 t404 t405 t406 t407 t408 t409 w _ ?side1 ?side2 A7.out).mono ?_); (case side1 => exact z12_30); (case side2 => exact z12_6); rintro e w55 ⟨rfl, hi, hb, hk⟩; refine ⟨_, rfl, ?_⟩; replace BK384 := kb_ BK384 hk z12_8 NB384_385; replace HO398 := Aside0.mk (Kd.R_mono (Kd.R_keep (IsS52.apart (show IsS52 w _ gb385 t403 t404 t405 from by repeat (first | (with_reducible first | exact HI385.out | apply IsS52.alloc | apply IsS52.drewN | apply IsS52.drew | apply IsS52.set_0 | apply IsS52.set_1 | apply IsS52.set_2 | refine IsS52.far ?_ NB385_384.out _ | refine IsS52.far ?_ NB385_386.out _) | exact HI385.out)) z12_19 (by decide)) hk (fun _ h => h.2)) (fun _ h => h.1)); replace BK386 := Aside0.mk (KeepBut.blk hk (g' := gb386) (o := .cells #[.int .i64 t387, .int .i64 t388, .int .i64 t392, .slice Ao51 t396.length co51, .int .i64 t402, .string (⟨#[]⟩ : ByteArray), .string (⟨#[]⟩ : ByteArray), .int .i64 0, .int .i64 0, .int .i64 0] 31 (0, 0)) (by (with_reducible repeat (first | apply bp10_4 | refine blk_drewN ?_ _ | refine blk_drew ?_ | refine blk_alloc ?_ _)); exact BK386.out) NB386_385.out (by simp)); replace HB := Aside0.mk (hb); replace HI385 := Aside0.mk (hi); have hcz56 := bc10 BK386.out) | ((with_reducible refine gate_callee (f := 33) rfl ?_); refine goesL_ (some 30) rfl rfl Try.func33 z12_24 rfl #[.pointer (some ⟨gb385, 0, none⟩)] rfl z12_4 ?_; (with_reducible refine (impl_scan_short.calls k gb385 t407 t408 t409 t410 t411 t412 t413 w _ ?side1 ?side2 A8.out).mono ?_); (case side1 => exact z12_30); (case side2 => exact z12_6); rintro e w57 ⟨rfl, hi, hb, hk⟩; refine ⟨_, rfl, ?_⟩; replace BK384 := kb_ BK384 hk z12_8 NB384_385; replace HO398 := Aside0.mk (Kd.R_mono (Kd.R_keep (IsS52.apart (show IsS52 w _ gb385 t407 t408 t409 from by repeat (first | (with_reducible first | exact HI385.out | apply IsS52.alloc | apply IsS52.drewN | apply IsS52.drew | apply IsS52.set_0 | apply IsS52.set_1 | apply IsS52.set_2 | refine IsS52.far ?_ NB385_384.out _ | refine IsS52.far ?_ NB385_386.out _) | exact HI385.out)) z12_21 (by decide)) hk (fun _ h => h.2)) (fun _ h => h.1)); replace BK386 := Aside0.mk (KeepBut.blk hk (g' := gb386) (o := .cells #[.int .i64 t387, .int .i64 t388, .int .i64 t392, .slice Ao51 t396.length co51, .int .i64 t402, .string t406, .string (⟨#[]⟩ : ByteArray), .int .i64 0, .int .i64 0, .int .i64 0] 31 (0, 0)) (by (with_reducible repeat (first | apply bp10_5 | refine blk_drewN ?_ _ | refine blk_drew ?_ | refine blk_alloc ?_ _)); exact BK386.out) NB386_385.out (by simp)); replace HB := Aside0.mk (hb); replace HI385 := Aside0.mk (hi); have hcz58 := bc10 BK386.out) | ((with_reducible refine gate_callee (f := 31) rfl ?_); refine goesL_ (some 33) rfl rfl Try.func31 z12_24 rfl #[.pointer (some ⟨gb385, 0, none⟩)] rfl z12_4 ?_; (with_reducible refine (impl_scan_number.calls k gb385 t411 t412 t413 t414 t415 t416 t417 w _ ?side1 ?side2 A9.out).mono ?_); (case side1 => exact z12_30); (case side2 => exact z12_6); rintro e w59 ⟨rfl, hi, hb, hk⟩; refine ⟨_, rfl, ?_⟩; replace BK384 := kb_ BK384 hk z12_8 NB384_385; replace HO398 := Aside0.mk (Kd.R_mono (Kd.R_keep (IsS52.apart (show IsS52 w _ gb385 t411 t412 t413 from by repeat (first | (with_reducible first | exact HI385.out | apply IsS52.alloc | apply IsS52.drewN | apply IsS52.drew | apply IsS52.set_0 | apply IsS52.set_1 | apply IsS52.set_2 | refine IsS52.far ?_ NB385_384.out _ | refine IsS52.far ?_ NB385_386.out _) | exact HI385.out)) z12_20 (by decide)) hk (fun _ h => h.2)) (fun _ h => h.1)); replace BK386 := Aside0.mk (KeepBut.blk hk (g' := gb386) (o := .cells #[.int .i64 t387, .int .i64 t388, .int .i64 t392, .slice Ao51 t396.length co51, .int .i64 t402, .string t406, .string t410, .int .i64 0, .int .i64 0, .int .i64 0] 31 (0, 0)) (by (with_reducible repeat (first | apply bp10_6 | refine blk_drewN ?_ _ | refine blk_drew ?_ | refine blk_alloc ?_ _)); exact BK386.out) NB386_385.out (by simp)); replace HB := Aside0.mk (hb); replace HI385 := Aside0.mk (hi); have hcz60 := bc10 BK386.out) | ((with_reducible refine gate_callee (f := 30) rfl ?_); refine goesL_ (some 36) rfl rfl Try.func30 z12_24 rfl #[.pointer (some ⟨gb385, 0, none⟩)] rfl z12_4 ?_; (with_reducible refine (impl_scan_dot.calls k gb385 t415 t416 t417 t418 t419 t420 t421 false w _ ?side1 ?side2 A10.out).mono ?_); (case side1 => exact z12_30); (case side2 => exact z12_6); rintro e w61 ⟨rfl, hi, hb, hk⟩; refine ⟨_, rfl, ?_⟩; replace BK384 := kb_ BK384 hk z12_8 NB384_385; replace HO398 := Aside0.mk (Kd.R_mono (Kd.R_keep (IsS52.apart (show IsS52 w _ gb385 t415 t416 t417 from by repeat (first | (with_reducible first | exact HI385.out | apply IsS52.alloc | apply IsS52.drewN | apply IsS52.drew | apply IsS52.set_0 | apply IsS52.set_1 | apply IsS52.set_2 | refine IsS52.far ?_ NB385_384.out _ | refine IsS52.far ?_ NB385_386.out _) | exact HI385.out)) z12_18 (by decide)) hk (fun _ h => h.2)) (fun _ h => h.1)); replace BK386 := Aside0.mk (KeepBut.blk hk (g' := gb386) (o := .cells #[.int .i64 t387, .int .i64 t388, .int .i64 t392, .slice Ao51 t396.length co51, .int .i64 t402, .string t406, .string t410, .int .i64 t414, .int .i64 0, .int .i64 0] 31 (0, 0)) (by (with_reducible repeat (first | apply bp10_7 | refine blk_drewN ?_ _ | refine blk_drew ?_ | refine blk_alloc ?_ _)); exact BK386.out) NB386_385.out (by simp)); replace HB := Aside0.mk (hb); replace HI385 := Aside0.mk (hi); have hcz62 := bc10 BK386.out; obtain ⟨HGz63, hgz63⟩ := HI385.out; have hcz63_0 := cellS52_0 HGz63; have hcz63_1 := cellS52_1 HGz63; have hcz63_2 := cellS52_2 HGz63; have hfz63_0 := blk_frozen HGz63 0; have hfz63_1 := blk_frozen HGz63 1; have hfz63_2 := blk_frozen HGz63 2; clear HGz63 hgz63) | (go_at_call 17; (with_reducible refine (impl_ActOk.calls k t387 t388 t392 _ _ t396 t402 t406 t410 t414 t418 t419 true _ ?side1 ?side2 A38.out).mono ?_); (case side1 => refine (Kd.R_reads' (e := 3) (base := w.heap.size) (ok := fun k_ => True) (n := t396.length) (c := co51) ?_).2.2; exact z12_11); (case side2 => exact (Kd.R_reads' HO398.out).2.1); rintro e w64 ⟨rfl, hb⟩; replace HO398 := Aside0.mk (Kd.R_below z12_11 hb); replace BK384 := bb_ BK384 z12_8 hb; replace BK386 := Aside0.mk (blk_below (g := gb386) (o := .cells #[.int .i64 t387, .int .i64 t388, .int .i64 t392, .slice Ao51 t396.length co51, .int .i64 t402, .string t406, .string t410, .int .i64 t414, .int .i64 t418, .int .i64 t419] 31 (0, 0)) (by (with_reducible repeat (first | apply bp10_9 | apply bp10_8 | refine blk_drewN ?_ _ | refine blk_drew ?_ | refine blk_alloc ?_ _)); exact BK386.out) hb); replace HB := Aside0.mk (below_step z12_6 hb); replace HI385 := Aside0.mk (IsS52.below (show IsS52 w ((w61.setCell ⟨gb386, 8, none⟩ (.int .i64 t418)).setCell ⟨gb386, 9, none⟩ (.int .i64 t419)) gb385 t420 t421 false from by repeat (first | (with_reducible first | exact HI385.out | apply IsS52.alloc | apply IsS52.drewN | apply IsS52.drew | apply IsS52.set_0 | apply IsS52.set_1 | apply IsS52.set_2 | refine IsS52.far ?_ NB385_384.out _ | refine IsS52.far ?_ NB385_386.out _) | exact HI385.out)) hb)))
 replace HO398 := Aside0.mk (Kd.R_drew HO398.out)
 replace BK384 := Aside0.mk (blk_drew BK384.out)
 replace BK386 := Aside0.mk (blk_drew BK386.out)
 replace HI385 := Aside0.mk (IsS52.drew HI385.out)
 replace HB := Aside0.mk (below_drew1 HB.out)
 refine start_ (n := 8) (S := fun w' => w'.cell? ⟨gb386, 0, none⟩ = some (.int .i64 t387) ∧ w'.cell? ⟨gb386, 1, none⟩ = some (.int .i64 t388) ∧ w'.cell? ⟨gb386, 2, none⟩ = some (.int .i64 t392) ∧ w'.cell? ⟨gb386, 3, none⟩ = some (.slice Ao51 t396.length co51) ∧ w'.cell? ⟨gb386, 4, none⟩ = some (.int .i64 t402) ∧ w'.cell? ⟨gb386, 5, none⟩ = some (.string t406) ∧ w'.cell? ⟨gb386, 6, none⟩ = some (.string t410) ∧ w'.cell? ⟨gb386, 7, none⟩ = some (.int .i64 t414) ∧ w'.cell? ⟨gb386, 8, none⟩ = some (.int .i64 t418) ∧ w'.cell? ⟨gb386, 9, none⟩ = some (.int .i64 t419) ∧ w'.cell? ⟨gb385, 0, none⟩ = some (.string t420) ∧ w'.cell? ⟨gb385, 1, none⟩ = some (.int .i64 t421) ∧ w'.cell? ⟨gb385, 2, none⟩ = some (.bool false)) (ds := []) mk12_0 z12_24 rfl rfl (jn10 BK386 ⟨(blk_cell HI385.out.1 0).trans rfl, (blk_cell HI385.out.1 1).trans rfl, (blk_cell HI385.out.1 2).trans rfl⟩) (fun hHeld => ?_); refine with_tabW impl_ReadAct.tab13 impl_ReadAct.bits13 (fun HT_ HW_ => ?_)
 generalize w64.drew = w65 at HO398 BK384 BK386 HI385 HB hHeld ⊢
 refine p_ (i := 1) (N := some 49) mk12_1 ?_ (hv := z12_26) (ha := z12_17)
 refine p_ (i := 2) (N := some 50) mk12_2 ?_ (hv := z12_26) (ha := z12_17)
 refine p_ (i := 3) (N := some 51) mk12_3 ?_ (hv := z12_26) (ha := z12_17)
 refine t_ (i := 0) (N := some 48) mk12_4 hHeld ?_ (ha := z12_17)
 refine t_ (i := 4) (N := some 52) mk12_5 hHeld ?_ (ha := z12_17)
 refine o_ (i := 5) (N := none) mk12_6 (fun K hK => ?_)
 have hs66 : w65.cell? ⟨gb384, 0, none⟩ = some (.int .i64 0) := bc_ BK384 0
 have hfs66 := blk_frozen BK384.out 0
 have hns66_1 := NB386_384.out
 have hms66_1 := NB384_386.out
 have hs67 : w65.cell? ⟨gb384, 1, none⟩ = some (.int .i64 0) := bc_ BK384 1
 have hfs67 := blk_frozen BK384.out 1
 have hns67_1 := NB386_384.out
 have hms67_1 := NB384_386.out
 have hs68 : w65.cell? ⟨gb384, 2, none⟩ = some (.int .i64 0) := bc_ BK384 2
 have hfs68 := blk_frozen BK384.out 2
 have hns68_1 := NB386_384.out
 have hms68_1 := NB384_386.out
 have hs69 : w65.cell? ⟨gb384, 3, none⟩ = some (.slice none 0 0) := bc_ BK384 3
 have hfs69 := blk_frozen BK384.out 3
 have hns69_1 := NB386_384.out
 have hms69_1 := NB384_386.out
 have hs70 : w65.cell? ⟨gb384, 4, none⟩ = some (.int .i64 0) := bc_ BK384 4
 have hfs70 := blk_frozen BK384.out 4
 have hns70_1 := NB386_384.out
 have hms70_1 := NB384_386.out
 have hs71 : w65.cell? ⟨gb384, 5, none⟩ = some (.string (⟨#[]⟩ : ByteArray)) := bc_ BK384 5
 have hfs71 := blk_frozen BK384.out 5
 have hns71_1 := NB386_384.out
 have hms71_1 := NB384_386.out
 have hs72 : w65.cell? ⟨gb384, 6, none⟩ = some (.string (⟨#[]⟩ : ByteArray)) := bc_ BK384 6
 have hfs72 := blk_frozen BK384.out 6
 have hns72_1 := NB386_384.out
 have hms72_1 := NB384_386.out
 have hs73 : w65.cell? ⟨gb384, 7, none⟩ = some (.int .i64 0) := bc_ BK384 7
 have hfs73 := blk_frozen BK384.out 7
 have hns73_1 := NB386_384.out
 have hms73_1 := NB384_386.out
 have hs74 : w65.cell? ⟨gb384, 8, none⟩ = some (.int .i64 0) := bc_ BK384 8
 have hfs74 := blk_frozen BK384.out 8
 have hns74_1 := NB386_384.out
 have hms74_1 := NB384_386.out
 have hs75 : w65.cell? ⟨gb384, 9, none⟩ = some (.int .i64 0) := bc_ BK384 9
 have hfs75 := blk_frozen BK384.out 9
 have hns75_1 := NB386_384.out
 have hms75_1 := NB384_386.out
 refine skip_ (w1 := ?_) (by rfl) rfl ?_ ?_
 rotate_left
 ·
  go_simp
  rfl
 refine hK.out _ _ (by obtain ⟨s0, s1, s2, s3, s4, s5, s6, s7, s8, s9, s10, s11, s12⟩ := hHeld; (repeat' refine And.intro ?_ ?_) <;> (with_reducible repeat (first | assumption | refine (cell_far (p := ⟨gb384, _, none⟩) NB385_384.out _).trans ?_ | refine (cell_far (p := ⟨gb384, _, none⟩) NB386_384.out _).trans ?_))) (fun hHeld => ?_)
 clear hK K
 refine p_ (i := 6) (N := some 5) mk12_7 ?_ (hv := z12_26) (ha := z12_17)
 refine p_ (i := 7) (N := some 6) mk12_8 ?_ (hv := z12_26) (ha := z12_17)
 refine done_ (done_of HT_.out z12_24) ?_
 try go_wp2
 refine bodyPost_ret (results_ctt rfl _ _ gb384 31 #[.int .i64 t387, .int .i64 t388, .int .i64 t392, .slice Ao51 t396.length co51, .int .i64 t402, .string t406, .string t410, .int .i64 t414, .int .i64 t418, .int .i64 t419] (0, 0) _ rfl (by (with_reducible repeat (first | apply bpa10 | refine blk_drewN ?_ _ | refine blk_drew ?_ | refine blk_alloc ?_ _)); exact BK384.out) Try.underlying31 rfl z12_24) rfl ?_
 exact ⟨_, z12_25, by (with_reducible repeat (first | apply Kd.R_alloc | apply Kd.R_drewN | apply Kd.R_drew)); apply Kd.R_mono; (with_reducible repeat (first | apply Kd.R_far | apply Kd.R_alloc | apply Kd.R_drewN | apply Kd.R_drew)); exact Kd.R_types HO398.out BK384.out (by decide); all_goals (intro _ hk; first | exact trivial | exact hk.2 | trivial), z12_6⟩
def spec_NameOk.l0 : Nat → ByteArray → Int → Option (Bool)
  | 0, _, _ => none
  | k + 1, x0, x3 => if x3 < (x0.size : Int) then (if 0 ≤ x3 then (if (bt x0 x3) < 97 then (some false) else (if (bt x0 x3) > 122 then (some false) else (spec_NameOk.l0 k x0 (wrap64 (x3 + 1))))) else (none)) else ((spec_l01In.f (x0.size : Int) 1 8).bind fun t424 => (some t424))
def spec_NameOk.f (k : Nat) (a0 : ByteArray) : Option (Bool) := spec_NameOk.l0 k a0 0
set_option maxHeartbeats 8000000 in
set_option maxRecDepth 100000 in
theorem spec_NameOk.calls (k : Nat) (a0 : ByteArray) (r : Bool) (w : World) (h : spec_NameOk.f k a0 = some r) :
  Calls Try.prog 23 #[.string a0] w fun e w' => e = .returned (.bool r) ∧ Drawn0 w w' := by
 have H : (spec_NameOk.l0 k a0 0) = some r := h
 clear h
 have H' := Aside0.mk H
 clear H
 go_enter Try.func23, Try.ntmps23
 go_wp2
 go_loopg [3] k (fun kq v3 w' => ∃ (x3_1 : Int), v3 = .int .i64 x3_1 ∧ Aside0 (spec_NameOk.l0 kq a0 x3_1 = some r) ∧ Aside0 (kq ≤ k) ∧ Drawn0 w w')
 case atStart => exact ⟨(0), z12_22, H', ⟨Nat.le_refl _⟩, z12_16⟩
 case round =>
  clear H'
  obtain ⟨x3_1, rfl, HA, HK1, ⟨m1, rfl⟩⟩ := hrel
  cases gk with
  | zero => exact absurd HA.out (by simp [spec_NameOk.l0])
  | succ k1 =>
   have H := HA.out
   clear HA
   simp only [spec_NameOk.l0] at H
   by_cases c2 : x3_1 < (a0.size : Int)
   rotate_left
   ·
    rw [if_neg c2] at H
    have c2b0 : decide (x3_1 < (a0.size : Int)) = false := decide_eq_false c2
    clear c2
    replace H := Option.bind_eq_some_iff.mp H
    obtain ⟨t424, A80, H⟩ := H
    (try dsimp only at H)
    have A8 := Aside0.mk A80
    clear A80
    obtain rfl := Option.some.inj H
    go_wp2_with (first | ((with_reducible refine gate_callee (f := 43) rfl ?_); refine goesL_ (some 22) rfl rfl Try.func43 z12_24 rfl #[.int .i64 (a0.size : Int), .int .i64 1, .int .i64 8] rfl z12_4 ?_; (with_reducible refine (spec_l01In.calls (a0.size : Int) 1 8 t424 _ A8.out).mono ?_); rintro e w' ⟨rfl, ⟨nd, rfl⟩⟩; refine ⟨_, rfl, ?_⟩))
    go_ret
    exact ⟨z12_22, z12_16⟩
   rw [if_pos c2] at H
   have c2b0 : decide (x3_1 < (a0.size : Int)) = true := decide_eq_true c2
   clear c2
   by_cases c3 : 0 ≤ x3_1
   rotate_left
   ·
    rw [if_neg c3] at H
    exact absurd H (by simp)
   rw [if_pos c3] at H
   have c3b0 : decide (0 ≤ x3_1) = true := decide_eq_true c3
   clear c3
   by_cases c5 : (bt a0 x3_1) < 97
   ·
    rw [if_pos c5] at H
    have c5b0 : decide ((bt a0 x3_1) < 97) = true := decide_eq_true c5
    clear c5
    obtain rfl := Option.some.inj H
    have p4 : 0 ≤ (x3_1 : Int) := of_decide_eq_true z12_23
    have q4 : x3_1 < (a0.size : Int) := of_decide_eq_true z12_23
    have hx4 := bt_at a0 x3_1
    replace p4 := eq_true p4
    replace q4 := eq_true q4
    go_wp2
    go_ret
    exact ⟨z12_22, z12_16⟩
   rw [if_neg c5] at H
   have c5b0 : decide ((bt a0 x3_1) < 97) = false := decide_eq_false c5
   clear c5
   by_cases c7 : (bt a0 x3_1) > 122
   ·
    rw [if_pos c7] at H
    have c7b0 : decide (122 < (bt a0 x3_1)) = true := decide_eq_true c7
    clear c7
    obtain rfl := Option.some.inj H
    have p4 : 0 ≤ (x3_1 : Int) := of_decide_eq_true z12_23
    have q4 : x3_1 < (a0.size : Int) := of_decide_eq_true z12_23
    have hx4 := bt_at a0 x3_1
    replace p4 := eq_true p4
    replace q4 := eq_true q4
    have p6 : 0 ≤ (x3_1 : Int) := of_decide_eq_true z12_23
    have q6 : x3_1 < (a0.size : Int) := of_decide_eq_true z12_23
    have hx6 := bt_at a0 x3_1
    replace p6 := eq_true p6
    replace q6 := eq_true q6
    go_wp2
    go_ret
    exact ⟨z12_22, z12_16⟩
   rw [if_neg c7] at H
   have c7b0 : decide (122 < (bt a0 x3_1)) = false := decide_eq_false c7
   clear c7
   have H' := Aside0.mk H
   clear H
   have p4 : 0 ≤ (x3_1 : Int) := of_decide_eq_true z12_23
   have q4 : x3_1 < (a0.size : Int) := of_decide_eq_true z12_23
   have hx4 := bt_at a0 x3_1
   replace p4 := eq_true p4
   replace q4 := eq_true q4
   have p6 : 0 ≤ (x3_1 : Int) := of_decide_eq_true z12_23
   have q6 : x3_1 < (a0.size : Int) := of_decide_eq_true z12_23
   have hx6 := bt_at a0 x3_1
   replace p6 := eq_true p6
   replace q6 := eq_true q6
   go_wp2
   go_roundg k1
   case measure => have := HK1.out; omega
   case rel => exact ⟨(wrap64 (x3_1 + 1)), z12_22, H', ⟨by have := HK1.out; omega⟩, z12_16⟩
def spec_l05Plain.j0 : Nat → Int → Int → Bool → Option (Bool)
  | 0, _, _, _ => none
  | k + 1, x0, x3, x34 => if x34 = true then (some false) else (if x3 = 0 then (some true) else ((spec_l05Valued.f x0).bind fun t431 => (if t431 = true then ((spec_l01In.f x3 0 999999).bind fun t432 => (some t432)) else (some false))))
def spec_l05Plain.f (k : Nat) (a0 : Int) (a1 : ByteArray) (a2 : ByteArray) (a3 : Int) : Option (Bool) := (spec_l01In.f a0 1 7).bind fun t425 => (if t425 = true then ((spec_NameOk.f k a1).bind fun t426 => (if t426 = true then ((spec_l05Keyed.f a0).bind fun t427 => (if t427 = true then ((spec_NameOk.f k a2).bind fun t428 => (if t428 = true then ((spec_l05Keyed.f a0).bind fun t429 => (if t429 = true then (spec_l05Plain.j0 k a0 a3 false) else (spec_l05Plain.j0 k a0 a3 (a2.toList != ([] : List UInt8))))) else (spec_l05Plain.j0 k a0 a3 true))) else ((spec_l05Keyed.f a0).bind fun t430 => (if t430 = true then (spec_l05Plain.j0 k a0 a3 false) else (spec_l05Plain.j0 k a0 a3 (a2.toList != ([] : List UInt8))))))) else (spec_l05Plain.j0 k a0 a3 true))) else (spec_l05Plain.j0 k a0 a3 true))
set_option maxHeartbeats 8000000 in
set_option maxRecDepth 100000 in
theorem spec_l05Plain.calls (k : Nat) (a0 : Int) (a1 : ByteArray) (a2 : ByteArray) (a3 : Int) (r : Bool) (w : World) (h : spec_l05Plain.f k a0 a1 a2 a3 = some r) :
  Calls Try.prog 44 #[.int .i64 a0, .string a1, .string a2, .int .i64 a3] w fun e w' => e = .returned (.bool r) ∧ Drawn0 w w' := by
 have H := h
 unfold spec_l05Plain.f at H
 clear h
 have HC5 := Aside0.mk H
 clear H
 go_enter Try.func44, Try.ntmps44
 go_upto_region 1 with (fail)
 go_cut [34] (fun v34 wc => ∃ (kq : Nat) (x34_4 : Bool), v34 = .bool x34_4 ∧ Aside0 (spec_l05Plain.j0 kq a0 a3 x34_4 = some r) ∧ Aside0 (kq ≤ k) ∧ Drawn0 w wc)
 case first =>
  have H := HC5.out
  clear HC5
  replace H := Option.bind_eq_some_iff.mp H
  obtain ⟨t425, A60, H⟩ := H
  (try dsimp only at H)
  have A6 := Aside0.mk A60
  clear A60
  by_cases c7 : t425 = true
  rotate_left
  ·
   replace c7 := Bool.eq_false_iff.mpr c7
   subst c7
   rw [if_neg (show ¬ (false = true) by decide)] at H
   have H' := Aside0.mk H
   clear H
   go_wp2_with (first | ((with_reducible refine gate_callee (f := 43) rfl ?_); refine goesL_ (some 10) rfl rfl Try.func43 z12_24 rfl #[.int .i64 a0, .int .i64 1, .int .i64 7] rfl z12_4 ?_; (with_reducible refine (spec_l01In.calls a0 1 7 false _ A6.out).mono ?_); rintro e w' ⟨rfl, ⟨nd, rfl⟩⟩; refine ⟨_, rfl, ?_⟩))
   go_meet
   case rel => exact ⟨_, (true), z12_22, H', ⟨z12_28⟩, z12_16⟩
  subst c7
  rw [if_pos rfl] at H
  replace H := Option.bind_eq_some_iff.mp H
  obtain ⟨t426, A80, H⟩ := H
  (try dsimp only at H)
  have A8 := Aside0.mk A80
  clear A80
  by_cases c9 : t426 = true
  rotate_left
  ·
   replace c9 := Bool.eq_false_iff.mpr c9
   subst c9
   rw [if_neg (show ¬ (false = true) by decide)] at H
   have H' := Aside0.mk H
   clear H
   go_wp2_with (first | ((with_reducible refine gate_callee (f := 43) rfl ?_); refine goesL_ (some 10) rfl rfl Try.func43 z12_24 rfl #[.int .i64 a0, .int .i64 1, .int .i64 7] rfl z12_4 ?_; (with_reducible refine (spec_l01In.calls a0 1 7 true _ A6.out).mono ?_); rintro e w' ⟨rfl, ⟨nd, rfl⟩⟩; refine ⟨_, rfl, ?_⟩) | (go_at_call 23; (with_reducible refine (spec_NameOk.calls k a1 false _ A8.out).mono ?_); rintro e w' ⟨rfl, ⟨nd, rfl⟩⟩))
   go_meet
   case rel => exact ⟨_, (true), z12_22, H', ⟨z12_28⟩, z12_16⟩
  subst c9
  rw [if_pos rfl] at H
  replace H := Option.bind_eq_some_iff.mp H
  obtain ⟨t427, A100, H⟩ := H
  (try dsimp only at H)
  have A10 := Aside0.mk A100
  clear A100
  by_cases c11 : t427 = true
  rotate_left
  ·
   replace c11 := Bool.eq_false_iff.mpr c11
   subst c11
   rw [if_neg (show ¬ (false = true) by decide)] at H
   replace H := Option.bind_eq_some_iff.mp H
   obtain ⟨t430, A160, H⟩ := H
   (try dsimp only at H)
   have A16 := Aside0.mk A160
   clear A160
   by_cases c17 : t430 = true
   ·
    subst c17
    exact absurd (A10.out.symm.trans A16.out) (by simp)
   replace c17 := Bool.eq_false_iff.mpr c17
   subst c17
   rw [if_neg (show ¬ (false = true) by decide)] at H
   have H' := Aside0.mk H
   clear H
   go_wp2_with (first | ((with_reducible refine gate_callee (f := 43) rfl ?_); refine goesL_ (some 10) rfl rfl Try.func43 z12_24 rfl #[.int .i64 a0, .int .i64 1, .int .i64 7] rfl z12_4 ?_; (with_reducible refine (spec_l01In.calls a0 1 7 true _ A6.out).mono ?_); rintro e w' ⟨rfl, ⟨nd, rfl⟩⟩; refine ⟨_, rfl, ?_⟩) | (go_at_call 23; (with_reducible refine (spec_NameOk.calls k a1 true _ A8.out).mono ?_); rintro e w' ⟨rfl, ⟨nd, rfl⟩⟩) | (go_at_call 69; (with_reducible refine (spec_l05Keyed.calls a0 false _ A10.out).mono ?_); rintro e w' ⟨rfl, ⟨nd, rfl⟩⟩) | (go_at_call 69; (with_reducible refine (spec_l05Keyed.calls a0 false _ A16.out).mono ?_); rintro e w' ⟨rfl, ⟨nd, rfl⟩⟩))
   go_meet
   case rel => exact ⟨_, ((a2.toList != ([] : List UInt8))), (by first | rfl | (simp; done) | (cases a2.toList <;> rfl) | (simp [*]; done)), H', ⟨z12_28⟩, z12_16⟩
  subst c11
  rw [if_pos rfl] at H
  replace H := Option.bind_eq_some_iff.mp H
  obtain ⟨t428, A120, H⟩ := H
  (try dsimp only at H)
  have A12 := Aside0.mk A120
  clear A120
  by_cases c13 : t428 = true
  rotate_left
  ·
   replace c13 := Bool.eq_false_iff.mpr c13
   subst c13
   rw [if_neg (show ¬ (false = true) by decide)] at H
   have H' := Aside0.mk H
   clear H
   go_wp2_with (first | ((with_reducible refine gate_callee (f := 43) rfl ?_); refine goesL_ (some 10) rfl rfl Try.func43 z12_24 rfl #[.int .i64 a0, .int .i64 1, .int .i64 7] rfl z12_4 ?_; (with_reducible refine (spec_l01In.calls a0 1 7 true _ A6.out).mono ?_); rintro e w' ⟨rfl, ⟨nd, rfl⟩⟩; refine ⟨_, rfl, ?_⟩) | (go_at_call 23; (with_reducible refine (spec_NameOk.calls k a1 true _ A8.out).mono ?_); rintro e w' ⟨rfl, ⟨nd, rfl⟩⟩) | (go_at_call 69; (with_reducible refine (spec_l05Keyed.calls a0 true _ A10.out).mono ?_); rintro e w' ⟨rfl, ⟨nd, rfl⟩⟩) | (go_at_call 23; (with_reducible refine (spec_NameOk.calls k a2 false _ A12.out).mono ?_); rintro e w' ⟨rfl, ⟨nd, rfl⟩⟩))
   go_meet
   case rel => exact ⟨_, (true), z12_22, H', ⟨z12_28⟩, z12_16⟩
  subst c13
  rw [if_pos rfl] at H
  replace H := Option.bind_eq_some_iff.mp H
  obtain ⟨t429, A140, H⟩ := H
  (try dsimp only at H)
  have A14 := Aside0.mk A140
  clear A140
  by_cases c15 : t429 = true
  rotate_left
  ·
   replace c15 := Bool.eq_false_iff.mpr c15
   subst c15
   exact absurd (A10.out.symm.trans A14.out) (by simp)
  subst c15
  rw [if_pos rfl] at H
  have H' := Aside0.mk H
  clear H
  go_wp2_with (first | ((with_reducible refine gate_callee (f := 43) rfl ?_); refine goesL_ (some 10) rfl rfl Try.func43 z12_24 rfl #[.int .i64 a0, .int .i64 1, .int .i64 7] rfl z12_4 ?_; (with_reducible refine (spec_l01In.calls a0 1 7 true _ A6.out).mono ?_); rintro e w' ⟨rfl, ⟨nd, rfl⟩⟩; refine ⟨_, rfl, ?_⟩) | (go_at_call 23; (with_reducible refine (spec_NameOk.calls k a1 true _ A8.out).mono ?_); rintro e w' ⟨rfl, ⟨nd, rfl⟩⟩) | (go_at_call 69; (with_reducible refine (spec_l05Keyed.calls a0 true _ A10.out).mono ?_); rintro e w' ⟨rfl, ⟨nd, rfl⟩⟩) | (go_at_call 23; (with_reducible refine (spec_NameOk.calls k a2 true _ A12.out).mono ?_); rintro e w' ⟨rfl, ⟨nd, rfl⟩⟩) | (go_at_call 69; (with_reducible refine (spec_l05Keyed.calls a0 true _ A14.out).mono ?_); rintro e w' ⟨rfl, ⟨nd, rfl⟩⟩))
  go_meet
  case rel => exact ⟨_, (false), z12_22, H', ⟨z12_28⟩, z12_16⟩
 case rest =>
  clear HC5
  try clear c1
  try clear p2
  try clear c4
  try clear c7
  try clear c9
  try clear c11
  try clear c13
  try clear c15
  try clear c17
  obtain ⟨kq, x34_4, rfl, HA, HJ4, ⟨mc4, rfl⟩⟩ := hcut
  cases kq with
  | zero => exact absurd HA.out (by simp [spec_l05Plain.j0])
  | succ kj4 =>
   have H := HA.out
   clear HA
   simp only [spec_l05Plain.j0] at H
   by_cases c18 : x34_4 = true
   ·
    subst c18
    rw [if_pos rfl] at H
    obtain rfl := Option.some.inj H
    go_wp2
    go_ret
    exact ⟨z12_22, z12_16⟩
   replace c18 := Bool.eq_false_iff.mpr c18
   subst c18
   rw [if_neg (show ¬ (false = true) by decide)] at H
   by_cases c19 : a3 = 0
   ·
    rw [if_pos c19] at H
    have c19b0 : (a3 == 0) = true := beq_iff_eq.mpr c19
    have c19b1 : (a3 != 0) = false := bne_eq_false_iff_eq.mpr c19
    clear c19
    obtain rfl := Option.some.inj H
    go_wp2
    go_ret
    exact ⟨z12_22, z12_16⟩
   rw [if_neg c19] at H
   have c19b0 : (a3 == 0) = false := beq_eq_false_iff_ne.mpr c19
   have c19b1 : (a3 != 0) = true := bne_iff_ne.mpr c19
   replace H := Option.bind_eq_some_iff.mp H
   obtain ⟨t431, A200, H⟩ := H
   (try dsimp only at H)
   have A20 := Aside0.mk A200
   clear A200
   by_cases c21 : t431 = true
   rotate_left
   ·
    replace c21 := Bool.eq_false_iff.mpr c21
    subst c21
    rw [if_neg (show ¬ (false = true) by decide)] at H
    obtain rfl := Option.some.inj H
    go_wp2_with (first | (go_at_call 70; (with_reducible refine (spec_l05Valued.calls a0 false _ A20.out).mono ?_); rintro e w' ⟨rfl, ⟨nd, rfl⟩⟩))
    go_ret
    exact ⟨z12_22, z12_16⟩
   subst c21
   rw [if_pos rfl] at H
   replace H := Option.bind_eq_some_iff.mp H
   obtain ⟨t432, A220, H⟩ := H
   (try dsimp only at H)
   have A22 := Aside0.mk A220
   clear A220
   obtain rfl := Option.some.inj H
   go_wp2_with (first | (go_at_call 70; (with_reducible refine (spec_l05Valued.calls a0 true _ A20.out).mono ?_); rintro e w' ⟨rfl, ⟨nd, rfl⟩⟩) | (go_at_call 43; (with_reducible refine (spec_l01In.calls a3 0 999999 t432 _ A22.out).mono ?_); rintro e w' ⟨rfl, ⟨nd, rfl⟩⟩))
   go_ret
   exact ⟨z12_22, z12_16⟩
end Go.Proofs.Ythajpckfodhhpaa.QRA
