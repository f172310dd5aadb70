/- What the functions behind RdAct compute, and that the program's calls come to just that. Written by a program of this session on the base of the kit's print. No condition. -/
import Derived.Test.YtmbjnblbbfbfjaaVFnExactReadActQRdActx0
import Derived.Test.YtmbjnblbbfbfjaaVFnExactReadActQRdActx3
import Derived.Test.YtmbjnblbbfbfjaaVFnExactReadActQRdActx4
import Derived.Test.YtmbjnblbbfbfjaaVFnExactReadActQRdActx7
namespace Go.Proofs.Ytmbjnblbbfbfjaa.QRdAct
open Go.RowKit Go.Proofs.YtmbjnblbbfbfjaaW.PrintWords Go.Proofs.YtmbjnblbbfbfjaaW.PrintLast Go.Proofs.YtmbjnblbbfbfjaaW.PrintMore
attribute [local go_sem] max2_int min2_int max_two min_two max_three min_three max_four min_four   -- for this text's walks alone
set_option linter.unusedVariables false
set_option linter.unusedSimpArgs false
theorem z8_29 {P : Prop} (h : P := by intro w'; go_simp; with_reducible rfl) : P := h
theorem z8_28 {P : Prop} (h : P := by (with_reducible repeat (first | refine blk_drewN ?_ _ | refine blk_drew ?_ | refine blk_alloc ?_ _)); exact BK245.out) : P := h
theorem z8_27 {P : Prop} (h : P := by kernel_rfl) : P := h
theorem z8_26 {P : Prop} (h : P := by repeat (first | (with_reducible first | exact HB.out | apply below_alloc | apply pw_below_drewN | apply below_drew1) | exact HB.out)) : P := h
theorem z8_25 {P : Prop} (h : P := by (with_reducible repeat (first | apply Kd.R_alloc | apply Kd.R_drewN | apply Kd.R_drew)); exact HO228.out) : P := h
theorem z8_24 {P : Prop} (h : P := by (with_reducible repeat (first | refine blk_drewN ?_ _ | refine blk_drew ?_ | refine blk_alloc ?_ _)); exact BK222.out) : P := h
theorem z8_23 {P : Prop} (h : P := by repeat (first | (with_reducible first | exact HK.out | apply KeepBut.set_ | apply keep_drewN | apply keep_drew | apply keep_alloc | refine keep_far ?_ GW245.out _) | exact HK.out)) : P := h
theorem z8_22 {P : Prop} (h : P := by first | exact Kd.R_nil _ _ _ _ _ | exact Kd.N_nil _ _ _ _ _ | exact Kd.V_nil _ _ _ _ _ | exact Kd.Q_nil _ _ _ _ _ | exact Kd.S_nil _ _ _ _ _) : P := h
theorem z8_21 {P : Prop} (h : P := by repeat (first | (with_reducible first | exact HK.out | apply KeepBut.set_ | apply keep_drewN | apply keep_drew | apply keep_alloc | refine keep_far ?_ GW245.out _ | refine keep_far ?_ GW246.out _) | exact HK.out)) : P := h
theorem z8_20 {P : Prop} (h : P := by first | rfl | (simp; done) | (simp [*]; done)) : P := h
theorem z8_19 {P : Prop} (h : P := by first | rfl | (simp; done) | (simp only [← hji8, ← hji12, ← hji14] <;> (first | rfl | simp)) | (simp [*]; done)) : P := h
theorem z8_18 {P : Prop} (h : P := by repeat (first | (with_reducible first | exact HB.out | apply below_alloc | apply pw_below_drewN | apply below_drew1 | refine below_set ?_ (IsS40.ge HI0.out)) | exact HB.out)) : P := h
theorem z8_17 {P : Prop} (h : P := by first | (with_reducible assumption) | assumption) : P := h
theorem z8_16 {P : Prop} (h : P := by repeat (first | (with_reducible first | exact HI0.out | apply IsS40.alloc | apply IsS40.drewN | apply IsS40.drew | apply IsS40.set_0 | apply IsS40.set_1 | apply IsS40.set_2) | exact HI0.out)) : P := h
theorem z8_15 {P : Prop} (h : P := by simp only [Act.put, List.setIfInBounds_toArray, List.set_cons_zero, List.set_cons_succ, i64_w, i32_w]; rfl) : P := h
theorem z8_14 {P : Prop} (h : P := by repeat (first | exact Drawn0.refl _ | apply Drawn0.step)) : P := h
theorem z8_13 {P : Prop} (h : P := by repeat (first | (with_reducible first | exact HI222.out | apply IsS34.alloc | apply IsS34.drewN | apply IsS34.drew | apply IsS34.set_0 | apply IsS34.set_1 | apply IsS34.set_2 | refine IsS34.far ?_ NB222_221.out _) | exact HI222.out)) : P := h
theorem z8_12 {P : Prop} (h : P := by repeat (first | (with_reducible first | exact HK.out | apply KeepBut.set_ | apply keep_drewN | apply keep_drew | apply keep_alloc) | exact HK.out)) : P := h
theorem z8_11 {P : Prop} (h : P := by first | rfl | (simp [errW_none, errW_some] <;> rfl) | (simp [*, errW_none, errW_some] <;> rfl)) : P := h
theorem z8_10 {P : Prop} (h : P := by first | rfl | (simp only [List.map_toArray, List.map_cons, List.map_nil]; first | done | rfl)) : P := h
theorem z8_9 {P : Prop} (h : P := by (with_reducible repeat (first | apply Kd.R_alloc | apply Kd.R_drewN | apply Kd.R_drew)); exact (Kd.R_mono (Kd.R_far (p := ⟨gb238, 9, none⟩) (Kd.R_far (p := ⟨gb238, 8, none⟩) (Kd.R_far (p := ⟨gb238, 7, none⟩) (Kd.R_far (p := ⟨gb238, 6, none⟩) (Kd.R_far (p := ⟨gb238, 5, none⟩) (Kd.R_far (p := ⟨gb238, 4, none⟩) (Kd.R_far (p := ⟨gb238, 3, none⟩) (Kd.R_far (p := ⟨gb238, 2, none⟩) (Kd.R_far (p := ⟨gb238, 1, none⟩) (Kd.R_far (p := ⟨gb238, 0, none⟩) (Kd.R_types HO228.out BK238.out (by decide)) (fun _ hk => by first | exact hk.2 | trivial) (.int .i64 t223)) (fun _ hk => by first | exact hk.2 | trivial) (.int .i64 t224)) (fun _ hk => by first | exact hk.2 | trivial) (.int .i64 t225)) (fun _ hk => by first | exact hk.2 | trivial) (.slice Ao17 t226.length co17)) (fun _ hk => by first | exact hk.2 | trivial) (.int .i64 t229)) (fun _ hk => by first | exact hk.2 | trivial) (.string t230)) (fun _ hk => by first | exact hk.2 | trivial) (.string t231)) (fun _ hk => by first | exact hk.2 | trivial) (.int .i64 t232)) (fun _ hk => by first | exact hk.2 | trivial) (.int .i64 t233)) (fun _ hk => by first | exact hk.2 | trivial) (.int .i64 t234)) (fun _ h_ => h_.1))) : P := h
theorem z8_8 {P : Prop} (h : P := by (with_reducible repeat (first | apply Kd.R_alloc | apply Kd.R_drewN | apply Kd.R_drew)); exact (Kd.R_mono (Kd.R_far (p := ⟨gb238, 9, none⟩) (Kd.R_far (p := ⟨gb238, 8, none⟩) (Kd.R_far (p := ⟨gb238, 7, none⟩) (Kd.R_far (p := ⟨gb238, 6, none⟩) (Kd.R_far (p := ⟨gb238, 5, none⟩) (Kd.R_far (p := ⟨gb238, 4, none⟩) (Kd.R_far (p := ⟨gb238, 3, none⟩) (Kd.R_far (p := ⟨gb238, 2, none⟩) (Kd.R_far (p := ⟨gb238, 1, none⟩) (Kd.R_far (p := ⟨gb238, 0, none⟩) (Kd.R_types HO228.out BK238.out (by decide)) (fun _ hk => by first | exact hk.2 | trivial) (.int .i64 t223)) (fun _ hk => by first | exact hk.2 | trivial) (.int .i64 t224)) (fun _ hk => by first | exact hk.2 | trivial) (.int .i64 t225)) (fun _ hk => by first | exact hk.2 | trivial) (.slice Ao33 t226.length co33)) (fun _ hk => by first | exact hk.2 | trivial) (.int .i64 t229)) (fun _ hk => by first | exact hk.2 | trivial) (.string t230)) (fun _ hk => by first | exact hk.2 | trivial) (.string t231)) (fun _ hk => by first | exact hk.2 | trivial) (.int .i64 t232)) (fun _ hk => by first | exact hk.2 | trivial) (.int .i64 t233)) (fun _ hk => by first | exact hk.2 | trivial) (.int .i64 t234)) (fun _ h_ => h_.1))) : P := h
theorem z8_7 {P : Prop} (h : P := by (with_reducible repeat (first | apply Kd.R_alloc | apply Kd.R_drewN | apply Kd.R_drew)); exact (Kd.R_mono (Kd.R_far (p := ⟨gb238, 9, none⟩) (Kd.R_far (p := ⟨gb238, 8, none⟩) (Kd.R_far (p := ⟨gb238, 7, none⟩) (Kd.R_far (p := ⟨gb238, 6, none⟩) (Kd.R_far (p := ⟨gb238, 5, none⟩) (Kd.R_far (p := ⟨gb238, 4, none⟩) (Kd.R_far (p := ⟨gb238, 3, none⟩) (Kd.R_far (p := ⟨gb238, 2, none⟩) (Kd.R_far (p := ⟨gb238, 1, none⟩) (Kd.R_far (p := ⟨gb238, 0, none⟩) (Kd.R_types HO228.out BK238.out (by decide)) (fun _ hk => by first | exact hk.2 | trivial) (.int .i64 t223)) (fun _ hk => by first | exact hk.2 | trivial) (.int .i64 t224)) (fun _ hk => by first | exact hk.2 | trivial) (.int .i64 t225)) (fun _ hk => by first | exact hk.2 | trivial) (.slice Ao53 t226.length co53)) (fun _ hk => by first | exact hk.2 | trivial) (.int .i64 t229)) (fun _ hk => by first | exact hk.2 | trivial) (.string t230)) (fun _ hk => by first | exact hk.2 | trivial) (.string t231)) (fun _ hk => by first | exact hk.2 | trivial) (.int .i64 t232)) (fun _ hk => by first | exact hk.2 | trivial) (.int .i64 t233)) (fun _ hk => by first | exact hk.2 | trivial) (.int .i64 t234)) (fun _ h_ => h_.1))) : P := h
theorem z8_6 {P : Prop} (h : P := by (with_reducible repeat (first | apply Kd.R_alloc | apply Kd.R_drewN | apply Kd.R_drew)); exact (Kd.R_mono (Kd.R_far (p := ⟨gb238, 9, none⟩) (Kd.R_far (p := ⟨gb238, 8, none⟩) (Kd.R_far (p := ⟨gb238, 7, none⟩) (Kd.R_far (p := ⟨gb238, 6, none⟩) (Kd.R_far (p := ⟨gb238, 5, none⟩) (Kd.R_far (p := ⟨gb238, 4, none⟩) (Kd.R_far (p := ⟨gb238, 3, none⟩) (Kd.R_far (p := ⟨gb238, 2, none⟩) (Kd.R_far (p := ⟨gb238, 1, none⟩) (Kd.R_far (p := ⟨gb238, 0, none⟩) (Kd.R_types HO228.out BK238.out (by decide)) (fun _ hk => by first | exact hk.2 | trivial) (.int .i64 t223)) (fun _ hk => by first | exact hk.2 | trivial) (.int .i64 t224)) (fun _ hk => by first | exact hk.2 | trivial) (.int .i64 t225)) (fun _ hk => by first | exact hk.2 | trivial) (.slice Ao64 t226.length co64)) (fun _ hk => by first | exact hk.2 | trivial) (.int .i64 t229)) (fun _ hk => by first | exact hk.2 | trivial) (.string t230)) (fun _ hk => by first | exact hk.2 | trivial) (.string t231)) (fun _ hk => by first | exact hk.2 | trivial) (.int .i64 t232)) (fun _ hk => by first | exact hk.2 | trivial) (.int .i64 t233)) (fun _ hk => by first | exact hk.2 | trivial) (.int .i64 t234)) (fun _ h_ => h_.1))) : P := h
theorem z8_5 {P : Prop} (h : P := by repeat (first | (with_reducible first | exact HB.out | apply below_alloc | apply pw_below_drewN | apply below_drew1 | refine below_set ?_ (IsS34.ge HI222.out) | refine below_set ?_ GE221.out | refine below_set ?_ GE238.out) | exact HB.out)) : P := h
theorem z8_4 {P : Prop} (h : P := by repeat (first | (with_reducible first | exact HB.out | apply below_alloc | apply pw_below_drewN | apply below_drew1 | refine below_set ?_ GE221.out) | exact HB.out)) : P := h
theorem z8_3 {P : Prop} (h : P := by repeat (first | (with_reducible first | exact HB.out | apply below_alloc | apply pw_below_drewN | apply below_drew1 | refine below_set ?_ (IsS34.ge HI222.out) | refine below_set ?_ GE221.out) | exact HB.out)) : P := h
theorem z8_2 {P : Prop} (h : P := by (with_reducible repeat (first | refine blk_drewN ?_ _ | refine blk_drew ?_ | refine blk_alloc ?_ _)); exact BK221.out) : P := h
theorem z8_1 {P : Prop} (h : P := by (with_reducible repeat (first | refine blk_drewN ?_ _ | refine blk_drew ?_ | refine blk_alloc ?_ _)); refine blk_far ?_ NB221_238.out _; (with_reducible repeat (first | refine blk_drewN ?_ _ | refine blk_drew ?_ | refine blk_alloc ?_ _)); refine blk_far ?_ NB221_238.out _; (with_reducible repeat (first | refine blk_drewN ?_ _ | refine blk_drew ?_ | refine blk_alloc ?_ _)); refine blk_far ?_ NB221_238.out _; (with_reducible repeat (first | refine blk_drewN ?_ _ | refine blk_drew ?_ | refine blk_alloc ?_ _)); refine blk_far ?_ NB221_238.out _; (with_reducible repeat (first | refine blk_drewN ?_ _ | refine blk_drew ?_ | refine blk_alloc ?_ _)); refine blk_far ?_ NB221_238.out _; (with_reducible repeat (first | refine blk_drewN ?_ _ | refine blk_drew ?_ | refine blk_alloc ?_ _)); refine blk_far ?_ NB221_238.out _; (with_reducible repeat (first | refine blk_drewN ?_ _ | refine blk_drew ?_ | refine blk_alloc ?_ _)); refine blk_far ?_ NB221_238.out _; (with_reducible repeat (first | refine blk_drewN ?_ _ | refine blk_drew ?_ | refine blk_alloc ?_ _)); refine blk_far ?_ NB221_238.out _; (with_reducible repeat (first | refine blk_drewN ?_ _ | refine blk_drew ?_ | refine blk_alloc ?_ _)); refine blk_far ?_ NB221_238.out _; (with_reducible repeat (first | refine blk_drewN ?_ _ | refine blk_drew ?_ | refine blk_alloc ?_ _)); refine blk_far ?_ NB221_238.out _; (with_reducible repeat (first | refine blk_drewN ?_ _ | refine blk_drew ?_ | refine blk_alloc ?_ _)); exact BK221.out) : P := h
theorem z8_0 {P : Prop} (h : P := by (with_reducible repeat (first | refine blk_drewN ?_ _ | refine blk_drew ?_ | refine blk_alloc ?_ _)); refine blk_put (cs := #[.int .i64 0, .int .i64 0, .int .i64 0, .slice none 0 0, .int .i64 0, .string (⟨#[]⟩ : ByteArray), .string (⟨#[]⟩ : ByteArray), .int .i64 0, .int .i64 0, .int .i64 0]) ?_ 9 _ rfl; (with_reducible repeat (first | refine blk_drewN ?_ _ | refine blk_drew ?_ | refine blk_alloc ?_ _)); refine blk_put (cs := #[.int .i64 0, .int .i64 0, .int .i64 0, .slice none 0 0, .int .i64 0, .string (⟨#[]⟩ : ByteArray), .string (⟨#[]⟩ : ByteArray), .int .i64 0, .int .i64 0, .int .i64 0]) ?_ 8 _ rfl; (with_reducible repeat (first | refine blk_drewN ?_ _ | refine blk_drew ?_ | refine blk_alloc ?_ _)); refine blk_put (cs := #[.int .i64 0, .int .i64 0, .int .i64 0, .slice none 0 0, .int .i64 0, .string (⟨#[]⟩ : ByteArray), .string (⟨#[]⟩ : ByteArray), .int .i64 0, .int .i64 0, .int .i64 0]) ?_ 7 _ rfl; (with_reducible repeat (first | refine blk_drewN ?_ _ | refine blk_drew ?_ | refine blk_alloc ?_ _)); refine blk_put (cs := #[.int .i64 0, .int .i64 0, .int .i64 0, .slice none 0 0, .int .i64 0, .string (⟨#[]⟩ : ByteArray), .string (⟨#[]⟩ : ByteArray), .int .i64 0, .int .i64 0, .int .i64 0]) ?_ 6 _ rfl; (with_reducible repeat (first | refine blk_drewN ?_ _ | refine blk_drew ?_ | refine blk_alloc ?_ _)); refine blk_put (cs := #[.int .i64 0, .int .i64 0, .int .i64 0, .slice none 0 0, .int .i64 0, .string (⟨#[]⟩ : ByteArray), .string (⟨#[]⟩ : ByteArray), .int .i64 0, .int .i64 0, .int .i64 0]) ?_ 5 _ rfl; (with_reducible repeat (first | refine blk_drewN ?_ _ | refine blk_drew ?_ | refine blk_alloc ?_ _)); refine blk_put (cs := #[.int .i64 0, .int .i64 0, .int .i64 0, .slice none 0 0, .int .i64 0, .string (⟨#[]⟩ : ByteArray), .string (⟨#[]⟩ : ByteArray), .int .i64 0, .int .i64 0, .int .i64 0]) ?_ 4 _ rfl; (with_reducible repeat (first | refine blk_drewN ?_ _ | refine blk_drew ?_ | refine blk_alloc ?_ _)); refine blk_put (cs := #[.int .i64 0, .int .i64 0, .int .i64 0, .slice none 0 0, .int .i64 0, .string (⟨#[]⟩ : ByteArray), .string (⟨#[]⟩ : ByteArray), .int .i64 0, .int .i64 0, .int .i64 0]) ?_ 3 _ rfl; (with_reducible repeat (first | refine blk_drewN ?_ _ | refine blk_drew ?_ | refine blk_alloc ?_ _)); refine blk_put (cs := #[.int .i64 0, .int .i64 0, .int .i64 0, .slice none 0 0, .int .i64 0, .string (⟨#[]⟩ : ByteArray), .string (⟨#[]⟩ : ByteArray), .int .i64 0, .int .i64 0, .int .i64 0]) ?_ 2 _ rfl; (with_reducible repeat (first | refine blk_drewN ?_ _ | refine blk_drew ?_ | refine blk_alloc ?_ _)); refine blk_put (cs := #[.int .i64 0, .int .i64 0, .int .i64 0, .slice none 0 0, .int .i64 0, .string (⟨#[]⟩ : ByteArray), .string (⟨#[]⟩ : ByteArray), .int .i64 0, .int .i64 0, .int .i64 0]) ?_ 1 _ rfl; (with_reducible repeat (first | refine blk_drewN ?_ _ | refine blk_drew ?_ | refine blk_alloc ?_ _)); refine blk_put (cs := #[.int .i64 0, .int .i64 0, .int .i64 0, .slice none 0 0, .int .i64 0, .string (⟨#[]⟩ : ByteArray), .string (⟨#[]⟩ : ByteArray), .int .i64 0, .int .i64 0, .int .i64 0]) ?_ 0 _ rfl; (with_reducible repeat (first | refine blk_drewN ?_ _ | refine blk_drew ?_ | refine blk_alloc ?_ _)); exact BK221.out) : P := h
def spec_ReadAct.j0 : Nat → ByteArray → Int → Bool → Option (Int × Int × Int × List Int × Int × ByteArray × ByteArray × Int × Int × Int × Int × Bool)
  | 0, _, _, _ => none
  | k + 1, x0, x1, x18 => if x18 = true then (some (0, 0, 0, ([] : List Int), 0, (⟨#[]⟩ : ByteArray), (⟨#[]⟩ : ByteArray), 0, 0, 0, 0, false)) else ((spec_l05Read_act.f k x0 x1 false).bind fun bt223 => ((spec_ActText.f k bt223.1 bt223.2.1 bt223.2.2.1 bt223.2.2.2.1 bt223.2.2.2.2.1 bt223.2.2.2.2.2.1 bt223.2.2.2.2.2.2.1 bt223.2.2.2.2.2.2.2.1 bt223.2.2.2.2.2.2.2.2.1 bt223.2.2.2.2.2.2.2.2.2.1).bind fun bt239 => (if bt223.2.2.2.2.2.2.2.2.2.2.2.2 = true then (some (0, 0, 0, ([] : List Int), 0, (⟨#[]⟩ : ByteArray), (⟨#[]⟩ : ByteArray), 0, 0, 0, 0, false)) else (if bt239.2 = true then (if 0 ≤ x1 then (if x1 ≤ bt223.2.2.2.2.2.2.2.2.2.2.2.1 then (if bt223.2.2.2.2.2.2.2.2.2.2.2.1 ≤ (x0.size : Int) then (if bt239.1.toList = (x0.extract (x1 : Int).toNat (bt223.2.2.2.2.2.2.2.2.2.2.2.1 : Int).toNat).toList then (some (bt223.1, bt223.2.1, bt223.2.2.1, bt223.2.2.2.1, bt223.2.2.2.2.1, bt223.2.2.2.2.2.1, bt223.2.2.2.2.2.2.1, bt223.2.2.2.2.2.2.2.1, bt223.2.2.2.2.2.2.2.2.1, bt223.2.2.2.2.2.2.2.2.2.1, bt223.2.2.2.2.2.2.2.2.2.2.2.1, true)) else (some (0, 0, 0, ([] : List Int), 0, (⟨#[]⟩ : ByteArray), (⟨#[]⟩ : ByteArray), 0, 0, 0, 0, false))) else (none)) else (none)) else (none)) else (some (0, 0, 0, ([] : List Int), 0, (⟨#[]⟩ : ByteArray), (⟨#[]⟩ : ByteArray), 0, 0, 0, 0, false))))))
def spec_ReadAct.f (k : Nat) (a0 : ByteArray) (a1 : Int) : Option (Int × Int × Int × List Int × Int × ByteArray × ByteArray × Int × Int × Int × Int × Bool) := if a1 < 0 then (spec_ReadAct.j0 k a0 a1 true) else (spec_ReadAct.j0 k a0 a1 (decide (a1 > (a0.size : Int))))
def spec_ReadAct.T8 : Bool × List (List Nat × List Nat) := (true, [([], []), ([], []), ([1], [1]), ([2], [2]), ([3], [3]), ([0, 0], [0]), ([4, 5, 0, 1, 2, 3, 4, 5], [4]), ([6, 0, 1, 2, 3, 4, 5, 6], [])])
def spec_ReadAct.B8 : List Nat := [0, 0, 2, 6, 14, 1, 63, 127]
theorem spec_ReadAct.tab8 : rtab .any (opsOf Try.f4 8) = spec_ReadAct.T8 := by kernel_rfl
theorem spec_ReadAct.bits8 : waitsOk spec_ReadAct.T8.2 spec_ReadAct.B8 = true := by kernel_rfl
set_option maxHeartbeats 8000000 in
set_option maxRecDepth 100000 in
theorem spec_ReadAct.calls (k : Nat) (a0 : ByteArray) (a1 : Int) (r1 : Int) (r2 : Int) (r3 : Int) (r4 : List Int) (r5 : Int) (r6 : ByteArray) (r7 : ByteArray) (r8 : Int) (r9 : Int) (r10 : Int) (r11 : Int) (r12 : Bool) (w : World) (h : spec_ReadAct.f k a0 a1 = some (r1, r2, r3, r4, r5, r6, r7, r8, r9, r10, r11, r12)) :
  Calls Try.prog 4 #[.string a0, .int .i64 a1] w fun e w' => ∃ v3_ : Value, e = .returned (.tuple #[.agg #[.int .i64 r1, .int .i64 r2, .int .i64 r3, v3_, .int .i64 r5, .string r6, .string r7, .int .i64 r8, .int .i64 r9, .int .i64 r10], .int .i64 r11, .bool r12]) ∧ Kd.R (Kd.int .i64) 3 w' w.heap.size (fun _ => True) v3_ r4 ∧ Below w.heap.size w w' := by
 have hu26 := Try.underlying26
 have hu34 := Try.underlying34
 have HB := Aside0.mk (Below.refl w.heap.size w)
 have H : (if a1 < 0 then (spec_ReadAct.j0 k a0 a1 true) else (spec_ReadAct.j0 k a0 a1 (decide (a1 > (a0.size : Int))))) = some (r1, r2, r3, r4, r5, r6, r7, r8, r9, r10, r11, r12) := h
 clear h
 have HC3 := Aside0.mk H
 clear H
 go_enter Try.func4, Try.ntmps4
 go_upto_region 1 with (first | ((with_reducible refine gate_dst (N := 4) rfl ?_); (try (refine gate_guard (by rfl) ?_; dsimp only)); refine box_event ?hg (N := 4) ?hd (cs := #[.int .i64 0, .int .i64 0, .int .i64 0, .slice none 0 0, .int .i64 0, .string (⟨#[]⟩ : ByteArray), .string (⟨#[]⟩ : ByteArray), .int .i64 0, .int .i64 0, .int .i64 0]) (t := 26) ?hr ?_; (case hd => rfl); (case hg => rfl); (case hr => first | (go_simp; done) | (go_simp; rfl)); intro gb221 hg w4 hbox hb; have n0_ := Aside0.mk (below_step z8_26 hb); have n1_ := Aside0.mk (hbox); have n2_ := Aside0.mk ((by rw [hg]; exact (below_size z8_26) : w.heap.size ≤ gb221)); have n3_ := Aside0.mk ((by rw [hg]; exact (below_size z8_26) : w.heap.size ≤ gb221)); clear HB; have HB := n0_; have BK221 := n1_; have GW221 := n2_; have GE221 := n3_; clear n0_ n1_ n2_ n3_; clear hb hbox hg))
 (try simp only [Act.put, List.setIfInBounds_toArray, List.set_cons_zero, List.set_cons_succ])
 go_cut [18] (fun v18 wc => ∃ (kq : Nat) (x18_2 : Bool), v18 = .bool x18_2 ∧ Aside0 (spec_ReadAct.j0 kq a0 a1 x18_2 = some (r1, r2, r3, r4, r5, r6, r7, r8, r9, r10, r11, r12)) ∧ Aside0 (kq ≤ k) ∧ Aside0 (wc.heap[gb221]? = some (.cells #[.int .i64 0, .int .i64 0, .int .i64 0, (.slice none 0 0), .int .i64 0, .string (⟨#[]⟩ : ByteArray), .string (⟨#[]⟩ : ByteArray), .int .i64 0, .int .i64 0, .int .i64 0] 26 (0, 0))) ∧ Aside0 (Below w.heap.size w wc))
 case first =>
  have H := HC3.out
  clear HC3
  by_cases c5 : a1 < 0
  ·
   rw [if_pos c5] at H
   have c5b0 : decide (a1 < 0) = true := decide_eq_true c5
   clear c5
   (first | rw [c5b0] | (simp only [i64_w, i32_w]; rw [c5b0]) | skip)
   have H' := Aside0.mk H
   clear H
   go_wp2
   go_meet
   case rel => exact ⟨_, (true), z8_20, H', ⟨by first | omega | exact Nat.le_refl _⟩, ⟨z8_2⟩, ⟨z8_4⟩⟩
  ·
   rw [if_neg c5] at H
   have c5b0 : decide (a1 < 0) = false := decide_eq_false c5
   clear c5
   (first | rw [c5b0] | (simp only [i64_w, i32_w]; rw [c5b0]) | skip)
   have H' := Aside0.mk H
   clear H
   go_wp2
   go_meet
   case rel => exact ⟨_, (decide (a1 > (a0.size : Int))), z8_20, H', ⟨by first | omega | exact Nat.le_refl _⟩, ⟨z8_2⟩, ⟨z8_4⟩⟩
 case rest =>
  clear HC3
  try clear p2
  try clear c4
  try clear c5
  try clear c5b0
  obtain ⟨kq, x18_2, rfl, HA, HJ2, BK221, HB⟩ := hcut
  cases kq with
  | zero => exact absurd HA.out (by simp [spec_ReadAct.j0])
  | succ kj2 =>
   have H := HA.out
   clear HA
   simp only [spec_ReadAct.j0] at H
   by_cases c6 : x18_2 = true
   ·
    subst c6
    have H1 : (some (0, 0, 0, ([] : List Int), 0, (⟨#[]⟩ : ByteArray), (⟨#[]⟩ : ByteArray), 0, 0, 0, 0, false)) = some (r1, r2, r3, r4, r5, r6, r7, r8, r9, r10, r11, r12) := by rw [if_pos rfl] at H; exact H
    clear H
    have H := H1
    clear H1
    simp only [Option.some.injEq, Prod.mk.injEq] at H
    obtain ⟨rfl, rfl, rfl, rfl, rfl, rfl, rfl, rfl, rfl, rfl, rfl, rfl⟩ := H
    have hcz7_0 : wc.cell? ⟨gb221, 0, none⟩ = some (.int .i64 0) := (blk_cell BK221.out 0).trans rfl
    have hcz7_1 : wc.cell? ⟨gb221, 1, none⟩ = some (.int .i64 0) := (blk_cell BK221.out 1).trans rfl
    have hcz7_2 : wc.cell? ⟨gb221, 2, none⟩ = some (.int .i64 0) := (blk_cell BK221.out 2).trans rfl
    have hcz7_3 : wc.cell? ⟨gb221, 3, none⟩ = some (.slice none 0 0) := (blk_cell BK221.out 3).trans rfl
    have hcz7_4 : wc.cell? ⟨gb221, 4, none⟩ = some (.int .i64 0) := (blk_cell BK221.out 4).trans rfl
    have hcz7_5 : wc.cell? ⟨gb221, 5, none⟩ = some (.string (⟨#[]⟩ : ByteArray)) := (blk_cell BK221.out 5).trans rfl
    have hcz7_6 : wc.cell? ⟨gb221, 6, none⟩ = some (.string (⟨#[]⟩ : ByteArray)) := (blk_cell BK221.out 6).trans rfl
    have hcz7_7 : wc.cell? ⟨gb221, 7, none⟩ = some (.int .i64 0) := (blk_cell BK221.out 7).trans rfl
    have hcz7_8 : wc.cell? ⟨gb221, 8, none⟩ = some (.int .i64 0) := (blk_cell BK221.out 8).trans rfl
    have hcz7_9 : wc.cell? ⟨gb221, 9, none⟩ = some (.int .i64 0) := (blk_cell BK221.out 9).trans rfl
    have hfz7_0 := blk_frozen BK221.out 0
    have hfz7_1 := blk_frozen BK221.out 1
    have hfz7_2 := blk_frozen BK221.out 2
    have hfz7_3 := blk_frozen BK221.out 3
    have hfz7_4 := blk_frozen BK221.out 4
    have hfz7_5 := blk_frozen BK221.out 5
    have hfz7_6 := blk_frozen BK221.out 6
    have hfz7_7 := blk_frozen BK221.out 7
    have hfz7_8 := blk_frozen BK221.out 8
    have hfz7_9 := blk_frozen BK221.out 9
    go_wp2
    refine bodyPost_ret (results_ctt rfl _ _ gb221 26 #[.int .i64 0, .int .i64 0, .int .i64 0, .slice none 0 0, .int .i64 0, .string (⟨#[]⟩ : ByteArray), .string (⟨#[]⟩ : ByteArray), .int .i64 0, .int .i64 0, .int .i64 0] (0, 0) _ rfl z8_0 Try.underlying26 rfl z8_27) rfl ?_
    exact ⟨_, z8_11, z8_22, z8_4⟩
   ·
    replace c6 := Bool.eq_false_iff.mpr c6
    subst c6
    have H1 : ((spec_l05Read_act.f kj2 a0 a1 false).bind fun bt223 => ((spec_ActText.f kj2 bt223.1 bt223.2.1 bt223.2.2.1 bt223.2.2.2.1 bt223.2.2.2.2.1 bt223.2.2.2.2.2.1 bt223.2.2.2.2.2.2.1 bt223.2.2.2.2.2.2.2.1 bt223.2.2.2.2.2.2.2.2.1 bt223.2.2.2.2.2.2.2.2.2.1).bind fun bt239 => (if bt223.2.2.2.2.2.2.2.2.2.2.2.2 = true then (some (0, 0, 0, ([] : List Int), 0, (⟨#[]⟩ : ByteArray), (⟨#[]⟩ : ByteArray), 0, 0, 0, 0, false)) else (if bt239.2 = true then (if 0 ≤ a1 then (if a1 ≤ bt223.2.2.2.2.2.2.2.2.2.2.2.1 then (if bt223.2.2.2.2.2.2.2.2.2.2.2.1 ≤ (a0.size : Int) then (if bt239.1.toList = (a0.extract (a1 : Int).toNat (bt223.2.2.2.2.2.2.2.2.2.2.2.1 : Int).toNat).toList then (some (bt223.1, bt223.2.1, bt223.2.2.1, bt223.2.2.2.1, bt223.2.2.2.2.1, bt223.2.2.2.2.2.1, bt223.2.2.2.2.2.2.1, bt223.2.2.2.2.2.2.2.1, bt223.2.2.2.2.2.2.2.2.1, bt223.2.2.2.2.2.2.2.2.2.1, bt223.2.2.2.2.2.2.2.2.2.2.2.1, true)) else (some (0, 0, 0, ([] : List Int), 0, (⟨#[]⟩ : ByteArray), (⟨#[]⟩ : ByteArray), 0, 0, 0, 0, false))) else (none)) else (none)) else (none)) else (some (0, 0, 0, ([] : List Int), 0, (⟨#[]⟩ : ByteArray), (⟨#[]⟩ : ByteArray), 0, 0, 0, 0, false)))))) = some (r1, r2, r3, r4, r5, r6, r7, r8, r9, r10, r11, r12) := by rw [if_neg (show ¬ (false = true) by decide)] at H; exact H
    clear H
    have H := H1
    clear H1
    replace H := Option.bind_eq_some_iff.mp H
    obtain ⟨⟨t223, t224, t225, t226, t229, t230, t231, t232, t233, t234, t235, t236, t237⟩, A80, H⟩ := H
    (try dsimp only at H)
    have A8 := Aside0.mk A80
    clear A80
    replace H := Option.bind_eq_some_iff.mp H
    obtain ⟨⟨t239, t240⟩, A90, H⟩ := H
    (try dsimp only at H)
    have A9 := Aside0.mk A90
    clear A90
    by_cases c10 : t237 = true
    ·
     subst c10
     have H1 : (some (0, 0, 0, ([] : List Int), 0, (⟨#[]⟩ : ByteArray), (⟨#[]⟩ : ByteArray), 0, 0, 0, 0, false)) = some (r1, r2, r3, r4, r5, r6, r7, r8, r9, r10, r11, r12) := by rw [if_pos rfl] at H; exact H
     clear H
     have H := H1
     clear H1
     simp only [Option.some.injEq, Prod.mk.injEq] at H
     obtain ⟨rfl, rfl, rfl, rfl, rfl, rfl, rfl, rfl, rfl, rfl, rfl, rfl⟩ := H
     go_wp2_with (first | ((with_reducible refine gate_dst (N := 23) rfl ?_); (try (refine gate_guard (by rfl) ?_; dsimp only)); refine box_event ?hg (N := 23) ?hd (cs := #[.string a0, .int .i64 a1, .bool false]) (t := 34) ?hr ?_; (case hd => rfl); (case hg => rfl); (case hr => first | (go_simp; done) | (go_simp; rfl)); intro gb222 hg w11 hbox hb; have n0_ := Aside0.mk (blk_below (g := gb221) (o := .cells #[.int .i64 0, .int .i64 0, .int .i64 0, .slice none 0 0, .int .i64 0, .string (⟨#[]⟩ : ByteArray), .string (⟨#[]⟩ : ByteArray), .int .i64 0, .int .i64 0, .int .i64 0] 26 (0, 0)) z8_2 hb); have n1_ := Aside0.mk (below_step z8_4 hb); have n2_ := Aside0.mk (hbox); have n3_ := Aside0.mk ((by rw [hg]; exact (below_size z8_4) : w.heap.size ≤ gb222)); have n4_ := Aside0.mk ((by rw [hg]; exact (below_size z8_4) : w.heap.size ≤ gb222)); have n5_ := Aside0.mk ((by rw [hg]; exact Nat.ne_of_lt (blk_lt (g := gb221) (o := .cells #[.int .i64 0, .int .i64 0, .int .i64 0, .slice none 0 0, .int .i64 0, .string (⟨#[]⟩ : ByteArray), .string (⟨#[]⟩ : ByteArray), .int .i64 0, .int .i64 0, .int .i64 0] 26 (0, 0)) z8_2) : gb221 ≠ gb222)); have n6_ := Aside0.mk ((by rw [hg]; exact Nat.ne_of_gt (blk_lt (g := gb221) (o := .cells #[.int .i64 0, .int .i64 0, .int .i64 0, .slice none 0 0, .int .i64 0, .string (⟨#[]⟩ : ByteArray), .string (⟨#[]⟩ : ByteArray), .int .i64 0, .int .i64 0, .int .i64 0] 26 (0, 0)) z8_2) : gb222 ≠ gb221)); clear BK221; clear HB; have BK221 := n0_; have HB := n1_; have BK222 := n2_; have GW222 := n3_; have GE222 := n4_; have NB221_222 := n5_; have NB222_221 := n6_; clear n0_ n1_ n2_ n3_ n4_ n5_ n6_; clear hb hbox hg) | ((with_reducible refine gate_callee (f := 9) rfl ?_); refine goesL_ (some 25) rfl rfl Try.func9 z8_27 rfl #[.pointer (some ⟨gb222, 0, none⟩)] rfl z8_10 ?_; (with_reducible refine (spec_l05Read_act.calls kj2 gb222 a0 a1 false t223 t224 t225 t226 t229 t230 t231 t232 t233 t234 t235 t236 true w _ ?side1 ?side2 A8.out).mono ?_); (case side1 => exact ⟨z8_24, GW222.out⟩); (case side2 => repeat (first | (with_reducible first | exact HB.out | apply below_alloc | apply pw_below_drewN | apply below_drew1 | refine below_set ?_ (IsS34.ge HI222.out) | refine below_set ?_ GE221.out) | exact HB.out)); rintro e w12 ⟨v227, rfl, ho0, hi, hb, hk⟩; refine ⟨_, rfl, ?_⟩; have n0_ := Aside0.mk (KeepBut.blk hk (g' := gb221) (o := .cells #[.int .i64 0, .int .i64 0, .int .i64 0, .slice none 0 0, .int .i64 0, .string (⟨#[]⟩ : ByteArray), .string (⟨#[]⟩ : ByteArray), .int .i64 0, .int .i64 0, .int .i64 0] 26 (0, 0)) z8_2 NB221_222.out (by simp)); have n1_ := Aside0.mk (Kd.R_lower ho0 (below_size z8_3)); have n2_ := Aside0.mk (hb); have n3_ := Aside0.mk (hi); clear BK221; clear HB; clear BK222; have BK221 := n0_; have HO228 := n1_; have HB := n2_; have HI222 := n3_; clear n0_ n1_ n2_ n3_; (try clear ho0)) | ((with_reducible refine gate_dst (N := 8) rfl ?_); (try (refine gate_guard (by rfl) ?_; dsimp only)); refine box_event ?hg (N := 8) ?hd (cs := #[.int .i64 0, .int .i64 0, .int .i64 0, .slice none 0 0, .int .i64 0, .string (⟨#[]⟩ : ByteArray), .string (⟨#[]⟩ : ByteArray), .int .i64 0, .int .i64 0, .int .i64 0]) (t := 26) ?hr ?_; (case hd => rfl); (case hg => rfl); (case hr => first | (go_simp; done) | (go_simp; rfl)); intro gb238 hg w13 hbox hb; have n0_ := Aside0.mk (Kd.R_below z8_25 hb); have n1_ := Aside0.mk (blk_below (g := gb221) (o := .cells #[.int .i64 0, .int .i64 0, .int .i64 0, .slice none 0 0, .int .i64 0, .string (⟨#[]⟩ : ByteArray), .string (⟨#[]⟩ : ByteArray), .int .i64 0, .int .i64 0, .int .i64 0] 26 (0, 0)) z8_2 hb); have n2_ := Aside0.mk (IsS34.below z8_13 hb); have n3_ := Aside0.mk (below_step z8_3 hb); have n4_ := Aside0.mk (hbox); have n5_ := Aside0.mk ((by rw [hg]; exact (below_size z8_3) : w.heap.size ≤ gb238)); have n6_ := Aside0.mk ((by rw [hg]; exact (below_size z8_3) : w.heap.size ≤ gb238)); have n7_ := Aside0.mk ((by rw [hg]; exact Nat.ne_of_lt (blk_lt (g := gb221) (o := .cells #[.int .i64 0, .int .i64 0, .int .i64 0, .slice none 0 0, .int .i64 0, .string (⟨#[]⟩ : ByteArray), .string (⟨#[]⟩ : ByteArray), .int .i64 0, .int .i64 0, .int .i64 0] 26 (0, 0)) z8_2) : gb221 ≠ gb238)); have n8_ := Aside0.mk ((by rw [hg]; exact Nat.ne_of_gt (blk_lt (g := gb221) (o := .cells #[.int .i64 0, .int .i64 0, .int .i64 0, .slice none 0 0, .int .i64 0, .string (⟨#[]⟩ : ByteArray), .string (⟨#[]⟩ : ByteArray), .int .i64 0, .int .i64 0, .int .i64 0] 26 (0, 0)) z8_2) : gb238 ≠ gb221)); have n9_ := Aside0.mk ((by rw [hg]; exact Nat.ne_of_lt (IsS34.lt (show IsS34 w _ gb222 t235 t236 true from by repeat (first | (with_reducible first | exact HI222.out | apply IsS34.alloc | apply IsS34.drewN | apply IsS34.drew | apply IsS34.set_0 | apply IsS34.set_1 | apply IsS34.set_2 | refine IsS34.far ?_ NB222_221.out _) | exact HI222.out))) : gb222 ≠ gb238)); have n10_ := Aside0.mk ((by rw [hg]; exact Nat.ne_of_gt (IsS34.lt (show IsS34 w _ gb222 t235 t236 true from by repeat (first | (with_reducible first | exact HI222.out | apply IsS34.alloc | apply IsS34.drewN | apply IsS34.drew | apply IsS34.set_0 | apply IsS34.set_1 | apply IsS34.set_2 | refine IsS34.far ?_ NB222_221.out _) | exact HI222.out))) : gb238 ≠ gb222)); clear HO228; clear BK221; clear HI222; clear HB; have HO228 := n0_; have BK221 := n1_; have HI222 := n2_; have HB := n3_; have BK238 := n4_; have GW238 := n5_; have GE238 := n6_; have NB221_238 := n7_; have NB238_221 := n8_; have NB222_238 := n9_; have NB238_222 := n10_; clear n0_ n1_ n2_ n3_ n4_ n5_ n6_ n7_ n8_ n9_ n10_; clear hb hbox hg; have hnb14 := NB238_221.out; have hnc14 := NB221_238.out; have hnb15 := NB238_222.out; have hnc15 := NB222_238.out; have hcz16_0 : w13.cell? ⟨gb238, 0, none⟩ = some (.int .i64 0) := (blk_cell BK238.out 0).trans rfl; have hcz16_1 : w13.cell? ⟨gb238, 1, none⟩ = some (.int .i64 0) := (blk_cell BK238.out 1).trans rfl; have hcz16_2 : w13.cell? ⟨gb238, 2, none⟩ = some (.int .i64 0) := (blk_cell BK238.out 2).trans rfl; have hcz16_3 : w13.cell? ⟨gb238, 3, none⟩ = some (.slice none 0 0) := (blk_cell BK238.out 3).trans rfl; have hcz16_4 : w13.cell? ⟨gb238, 4, none⟩ = some (.int .i64 0) := (blk_cell BK238.out 4).trans rfl; have hcz16_5 : w13.cell? ⟨gb238, 5, none⟩ = some (.string (⟨#[]⟩ : ByteArray)) := (blk_cell BK238.out 5).trans rfl; have hcz16_6 : w13.cell? ⟨gb238, 6, none⟩ = some (.string (⟨#[]⟩ : ByteArray)) := (blk_cell BK238.out 6).trans rfl; have hcz16_7 : w13.cell? ⟨gb238, 7, none⟩ = some (.int .i64 0) := (blk_cell BK238.out 7).trans rfl; have hcz16_8 : w13.cell? ⟨gb238, 8, none⟩ = some (.int .i64 0) := (blk_cell BK238.out 8).trans rfl; have hcz16_9 : w13.cell? ⟨gb238, 9, none⟩ = some (.int .i64 0) := (blk_cell BK238.out 9).trans rfl; have hfz16_0 := blk_frozen BK238.out 0; have hfz16_1 := blk_frozen BK238.out 1; have hfz16_2 := blk_frozen BK238.out 2; have hfz16_3 := blk_frozen BK238.out 3; have hfz16_4 := blk_frozen BK238.out 4; have hfz16_5 := blk_frozen BK238.out 5; have hfz16_6 := blk_frozen BK238.out 6; have hfz16_7 := blk_frozen BK238.out 7; have hfz16_8 := blk_frozen BK238.out 8; have hfz16_9 := blk_frozen BK238.out 9; obtain ⟨Ao17, co17, eo17⟩ := Kd.R_slice HO228.out; subst eo17) | ((with_reducible refine gate_callee (f := 10) rfl ?_); refine goesL_ (some 28) rfl rfl Try.func10 z8_27 rfl #[.agg #[.int .i64 t223, .int .i64 t224, .int .i64 t225, .slice Ao17 t226.length co17, .int .i64 t229, .string t230, .string t231, .int .i64 t232, .int .i64 t233, .int .i64 t234]] rfl z8_10 ?_; (with_reducible refine (spec_ActText.calls kj2 t223 t224 t225 _ _ t226 t229 t230 t231 t232 t233 t234 t239 t240 _ ?side1 ?side2 A9.out).mono ?_); (case side1 => refine (Kd.R_reads' (e := 3) (base := w.heap.size) (ok := fun k_ => True) (n := t226.length) (c := co17) ?_).2.2; exact z8_9); (case side2 => exact (Kd.R_reads' HO228.out).2.1); rintro e w18 ⟨rfl, hb⟩; refine ⟨_, rfl, ?_⟩; have n0_ := Aside0.mk (Kd.R_below z8_9 hb); have n1_ := Aside0.mk (blk_below (g := gb221) (o := .cells #[.int .i64 0, .int .i64 0, .int .i64 0, .slice none 0 0, .int .i64 0, .string (⟨#[]⟩ : ByteArray), .string (⟨#[]⟩ : ByteArray), .int .i64 0, .int .i64 0, .int .i64 0] 26 (0, 0)) z8_1 hb); have n2_ := Aside0.mk (IsS34.below (show IsS34 w ((((((((((w13.setCell ⟨gb238, 0, none⟩ (.int .i64 t223)).setCell ⟨gb238, 1, none⟩ (.int .i64 t224)).setCell ⟨gb238, 2, none⟩ (.int .i64 t225)).setCell ⟨gb238, 3, none⟩ (.slice Ao17 t226.length co17)).setCell ⟨gb238, 4, none⟩ (.int .i64 t229)).setCell ⟨gb238, 5, none⟩ (.string t230)).setCell ⟨gb238, 6, none⟩ (.string t231)).setCell ⟨gb238, 7, none⟩ (.int .i64 t232)).setCell ⟨gb238, 8, none⟩ (.int .i64 t233)).setCell ⟨gb238, 9, none⟩ (.int .i64 t234)) gb222 t235 t236 true from by repeat (first | (with_reducible first | exact HI222.out | apply IsS34.alloc | apply IsS34.drewN | apply IsS34.drew | apply IsS34.set_0 | apply IsS34.set_1 | apply IsS34.set_2 | refine IsS34.far ?_ NB222_221.out _ | refine IsS34.far ?_ NB222_238.out _) | exact HI222.out)) hb); have n3_ := Aside0.mk (blk_below (g := gb238) (o := .cells #[.int .i64 t223, .int .i64 t224, .int .i64 t225, .slice Ao17 t226.length co17, .int .i64 t229, .string t230, .string t231, .int .i64 t232, .int .i64 t233, .int .i64 t234] 26 (0, 0)) (by (with_reducible repeat (first | refine blk_drewN ?_ _ | refine blk_drew ?_ | refine blk_alloc ?_ _)); refine blk_put (cs := #[.int .i64 t223, .int .i64 t224, .int .i64 t225, .slice Ao17 t226.length co17, .int .i64 t229, .string t230, .string t231, .int .i64 t232, .int .i64 t233, .int .i64 0]) ?_ 9 _ rfl; (with_reducible repeat (first | refine blk_drewN ?_ _ | refine blk_drew ?_ | refine blk_alloc ?_ _)); refine blk_put (cs := #[.int .i64 t223, .int .i64 t224, .int .i64 t225, .slice Ao17 t226.length co17, .int .i64 t229, .string t230, .string t231, .int .i64 t232, .int .i64 0, .int .i64 0]) ?_ 8 _ rfl; (with_reducible repeat (first | refine blk_drewN ?_ _ | refine blk_drew ?_ | refine blk_alloc ?_ _)); refine blk_put (cs := #[.int .i64 t223, .int .i64 t224, .int .i64 t225, .slice Ao17 t226.length co17, .int .i64 t229, .string t230, .string t231, .int .i64 0, .int .i64 0, .int .i64 0]) ?_ 7 _ rfl; (with_reducible repeat (first | refine blk_drewN ?_ _ | refine blk_drew ?_ | refine blk_alloc ?_ _)); refine blk_put (cs := #[.int .i64 t223, .int .i64 t224, .int .i64 t225, .slice Ao17 t226.length co17, .int .i64 t229, .string t230, .string (⟨#[]⟩ : ByteArray), .int .i64 0, .int .i64 0, .int .i64 0]) ?_ 6 _ rfl; (with_reducible repeat (first | refine blk_drewN ?_ _ | refine blk_drew ?_ | refine blk_alloc ?_ _)); refine blk_put (cs := #[.int .i64 t223, .int .i64 t224, .int .i64 t225, .slice Ao17 t226.length co17, .int .i64 t229, .string (⟨#[]⟩ : ByteArray), .string (⟨#[]⟩ : ByteArray), .int .i64 0, .int .i64 0, .int .i64 0]) ?_ 5 _ rfl; (with_reducible repeat (first | refine blk_drewN ?_ _ | refine blk_drew ?_ | refine blk_alloc ?_ _)); refine blk_put (cs := #[.int .i64 t223, .int .i64 t224, .int .i64 t225, .slice Ao17 t226.length co17, .int .i64 0, .string (⟨#[]⟩ : ByteArray), .string (⟨#[]⟩ : ByteArray), .int .i64 0, .int .i64 0, .int .i64 0]) ?_ 4 _ rfl; (with_reducible repeat (first | refine blk_drewN ?_ _ | refine blk_drew ?_ | refine blk_alloc ?_ _)); refine blk_put (cs := #[.int .i64 t223, .int .i64 t224, .int .i64 t225, .slice none 0 0, .int .i64 0, .string (⟨#[]⟩ : ByteArray), .string (⟨#[]⟩ : ByteArray), .int .i64 0, .int .i64 0, .int .i64 0]) ?_ 3 _ rfl; (with_reducible repeat (first | refine blk_drewN ?_ _ | refine blk_drew ?_ | refine blk_alloc ?_ _)); refine blk_put (cs := #[.int .i64 t223, .int .i64 t224, .int .i64 0, .slice none 0 0, .int .i64 0, .string (⟨#[]⟩ : ByteArray), .string (⟨#[]⟩ : ByteArray), .int .i64 0, .int .i64 0, .int .i64 0]) ?_ 2 _ rfl; (with_reducible repeat (first | refine blk_drewN ?_ _ | refine blk_drew ?_ | refine blk_alloc ?_ _)); refine blk_put (cs := #[.int .i64 t223, .int .i64 0, .int .i64 0, .slice none 0 0, .int .i64 0, .string (⟨#[]⟩ : ByteArray), .string (⟨#[]⟩ : ByteArray), .int .i64 0, .int .i64 0, .int .i64 0]) ?_ 1 _ rfl; (with_reducible repeat (first | refine blk_drewN ?_ _ | refine blk_drew ?_ | refine blk_alloc ?_ _)); refine blk_put (cs := #[.int .i64 0, .int .i64 0, .int .i64 0, .slice none 0 0, .int .i64 0, .string (⟨#[]⟩ : ByteArray), .string (⟨#[]⟩ : ByteArray), .int .i64 0, .int .i64 0, .int .i64 0]) ?_ 0 _ rfl; (with_reducible repeat (first | refine blk_drewN ?_ _ | refine blk_drew ?_ | refine blk_alloc ?_ _)); exact BK238.out) hb); have n4_ := Aside0.mk (below_step z8_5 hb); clear HO228; clear BK221; clear HI222; clear BK238; clear HB; have HO228 := n0_; have BK221 := n1_; have HI222 := n2_; have BK238 := n3_; have HB := n4_; clear n0_ n1_ n2_ n3_ n4_; obtain ⟨HGz19, hgz19⟩ := HI222.out; have hcz19_0 := cellS34_0 HGz19; have hcz19_1 := cellS34_1 HGz19; have hcz19_2 := cellS34_2 HGz19; have hfz19_0 := blk_frozen HGz19 0; have hfz19_1 := blk_frozen HGz19 1; have hfz19_2 := blk_frozen HGz19 2; clear HGz19 hgz19; have hnb20 := NB221_222.out; have hnc20 := NB222_221.out; have hcz21_0 : w18.cell? ⟨gb221, 0, none⟩ = some (.int .i64 0) := (blk_cell BK221.out 0).trans rfl; have hcz21_1 : w18.cell? ⟨gb221, 1, none⟩ = some (.int .i64 0) := (blk_cell BK221.out 1).trans rfl; have hcz21_2 : w18.cell? ⟨gb221, 2, none⟩ = some (.int .i64 0) := (blk_cell BK221.out 2).trans rfl; have hcz21_3 : w18.cell? ⟨gb221, 3, none⟩ = some (.slice none 0 0) := (blk_cell BK221.out 3).trans rfl; have hcz21_4 : w18.cell? ⟨gb221, 4, none⟩ = some (.int .i64 0) := (blk_cell BK221.out 4).trans rfl; have hcz21_5 : w18.cell? ⟨gb221, 5, none⟩ = some (.string (⟨#[]⟩ : ByteArray)) := (blk_cell BK221.out 5).trans rfl; have hcz21_6 : w18.cell? ⟨gb221, 6, none⟩ = some (.string (⟨#[]⟩ : ByteArray)) := (blk_cell BK221.out 6).trans rfl; have hcz21_7 : w18.cell? ⟨gb221, 7, none⟩ = some (.int .i64 0) := (blk_cell BK221.out 7).trans rfl; have hcz21_8 : w18.cell? ⟨gb221, 8, none⟩ = some (.int .i64 0) := (blk_cell BK221.out 8).trans rfl; have hcz21_9 : w18.cell? ⟨gb221, 9, none⟩ = some (.int .i64 0) := (blk_cell BK221.out 9).trans rfl; have hfz21_0 := blk_frozen BK221.out 0; have hfz21_1 := blk_frozen BK221.out 1; have hfz21_2 := blk_frozen BK221.out 2; have hfz21_3 := blk_frozen BK221.out 3; have hfz21_4 := blk_frozen BK221.out 4; have hfz21_5 := blk_frozen BK221.out 5; have hfz21_6 := blk_frozen BK221.out 6; have hfz21_7 := blk_frozen BK221.out 7; have hfz21_8 := blk_frozen BK221.out 8; have hfz21_9 := blk_frozen BK221.out 9))
     refine bodyPost_ret (results_ctt rfl _ _ gb221 26 #[.int .i64 0, .int .i64 0, .int .i64 0, .slice none 0 0, .int .i64 0, .string (⟨#[]⟩ : ByteArray), .string (⟨#[]⟩ : ByteArray), .int .i64 0, .int .i64 0, .int .i64 0] (0, 0) _ rfl z8_0 Try.underlying26 rfl z8_27) rfl ?_
     exact ⟨_, z8_11, z8_22, z8_5⟩
    ·
     replace c10 := Bool.eq_false_iff.mpr c10
     subst c10
     have H1 : (if t240 = true then (if 0 ≤ a1 then (if a1 ≤ t236 then (if t236 ≤ (a0.size : Int) then (if t239.toList = (a0.extract (a1 : Int).toNat (t236 : Int).toNat).toList then (some (t223, t224, t225, t226, t229, t230, t231, t232, t233, t234, t236, true)) else (some (0, 0, 0, ([] : List Int), 0, (⟨#[]⟩ : ByteArray), (⟨#[]⟩ : ByteArray), 0, 0, 0, 0, false))) else (none)) else (none)) else (none)) else (some (0, 0, 0, ([] : List Int), 0, (⟨#[]⟩ : ByteArray), (⟨#[]⟩ : ByteArray), 0, 0, 0, 0, false))) = some (r1, r2, r3, r4, r5, r6, r7, r8, r9, r10, r11, r12) := by rw [if_neg (show ¬ (false = true) by decide)] at H; exact H
     clear H
     have H := H1
     clear H1
     by_cases c22 : t240 = true
     ·
      subst c22
      have H1 : (if 0 ≤ a1 then (if a1 ≤ t236 then (if t236 ≤ (a0.size : Int) then (if t239.toList = (a0.extract (a1 : Int).toNat (t236 : Int).toNat).toList then (some (t223, t224, t225, t226, t229, t230, t231, t232, t233, t234, t236, true)) else (some (0, 0, 0, ([] : List Int), 0, (⟨#[]⟩ : ByteArray), (⟨#[]⟩ : ByteArray), 0, 0, 0, 0, false))) else (none)) else (none)) else (none)) = some (r1, r2, r3, r4, r5, r6, r7, r8, r9, r10, r11, r12) := by rw [if_pos rfl] at H; exact H
      clear H
      have H := H1
      clear H1
      by_cases c23 : 0 ≤ a1
      ·
       rw [if_pos c23] at H
       have c23b0 := eq_true c23
       have c23b1 : decide (0 ≤ a1) = true := decide_eq_true c23
       clear c23
       by_cases c24 : a1 ≤ t236
       ·
        rw [if_pos c24] at H
        have c24b0 := eq_true c24
        have c24b1 : decide (a1 ≤ t236) = true := decide_eq_true c24
        clear c24
        by_cases c25 : t236 ≤ (a0.size : Int)
        ·
         rw [if_pos c25] at H
         have c25b0 := eq_true c25
         have c25b1 : decide (t236 ≤ (a0.size : Int)) = true := decide_eq_true c25
         clear c25
         by_cases c26 : t239.toList = (a0.extract (a1 : Int).toNat (t236 : Int).toNat).toList
         ·
          rw [if_pos c26] at H
          have c26b0 : (t239.toList == (a0.extract (a1 : Int).toNat (t236 : Int).toNat).toList) = true := beq_iff_eq.mpr c26
          have c26b1 : (t239.toList != (a0.extract (a1 : Int).toNat (t236 : Int).toNat).toList) = false := bne_eq_false_iff_eq.mpr c26
          clear c26
          simp only [Option.some.injEq, Prod.mk.injEq] at H
          obtain ⟨rfl, rfl, rfl, rfl, rfl, rfl, rfl, rfl, rfl, rfl, rfl, rfl⟩ := H
          try go_wp2_with (first | ((with_reducible refine gate_dst (N := 23) rfl ?_); (try (refine gate_guard (by rfl) ?_; dsimp only)); refine box_event ?hg (N := 23) ?hd (cs := #[.string a0, .int .i64 a1, .bool false]) (t := 34) ?hr ?_; (case hd => rfl); (case hg => rfl); (case hr => first | (go_simp; done) | (go_simp; rfl)); intro gb222 hg w27 hbox hb; have n0_ := Aside0.mk (blk_below (g := gb221) (o := .cells #[.int .i64 0, .int .i64 0, .int .i64 0, .slice none 0 0, .int .i64 0, .string (⟨#[]⟩ : ByteArray), .string (⟨#[]⟩ : ByteArray), .int .i64 0, .int .i64 0, .int .i64 0] 26 (0, 0)) z8_2 hb); have n1_ := Aside0.mk (below_step z8_4 hb); have n2_ := Aside0.mk (hbox); have n3_ := Aside0.mk ((by rw [hg]; exact (below_size z8_4) : w.heap.size ≤ gb222)); have n4_ := Aside0.mk ((by rw [hg]; exact (below_size z8_4) : w.heap.size ≤ gb222)); have n5_ := Aside0.mk ((by rw [hg]; exact Nat.ne_of_lt (blk_lt (g := gb221) (o := .cells #[.int .i64 0, .int .i64 0, .int .i64 0, .slice none 0 0, .int .i64 0, .string (⟨#[]⟩ : ByteArray), .string (⟨#[]⟩ : ByteArray), .int .i64 0, .int .i64 0, .int .i64 0] 26 (0, 0)) z8_2) : gb221 ≠ gb222)); have n6_ := Aside0.mk ((by rw [hg]; exact Nat.ne_of_gt (blk_lt (g := gb221) (o := .cells #[.int .i64 0, .int .i64 0, .int .i64 0, .slice none 0 0, .int .i64 0, .string (⟨#[]⟩ : ByteArray), .string (⟨#[]⟩ : ByteArray), .int .i64 0, .int .i64 0, .int .i64 0] 26 (0, 0)) z8_2) : gb222 ≠ gb221)); clear BK221; clear HB; have BK221 := n0_; have HB := n1_; have BK222 := n2_; have GW222 := n3_; have GE222 := n4_; have NB221_222 := n5_; have NB222_221 := n6_; clear n0_ n1_ n2_ n3_ n4_ n5_ n6_; clear hb hbox hg) | ((with_reducible refine gate_callee (f := 9) rfl ?_); refine goesL_ (some 25) rfl rfl Try.func9 z8_27 rfl #[.pointer (some ⟨gb222, 0, none⟩)] rfl z8_10 ?_; (with_reducible refine (spec_l05Read_act.calls kj2 gb222 a0 a1 false t223 t224 t225 t226 t229 t230 t231 t232 t233 t234 t235 t236 false w _ ?side1 ?side2 A8.out).mono ?_); (case side1 => exact ⟨z8_24, GW222.out⟩); (case side2 => repeat (first | (with_reducible first | exact HB.out | apply below_alloc | apply pw_below_drewN | apply below_drew1 | refine below_set ?_ (IsS34.ge HI222.out) | refine below_set ?_ GE221.out) | exact HB.out)); rintro e w28 ⟨v227, rfl, ho0, hi, hb, hk⟩; refine ⟨_, rfl, ?_⟩; have n0_ := Aside0.mk (KeepBut.blk hk (g' := gb221) (o := .cells #[.int .i64 0, .int .i64 0, .int .i64 0, .slice none 0 0, .int .i64 0, .string (⟨#[]⟩ : ByteArray), .string (⟨#[]⟩ : ByteArray), .int .i64 0, .int .i64 0, .int .i64 0] 26 (0, 0)) z8_2 NB221_222.out (by simp)); have n1_ := Aside0.mk (Kd.R_lower ho0 (below_size z8_3)); have n2_ := Aside0.mk (hb); have n3_ := Aside0.mk (hi); clear BK221; clear HB; clear BK222; have BK221 := n0_; have HO228 := n1_; have HB := n2_; have HI222 := n3_; clear n0_ n1_ n2_ n3_; (try clear ho0)) | ((with_reducible refine gate_dst (N := 8) rfl ?_); (try (refine gate_guard (by rfl) ?_; dsimp only)); refine box_event ?hg (N := 8) ?hd (cs := #[.int .i64 0, .int .i64 0, .int .i64 0, .slice none 0 0, .int .i64 0, .string (⟨#[]⟩ : ByteArray), .string (⟨#[]⟩ : ByteArray), .int .i64 0, .int .i64 0, .int .i64 0]) (t := 26) ?hr ?_; (case hd => rfl); (case hg => rfl); (case hr => first | (go_simp; done) | (go_simp; rfl)); intro gb238 hg w29 hbox hb; have n0_ := Aside0.mk (Kd.R_below z8_25 hb); have n1_ := Aside0.mk (blk_below (g := gb221) (o := .cells #[.int .i64 0, .int .i64 0, .int .i64 0, .slice none 0 0, .int .i64 0, .string (⟨#[]⟩ : ByteArray), .string (⟨#[]⟩ : ByteArray), .int .i64 0, .int .i64 0, .int .i64 0] 26 (0, 0)) z8_2 hb); have n2_ := Aside0.mk (IsS34.below z8_13 hb); have n3_ := Aside0.mk (below_step z8_3 hb); have n4_ := Aside0.mk (hbox); have n5_ := Aside0.mk ((by rw [hg]; exact (below_size z8_3) : w.heap.size ≤ gb238)); have n6_ := Aside0.mk ((by rw [hg]; exact (below_size z8_3) : w.heap.size ≤ gb238)); have n7_ := Aside0.mk ((by rw [hg]; exact Nat.ne_of_lt (blk_lt (g := gb221) (o := .cells #[.int .i64 0, .int .i64 0, .int .i64 0, .slice none 0 0, .int .i64 0, .string (⟨#[]⟩ : ByteArray), .string (⟨#[]⟩ : ByteArray), .int .i64 0, .int .i64 0, .int .i64 0] 26 (0, 0)) z8_2) : gb221 ≠ gb238)); have n8_ := Aside0.mk ((by rw [hg]; exact Nat.ne_of_gt (blk_lt (g := gb221) (o := .cells #[.int .i64 0, .int .i64 0, .int .i64 0, .slice none 0 0, .int .i64 0, .string (⟨#[]⟩ : ByteArray), .string (⟨#[]⟩ : ByteArray), .int .i64 0, .int .i64 0, .int .i64 0] 26 (0, 0)) z8_2) : gb238 ≠ gb221)); have n9_ := Aside0.mk ((by rw [hg]; exact Nat.ne_of_lt (IsS34.lt (show IsS34 w _ gb222 t235 t236 false from by repeat (first | (with_reducible first | exact HI222.out | apply IsS34.alloc | apply IsS34.drewN | apply IsS34.drew | apply IsS34.set_0 | apply IsS34.set_1 | apply IsS34.set_2 | refine IsS34.far ?_ NB222_221.out _) | exact HI222.out))) : gb222 ≠ gb238)); have n10_ := Aside0.mk ((by rw [hg]; exact Nat.ne_of_gt (IsS34.lt (show IsS34 w _ gb222 t235 t236 false from by repeat (first | (with_reducible first | exact HI222.out | apply IsS34.alloc | apply IsS34.drewN | apply IsS34.drew | apply IsS34.set_0 | apply IsS34.set_1 | apply IsS34.set_2 | refine IsS34.far ?_ NB222_221.out _) | exact HI222.out))) : gb238 ≠ gb222)); clear HO228; clear BK221; clear HI222; clear HB; have HO228 := n0_; have BK221 := n1_; have HI222 := n2_; have HB := n3_; have BK238 := n4_; have GW238 := n5_; have GE238 := n6_; have NB221_238 := n7_; have NB238_221 := n8_; have NB222_238 := n9_; have NB238_222 := n10_; clear n0_ n1_ n2_ n3_ n4_ n5_ n6_ n7_ n8_ n9_ n10_; clear hb hbox hg; have hnb30 := NB238_221.out; have hnc30 := NB221_238.out; have hnb31 := NB238_222.out; have hnc31 := NB222_238.out; have hcz32_0 : w29.cell? ⟨gb238, 0, none⟩ = some (.int .i64 0) := (blk_cell BK238.out 0).trans rfl; have hcz32_1 : w29.cell? ⟨gb238, 1, none⟩ = some (.int .i64 0) := (blk_cell BK238.out 1).trans rfl; have hcz32_2 : w29.cell? ⟨gb238, 2, none⟩ = some (.int .i64 0) := (blk_cell BK238.out 2).trans rfl; have hcz32_3 : w29.cell? ⟨gb238, 3, none⟩ = some (.slice none 0 0) := (blk_cell BK238.out 3).trans rfl; have hcz32_4 : w29.cell? ⟨gb238, 4, none⟩ = some (.int .i64 0) := (blk_cell BK238.out 4).trans rfl; have hcz32_5 : w29.cell? ⟨gb238, 5, none⟩ = some (.string (⟨#[]⟩ : ByteArray)) := (blk_cell BK238.out 5).trans rfl; have hcz32_6 : w29.cell? ⟨gb238, 6, none⟩ = some (.string (⟨#[]⟩ : ByteArray)) := (blk_cell BK238.out 6).trans rfl; have hcz32_7 : w29.cell? ⟨gb238, 7, none⟩ = some (.int .i64 0) := (blk_cell BK238.out 7).trans rfl; have hcz32_8 : w29.cell? ⟨gb238, 8, none⟩ = some (.int .i64 0) := (blk_cell BK238.out 8).trans rfl; have hcz32_9 : w29.cell? ⟨gb238, 9, none⟩ = some (.int .i64 0) := (blk_cell BK238.out 9).trans rfl; have hfz32_0 := blk_frozen BK238.out 0; have hfz32_1 := blk_frozen BK238.out 1; have hfz32_2 := blk_frozen BK238.out 2; have hfz32_3 := blk_frozen BK238.out 3; have hfz32_4 := blk_frozen BK238.out 4; have hfz32_5 := blk_frozen BK238.out 5; have hfz32_6 := blk_frozen BK238.out 6; have hfz32_7 := blk_frozen BK238.out 7; have hfz32_8 := blk_frozen BK238.out 8; have hfz32_9 := blk_frozen BK238.out 9; obtain ⟨Ao33, co33, eo33⟩ := Kd.R_slice HO228.out; subst eo33) | ((with_reducible refine gate_callee (f := 10) rfl ?_); refine goesL_ (some 28) rfl rfl Try.func10 z8_27 rfl #[.agg #[.int .i64 t223, .int .i64 t224, .int .i64 t225, .slice Ao33 t226.length co33, .int .i64 t229, .string t230, .string t231, .int .i64 t232, .int .i64 t233, .int .i64 t234]] rfl z8_10 ?_; (with_reducible refine (spec_ActText.calls kj2 t223 t224 t225 _ _ t226 t229 t230 t231 t232 t233 t234 t239 true _ ?side1 ?side2 A9.out).mono ?_); (case side1 => refine (Kd.R_reads' (e := 3) (base := w.heap.size) (ok := fun k_ => True) (n := t226.length) (c := co33) ?_).2.2; exact z8_8); (case side2 => exact (Kd.R_reads' HO228.out).2.1); rintro e w34 ⟨rfl, hb⟩; refine ⟨_, rfl, ?_⟩; have n0_ := Aside0.mk (Kd.R_below z8_8 hb); have n1_ := Aside0.mk (blk_below (g := gb221) (o := .cells #[.int .i64 0, .int .i64 0, .int .i64 0, .slice none 0 0, .int .i64 0, .string (⟨#[]⟩ : ByteArray), .string (⟨#[]⟩ : ByteArray), .int .i64 0, .int .i64 0, .int .i64 0] 26 (0, 0)) z8_1 hb); have n2_ := Aside0.mk (IsS34.below (show IsS34 w ((((((((((w29.setCell ⟨gb238, 0, none⟩ (.int .i64 t223)).setCell ⟨gb238, 1, none⟩ (.int .i64 t224)).setCell ⟨gb238, 2, none⟩ (.int .i64 t225)).setCell ⟨gb238, 3, none⟩ (.slice Ao33 t226.length co33)).setCell ⟨gb238, 4, none⟩ (.int .i64 t229)).setCell ⟨gb238, 5, none⟩ (.string t230)).setCell ⟨gb238, 6, none⟩ (.string t231)).setCell ⟨gb238, 7, none⟩ (.int .i64 t232)).setCell ⟨gb238, 8, none⟩ (.int .i64 t233)).setCell ⟨gb238, 9, none⟩ (.int .i64 t234)) gb222 t235 t236 false from by repeat (first | (with_reducible first | exact HI222.out | apply IsS34.alloc | apply IsS34.drewN | apply IsS34.drew | apply IsS34.set_0 | apply IsS34.set_1 | apply IsS34.set_2 | refine IsS34.far ?_ NB222_221.out _ | refine IsS34.far ?_ NB222_238.out _) | exact HI222.out)) hb); have n3_ := Aside0.mk (blk_below (g := gb238) (o := .cells #[.int .i64 t223, .int .i64 t224, .int .i64 t225, .slice Ao33 t226.length co33, .int .i64 t229, .string t230, .string t231, .int .i64 t232, .int .i64 t233, .int .i64 t234] 26 (0, 0)) (by (with_reducible repeat (first | refine blk_drewN ?_ _ | refine blk_drew ?_ | refine blk_alloc ?_ _)); refine blk_put (cs := #[.int .i64 t223, .int .i64 t224, .int .i64 t225, .slice Ao33 t226.length co33, .int .i64 t229, .string t230, .string t231, .int .i64 t232, .int .i64 t233, .int .i64 0]) ?_ 9 _ rfl; (with_reducible repeat (first | refine blk_drewN ?_ _ | refine blk_drew ?_ | refine blk_alloc ?_ _)); refine blk_put (cs := #[.int .i64 t223, .int .i64 t224, .int .i64 t225, .slice Ao33 t226.length co33, .int .i64 t229, .string t230, .string t231, .int .i64 t232, .int .i64 0, .int .i64 0]) ?_ 8 _ rfl; (with_reducible repeat (first | refine blk_drewN ?_ _ | refine blk_drew ?_ | refine blk_alloc ?_ _)); refine blk_put (cs := #[.int .i64 t223, .int .i64 t224, .int .i64 t225, .slice Ao33 t226.length co33, .int .i64 t229, .string t230, .string t231, .int .i64 0, .int .i64 0, .int .i64 0]) ?_ 7 _ rfl; (with_reducible repeat (first | refine blk_drewN ?_ _ | refine blk_drew ?_ | refine blk_alloc ?_ _)); refine blk_put (cs := #[.int .i64 t223, .int .i64 t224, .int .i64 t225, .slice Ao33 t226.length co33, .int .i64 t229, .string t230, .string (⟨#[]⟩ : ByteArray), .int .i64 0, .int .i64 0, .int .i64 0]) ?_ 6 _ rfl; (with_reducible repeat (first | refine blk_drewN ?_ _ | refine blk_drew ?_ | refine blk_alloc ?_ _)); refine blk_put (cs := #[.int .i64 t223, .int .i64 t224, .int .i64 t225, .slice Ao33 t226.length co33, .int .i64 t229, .string (⟨#[]⟩ : ByteArray), .string (⟨#[]⟩ : ByteArray), .int .i64 0, .int .i64 0, .int .i64 0]) ?_ 5 _ rfl; (with_reducible repeat (first | refine blk_drewN ?_ _ | refine blk_drew ?_ | refine blk_alloc ?_ _)); refine blk_put (cs := #[.int .i64 t223, .int .i64 t224, .int .i64 t225, .slice Ao33 t226.length co33, .int .i64 0, .string (⟨#[]⟩ : ByteArray), .string (⟨#[]⟩ : ByteArray), .int .i64 0, .int .i64 0, .int .i64 0]) ?_ 4 _ rfl; (with_reducible repeat (first | refine blk_drewN ?_ _ | refine blk_drew ?_ | refine blk_alloc ?_ _)); refine blk_put (cs := #[.int .i64 t223, .int .i64 t224, .int .i64 t225, .slice none 0 0, .int .i64 0, .string (⟨#[]⟩ : ByteArray), .string (⟨#[]⟩ : ByteArray), .int .i64 0, .int .i64 0, .int .i64 0]) ?_ 3 _ rfl; (with_reducible repeat (first | refine blk_drewN ?_ _ | refine blk_drew ?_ | refine blk_alloc ?_ _)); refine blk_put (cs := #[.int .i64 t223, .int .i64 t224, .int .i64 0, .slice none 0 0, .int .i64 0, .string (⟨#[]⟩ : ByteArray), .string (⟨#[]⟩ : ByteArray), .int .i64 0, .int .i64 0, .int .i64 0]) ?_ 2 _ rfl; (with_reducible repeat (first | refine blk_drewN ?_ _ | refine blk_drew ?_ | refine blk_alloc ?_ _)); refine blk_put (cs := #[.int .i64 t223, .int .i64 0, .int .i64 0, .slice none 0 0, .int .i64 0, .string (⟨#[]⟩ : ByteArray), .string (⟨#[]⟩ : ByteArray), .int .i64 0, .int .i64 0, .int .i64 0]) ?_ 1 _ rfl; (with_reducible repeat (first | refine blk_drewN ?_ _ | refine blk_drew ?_ | refine blk_alloc ?_ _)); refine blk_put (cs := #[.int .i64 0, .int .i64 0, .int .i64 0, .slice none 0 0, .int .i64 0, .string (⟨#[]⟩ : ByteArray), .string (⟨#[]⟩ : ByteArray), .int .i64 0, .int .i64 0, .int .i64 0]) ?_ 0 _ rfl; (with_reducible repeat (first | refine blk_drewN ?_ _ | refine blk_drew ?_ | refine blk_alloc ?_ _)); exact BK238.out) hb); have n4_ := Aside0.mk (below_step z8_5 hb); clear HO228; clear BK221; clear HI222; clear BK238; clear HB; have HO228 := n0_; have BK221 := n1_; have HI222 := n2_; have BK238 := n3_; have HB := n4_; clear n0_ n1_ n2_ n3_ n4_; obtain ⟨HGz35, hgz35⟩ := HI222.out; have hcz35_0 := cellS34_0 HGz35; have hcz35_1 := cellS34_1 HGz35; have hcz35_2 := cellS34_2 HGz35; have hfz35_0 := blk_frozen HGz35 0; have hfz35_1 := blk_frozen HGz35 1; have hfz35_2 := blk_frozen HGz35 2; clear HGz35 hgz35))
          have n0_ := Aside0.mk (Kd.R_drew HO228.out)
          have n1_ := Aside0.mk (blk_drew BK221.out)
          have n2_ := Aside0.mk (blk_drew BK238.out)
          have n3_ := Aside0.mk (IsS34.drew HI222.out)
          have n4_ := Aside0.mk (below_drew1 HB.out)
          clear HO228
          clear BK221
          clear BK238
          clear HI222
          clear HB
          have HO228 := n0_
          have BK221 := n1_
          have BK238 := n2_
          have HI222 := n3_
          have HB := n4_
          clear n0_ n1_ n2_ n3_ n4_
          refine start_ (n := 8) (S := fun w' => w'.cell? ⟨gb238, 0, none⟩ = some (.int .i64 t223) ∧ w'.cell? ⟨gb238, 1, none⟩ = some (.int .i64 t224) ∧ w'.cell? ⟨gb238, 2, none⟩ = some (.int .i64 t225) ∧ w'.cell? ⟨gb238, 3, none⟩ = some (.slice Ao33 t226.length co33) ∧ w'.cell? ⟨gb238, 4, none⟩ = some (.int .i64 t229) ∧ w'.cell? ⟨gb238, 5, none⟩ = some (.string t230) ∧ w'.cell? ⟨gb238, 6, none⟩ = some (.string t231) ∧ w'.cell? ⟨gb238, 7, none⟩ = some (.int .i64 t232) ∧ w'.cell? ⟨gb238, 8, none⟩ = some (.int .i64 t233) ∧ w'.cell? ⟨gb238, 9, none⟩ = some (.int .i64 t234) ∧ w'.cell? ⟨gb222, 0, none⟩ = some (.string t235) ∧ w'.cell? ⟨gb222, 1, none⟩ = some (.int .i64 t236) ∧ w'.cell? ⟨gb222, 2, none⟩ = some (.bool false)) (ds := []) #[false, false, false, false, false, false, false, false] z8_27 rfl rfl ⟨(blk_cell BK238.out 0).trans rfl, (blk_cell BK238.out 1).trans rfl, (blk_cell BK238.out 2).trans rfl, (blk_cell BK238.out 3).trans rfl, (blk_cell BK238.out 4).trans rfl, (blk_cell BK238.out 5).trans rfl, (blk_cell BK238.out 6).trans rfl, (blk_cell BK238.out 7).trans rfl, (blk_cell BK238.out 8).trans rfl, (blk_cell BK238.out 9).trans rfl, (blk_cell HI222.out.1 0).trans rfl, (blk_cell HI222.out.1 1).trans rfl, (blk_cell HI222.out.1 2).trans rfl⟩ (fun hHeld => ?_); refine with_tabW spec_ReadAct.tab8 spec_ReadAct.bits8 (fun HT_ HW_ => ?_)
          generalize w34.drew = w36 at HO228 BK221 BK238 HI222 HB hHeld ⊢
          refine pure_ (i := 1) (N := some 52) (v := ?_) (a' := ?_) #[false, true, false, false, false, false, false, false] rfl rfl (any_of HT_.out z8_27) (fun _ _ _ h => h) (Or.inl ⟨by rfl, ?_⟩) ?_ ?_
          rotate_left
          ·
           exact z8_29
          rotate_left
          ·
           exact z8_15
          refine pure_ (i := 2) (N := some 53) (v := ?_) (a' := ?_) #[false, true, true, false, false, false, false, false] rfl rfl (any_of HT_.out z8_27) (fun _ _ _ h => h) (Or.inl ⟨by rfl, ?_⟩) ?_ ?_
          rotate_left
          ·
           exact z8_29
          rotate_left
          ·
           exact z8_15
          refine pure_ (i := 3) (N := some 54) (v := ?_) (a' := ?_) #[false, true, true, true, false, false, false, false] rfl rfl (any_of HT_.out z8_27) (fun _ _ _ h => h) (Or.inl ⟨by rfl, ?_⟩) ?_ ?_
          rotate_left
          ·
           exact z8_29
          rotate_left
          ·
           exact z8_15
          refine take_ (i := 0) (N := some 51) (v := ?_) (a' := ?_) #[true, true, true, true, false, false, false, false] rfl rfl (take_ofW HT_.out HW_.out z8_27) (fun _ _ _ h => h) (Or.inl ⟨by rfl, ?_⟩) hHeld ?_ ?_
          rotate_left
          ·
           rintro w' ⟨s0, s1, s2, s3, s4, s5, s6, s7, s8, s9, s10, s11, s12⟩
           go_simp
           with_reducible rfl
          rotate_left
          ·
           exact z8_15
          refine take_ (i := 4) (N := some 55) (v := ?_) (a' := ?_) #[true, true, true, true, true, false, false, false] rfl rfl (take_ofW HT_.out HW_.out z8_27) (fun _ _ _ h => h) (Or.inl ⟨by rfl, ?_⟩) hHeld ?_ ?_
          rotate_left
          ·
           rintro w' ⟨s0, s1, s2, s3, s4, s5, s6, s7, s8, s9, s10, s11, s12⟩
           go_simp
           with_reducible rfl
          rotate_left
          ·
           exact z8_15
          refine one_ (i := 5) (N := none) #[true, true, true, true, true, true, false, false] rfl rfl (one_of HT_.out z8_27) (by decide) (fun K hK => ?_)
          have hs37 : w36.cell? ⟨gb221, 0, none⟩ = some (.int .i64 0) := (blk_cell BK221.out 0).trans rfl
          have hfs37 := blk_frozen BK221.out 0
          have hns37_1 := NB238_221.out
          have hms37_1 := NB221_238.out
          have hs38 : w36.cell? ⟨gb221, 1, none⟩ = some (.int .i64 0) := (blk_cell BK221.out 1).trans rfl
          have hfs38 := blk_frozen BK221.out 1
          have hns38_1 := NB238_221.out
          have hms38_1 := NB221_238.out
          have hs39 : w36.cell? ⟨gb221, 2, none⟩ = some (.int .i64 0) := (blk_cell BK221.out 2).trans rfl
          have hfs39 := blk_frozen BK221.out 2
          have hns39_1 := NB238_221.out
          have hms39_1 := NB221_238.out
          have hs40 : w36.cell? ⟨gb221, 3, none⟩ = some (.slice none 0 0) := (blk_cell BK221.out 3).trans rfl
          have hfs40 := blk_frozen BK221.out 3
          have hns40_1 := NB238_221.out
          have hms40_1 := NB221_238.out
          have hs41 : w36.cell? ⟨gb221, 4, none⟩ = some (.int .i64 0) := (blk_cell BK221.out 4).trans rfl
          have hfs41 := blk_frozen BK221.out 4
          have hns41_1 := NB238_221.out
          have hms41_1 := NB221_238.out
          have hs42 : w36.cell? ⟨gb221, 5, none⟩ = some (.string (⟨#[]⟩ : ByteArray)) := (blk_cell BK221.out 5).trans rfl
          have hfs42 := blk_frozen BK221.out 5
          have hns42_1 := NB238_221.out
          have hms42_1 := NB221_238.out
          have hs43 : w36.cell? ⟨gb221, 6, none⟩ = some (.string (⟨#[]⟩ : ByteArray)) := (blk_cell BK221.out 6).trans rfl
          have hfs43 := blk_frozen BK221.out 6
          have hns43_1 := NB238_221.out
          have hms43_1 := NB221_238.out
          have hs44 : w36.cell? ⟨gb221, 7, none⟩ = some (.int .i64 0) := (blk_cell BK221.out 7).trans rfl
          have hfs44 := blk_frozen BK221.out 7
          have hns44_1 := NB238_221.out
          have hms44_1 := NB221_238.out
          have hs45 : w36.cell? ⟨gb221, 8, none⟩ = some (.int .i64 0) := (blk_cell BK221.out 8).trans rfl
          have hfs45 := blk_frozen BK221.out 8
          have hns45_1 := NB238_221.out
          have hms45_1 := NB221_238.out
          have hs46 : w36.cell? ⟨gb221, 9, none⟩ = some (.int .i64 0) := (blk_cell BK221.out 9).trans rfl
          have hfs46 := blk_frozen BK221.out 9
          have hns46_1 := NB238_221.out
          have hms46_1 := NB221_238.out
          refine skip_ (w1 := ?_) (by rfl) rfl ?_ ?_
          rotate_left
          ·
           go_simp
           rfl
          refine hK.out _ _ ⟨((cell_far (p := ⟨gb221, _, none⟩) NB238_221.out _).trans (((cell_far (p := ⟨gb221, _, none⟩) NB238_221.out _).trans (((cell_far (p := ⟨gb221, _, none⟩) NB238_221.out _).trans (((cell_far (p := ⟨gb221, _, none⟩) NB238_221.out _).trans (((cell_far (p := ⟨gb221, _, none⟩) NB238_221.out _).trans (((cell_far (p := ⟨gb221, _, none⟩) NB238_221.out _).trans (((cell_far (p := ⟨gb221, _, none⟩) NB238_221.out _).trans (((cell_far (p := ⟨gb221, _, none⟩) NB238_221.out _).trans (((cell_far (p := ⟨gb221, _, none⟩) NB238_221.out _).trans (((cell_far (p := ⟨gb221, _, none⟩) NB238_221.out _).trans (hHeld.1)))))))))))))))))))), ((cell_far (p := ⟨gb221, _, none⟩) NB238_221.out _).trans (((cell_far (p := ⟨gb221, _, none⟩) NB238_221.out _).trans (((cell_far (p := ⟨gb221, _, none⟩) NB238_221.out _).trans (((cell_far (p := ⟨gb221, _, none⟩) NB238_221.out _).trans (((cell_far (p := ⟨gb221, _, none⟩) NB238_221.out _).trans (((cell_far (p := ⟨gb221, _, none⟩) NB238_221.out _).trans (((cell_far (p := ⟨gb221, _, none⟩) NB238_221.out _).trans (((cell_far (p := ⟨gb221, _, none⟩) NB238_221.out _).trans (((cell_far (p := ⟨gb221, _, none⟩) NB238_221.out _).trans (((cell_far (p := ⟨gb221, _, none⟩) NB238_221.out _).trans (hHeld.2.1)))))))))))))))))))), ((cell_far (p := ⟨gb221, _, none⟩) NB238_221.out _).trans (((cell_far (p := ⟨gb221, _, none⟩) NB238_221.out _).trans (((cell_far (p := ⟨gb221, _, none⟩) NB238_221.out _).trans (((cell_far (p := ⟨gb221, _, none⟩) NB238_221.out _).trans (((cell_far (p := ⟨gb221, _, none⟩) NB238_221.out _).trans (((cell_far (p := ⟨gb221, _, none⟩) NB238_221.out _).trans (((cell_far (p := ⟨gb221, _, none⟩) NB238_221.out _).trans (((cell_far (p := ⟨gb221, _, none⟩) NB238_221.out _).trans (((cell_far (p := ⟨gb221, _, none⟩) NB238_221.out _).trans (((cell_far (p := ⟨gb221, _, none⟩) NB238_221.out _).trans (hHeld.2.2.1)))))))))))))))))))), ((cell_far (p := ⟨gb221, _, none⟩) NB238_221.out _).trans (((cell_far (p := ⟨gb221, _, none⟩) NB238_221.out _).trans (((cell_far (p := ⟨gb221, _, none⟩) NB238_221.out _).trans (((cell_far (p := ⟨gb221, _, none⟩) NB238_221.out _).trans (((cell_far (p := ⟨gb221, _, none⟩) NB238_221.out _).trans (((cell_far (p := ⟨gb221, _, none⟩) NB238_221.out _).trans (((cell_far (p := ⟨gb221, _, none⟩) NB238_221.out _).trans (((cell_far (p := ⟨gb221, _, none⟩) NB238_221.out _).trans (((cell_far (p := ⟨gb221, _, none⟩) NB238_221.out _).trans (((cell_far (p := ⟨gb221, _, none⟩) NB238_221.out _).trans (hHeld.2.2.2.1)))))))))))))))))))), ((cell_far (p := ⟨gb221, _, none⟩) NB238_221.out _).trans (((cell_far (p := ⟨gb221, _, none⟩) NB238_221.out _).trans (((cell_far (p := ⟨gb221, _, none⟩) NB238_221.out _).trans (((cell_far (p := ⟨gb221, _, none⟩) NB238_221.out _).trans (((cell_far (p := ⟨gb221, _, none⟩) NB238_221.out _).trans (((cell_far (p := ⟨gb221, _, none⟩) NB238_221.out _).trans (((cell_far (p := ⟨gb221, _, none⟩) NB238_221.out _).trans (((cell_far (p := ⟨gb221, _, none⟩) NB238_221.out _).trans (((cell_far (p := ⟨gb221, _, none⟩) NB238_221.out _).trans (((cell_far (p := ⟨gb221, _, none⟩) NB238_221.out _).trans (hHeld.2.2.2.2.1)))))))))))))))))))), ((cell_far (p := ⟨gb221, _, none⟩) NB238_221.out _).trans (((cell_far (p := ⟨gb221, _, none⟩) NB238_221.out _).trans (((cell_far (p := ⟨gb221, _, none⟩) NB238_221.out _).trans (((cell_far (p := ⟨gb221, _, none⟩) NB238_221.out _).trans (((cell_far (p := ⟨gb221, _, none⟩) NB238_221.out _).trans (((cell_far (p := ⟨gb221, _, none⟩) NB238_221.out _).trans (((cell_far (p := ⟨gb221, _, none⟩) NB238_221.out _).trans (((cell_far (p := ⟨gb221, _, none⟩) NB238_221.out _).trans (((cell_far (p := ⟨gb221, _, none⟩) NB238_221.out _).trans (((cell_far (p := ⟨gb221, _, none⟩) NB238_221.out _).trans (hHeld.2.2.2.2.2.1)))))))))))))))))))), ((cell_far (p := ⟨gb221, _, none⟩) NB238_221.out _).trans (((cell_far (p := ⟨gb221, _, none⟩) NB238_221.out _).trans (((cell_far (p := ⟨gb221, _, none⟩) NB238_221.out _).trans (((cell_far (p := ⟨gb221, _, none⟩) NB238_221.out _).trans (((cell_far (p := ⟨gb221, _, none⟩) NB238_221.out _).trans (((cell_far (p := ⟨gb221, _, none⟩) NB238_221.out _).trans (((cell_far (p := ⟨gb221, _, none⟩) NB238_221.out _).trans (((cell_far (p := ⟨gb221, _, none⟩) NB238_221.out _).trans (((cell_far (p := ⟨gb221, _, none⟩) NB238_221.out _).trans (((cell_far (p := ⟨gb221, _, none⟩) NB238_221.out _).trans (hHeld.2.2.2.2.2.2.1)))))))))))))))))))), ((cell_far (p := ⟨gb221, _, none⟩) NB238_221.out _).trans (((cell_far (p := ⟨gb221, _, none⟩) NB238_221.out _).trans (((cell_far (p := ⟨gb221, _, none⟩) NB238_221.out _).trans (((cell_far (p := ⟨gb221, _, none⟩) NB238_221.out _).trans (((cell_far (p := ⟨gb221, _, none⟩) NB238_221.out _).trans (((cell_far (p := ⟨gb221, _, none⟩) NB238_221.out _).trans (((cell_far (p := ⟨gb221, _, none⟩) NB238_221.out _).trans (((cell_far (p := ⟨gb221, _, none⟩) NB238_221.out _).trans (((cell_far (p := ⟨gb221, _, none⟩) NB238_221.out _).trans (((cell_far (p := ⟨gb221, _, none⟩) NB238_221.out _).trans (hHeld.2.2.2.2.2.2.2.1)))))))))))))))))))), ((cell_far (p := ⟨gb221, _, none⟩) NB238_221.out _).trans (((cell_far (p := ⟨gb221, _, none⟩) NB238_221.out _).trans (((cell_far (p := ⟨gb221, _, none⟩) NB238_221.out _).trans (((cell_far (p := ⟨gb221, _, none⟩) NB238_221.out _).trans (((cell_far (p := ⟨gb221, _, none⟩) NB238_221.out _).trans (((cell_far (p := ⟨gb221, _, none⟩) NB238_221.out _).trans (((cell_far (p := ⟨gb221, _, none⟩) NB238_221.out _).trans (((cell_far (p := ⟨gb221, _, none⟩) NB238_221.out _).trans (((cell_far (p := ⟨gb221, _, none⟩) NB238_221.out _).trans (((cell_far (p := ⟨gb221, _, none⟩) NB238_221.out _).trans (hHeld.2.2.2.2.2.2.2.2.1)))))))))))))))))))), ((cell_far (p := ⟨gb221, _, none⟩) NB238_221.out _).trans (((cell_far (p := ⟨gb221, _, none⟩) NB238_221.out _).trans (((cell_far (p := ⟨gb221, _, none⟩) NB238_221.out _).trans (((cell_far (p := ⟨gb221, _, none⟩) NB238_221.out _).trans (((cell_far (p := ⟨gb221, _, none⟩) NB238_221.out _).trans (((cell_far (p := ⟨gb221, _, none⟩) NB238_221.out _).trans (((cell_far (p := ⟨gb221, _, none⟩) NB238_221.out _).trans (((cell_far (p := ⟨gb221, _, none⟩) NB238_221.out _).trans (((cell_far (p := ⟨gb221, _, none⟩) NB238_221.out _).trans (((cell_far (p := ⟨gb221, _, none⟩) NB238_221.out _).trans (hHeld.2.2.2.2.2.2.2.2.2.1)))))))))))))))))))), ((cell_far (p := ⟨gb221, _, none⟩) NB222_221.out _).trans (((cell_far (p := ⟨gb221, _, none⟩) NB222_221.out _).trans (((cell_far (p := ⟨gb221, _, none⟩) NB222_221.out _).trans (((cell_far (p := ⟨gb221, _, none⟩) NB222_221.out _).trans (((cell_far (p := ⟨gb221, _, none⟩) NB222_221.out _).trans (((cell_far (p := ⟨gb221, _, none⟩) NB222_221.out _).trans (((cell_far (p := ⟨gb221, _, none⟩) NB222_221.out _).trans (((cell_far (p := ⟨gb221, _, none⟩) NB222_221.out _).trans (((cell_far (p := ⟨gb221, _, none⟩) NB222_221.out _).trans (((cell_far (p := ⟨gb221, _, none⟩) NB222_221.out _).trans (hHeld.2.2.2.2.2.2.2.2.2.2.1)))))))))))))))))))), ((cell_far (p := ⟨gb221, _, none⟩) NB222_221.out _).trans (((cell_far (p := ⟨gb221, _, none⟩) NB222_221.out _).trans (((cell_far (p := ⟨gb221, _, none⟩) NB222_221.out _).trans (((cell_far (p := ⟨gb221, _, none⟩) NB222_221.out _).trans (((cell_far (p := ⟨gb221, _, none⟩) NB222_221.out _).trans (((cell_far (p := ⟨gb221, _, none⟩) NB222_221.out _).trans (((cell_far (p := ⟨gb221, _, none⟩) NB222_221.out _).trans (((cell_far (p := ⟨gb221, _, none⟩) NB222_221.out _).trans (((cell_far (p := ⟨gb221, _, none⟩) NB222_221.out _).trans (((cell_far (p := ⟨gb221, _, none⟩) NB222_221.out _).trans (hHeld.2.2.2.2.2.2.2.2.2.2.2.1)))))))))))))))))))), ((cell_far (p := ⟨gb221, _, none⟩) NB222_221.out _).trans (((cell_far (p := ⟨gb221, _, none⟩) NB222_221.out _).trans (((cell_far (p := ⟨gb221, _, none⟩) NB222_221.out _).trans (((cell_far (p := ⟨gb221, _, none⟩) NB222_221.out _).trans (((cell_far (p := ⟨gb221, _, none⟩) NB222_221.out _).trans (((cell_far (p := ⟨gb221, _, none⟩) NB222_221.out _).trans (((cell_far (p := ⟨gb221, _, none⟩) NB222_221.out _).trans (((cell_far (p := ⟨gb221, _, none⟩) NB222_221.out _).trans (((cell_far (p := ⟨gb221, _, none⟩) NB222_221.out _).trans (((cell_far (p := ⟨gb221, _, none⟩) NB222_221.out _).trans (hHeld.2.2.2.2.2.2.2.2.2.2.2.2))))))))))))))))))))⟩ (fun hHeld => ?_)
          clear hK K
          refine pure_ (i := 6) (N := some 5) (v := ?_) (a' := ?_) #[true, true, true, true, true, true, true, false] rfl rfl (any_of HT_.out z8_27) (fun _ _ _ h => h) (Or.inl ⟨by rfl, ?_⟩) ?_ ?_
          rotate_left
          ·
           exact z8_29
          rotate_left
          ·
           exact z8_15
          refine pure_ (i := 7) (N := some 6) (v := ?_) (a' := ?_) #[true, true, true, true, true, true, true, true] rfl rfl (any_of HT_.out z8_27) (fun _ _ _ h => h) (Or.inl ⟨by rfl, ?_⟩) ?_ ?_
          rotate_left
          ·
           exact z8_29
          rotate_left
          ·
           exact z8_15
          refine done_ (done_of HT_.out z8_27) ?_
          try go_wp2
          refine bodyPost_ret (results_ctt rfl _ _ gb221 26 #[.int .i64 t223, .int .i64 t224, .int .i64 t225, .slice Ao33 t226.length co33, .int .i64 t229, .string t230, .string t231, .int .i64 t232, .int .i64 t233, .int .i64 t234] (0, 0) _ rfl (by (with_reducible repeat (first | refine blk_drewN ?_ _ | refine blk_drew ?_ | refine blk_alloc ?_ _)); refine blk_put (cs := #[.int .i64 t223, .int .i64 t224, .int .i64 t225, .slice Ao33 t226.length co33, .int .i64 t229, .string t230, .string t231, .int .i64 t232, .int .i64 t233, .int .i64 0]) ?_ 9 _ rfl; (with_reducible repeat (first | refine blk_drewN ?_ _ | refine blk_drew ?_ | refine blk_alloc ?_ _)); refine blk_put (cs := #[.int .i64 t223, .int .i64 t224, .int .i64 t225, .slice Ao33 t226.length co33, .int .i64 t229, .string t230, .string t231, .int .i64 t232, .int .i64 0, .int .i64 0]) ?_ 8 _ rfl; (with_reducible repeat (first | refine blk_drewN ?_ _ | refine blk_drew ?_ | refine blk_alloc ?_ _)); refine blk_put (cs := #[.int .i64 t223, .int .i64 t224, .int .i64 t225, .slice Ao33 t226.length co33, .int .i64 t229, .string t230, .string t231, .int .i64 0, .int .i64 0, .int .i64 0]) ?_ 7 _ rfl; (with_reducible repeat (first | refine blk_drewN ?_ _ | refine blk_drew ?_ | refine blk_alloc ?_ _)); refine blk_put (cs := #[.int .i64 t223, .int .i64 t224, .int .i64 t225, .slice Ao33 t226.length co33, .int .i64 t229, .string t230, .string (⟨#[]⟩ : ByteArray), .int .i64 0, .int .i64 0, .int .i64 0]) ?_ 6 _ rfl; (with_reducible repeat (first | refine blk_drewN ?_ _ | refine blk_drew ?_ | refine blk_alloc ?_ _)); refine blk_put (cs := #[.int .i64 t223, .int .i64 t224, .int .i64 t225, .slice Ao33 t226.length co33, .int .i64 t229, .string (⟨#[]⟩ : ByteArray), .string (⟨#[]⟩ : ByteArray), .int .i64 0, .int .i64 0, .int .i64 0]) ?_ 5 _ rfl; (with_reducible repeat (first | refine blk_drewN ?_ _ | refine blk_drew ?_ | refine blk_alloc ?_ _)); refine blk_put (cs := #[.int .i64 t223, .int .i64 t224, .int .i64 t225, .slice Ao33 t226.length co33, .int .i64 0, .string (⟨#[]⟩ : ByteArray), .string (⟨#[]⟩ : ByteArray), .int .i64 0, .int .i64 0, .int .i64 0]) ?_ 4 _ rfl; (with_reducible repeat (first | refine blk_drewN ?_ _ | refine blk_drew ?_ | refine blk_alloc ?_ _)); refine blk_put (cs := #[.int .i64 t223, .int .i64 t224, .int .i64 t225, .slice none 0 0, .int .i64 0, .string (⟨#[]⟩ : ByteArray), .string (⟨#[]⟩ : ByteArray), .int .i64 0, .int .i64 0, .int .i64 0]) ?_ 3 _ rfl; (with_reducible repeat (first | refine blk_drewN ?_ _ | refine blk_drew ?_ | refine blk_alloc ?_ _)); refine blk_put (cs := #[.int .i64 t223, .int .i64 t224, .int .i64 0, .slice none 0 0, .int .i64 0, .string (⟨#[]⟩ : ByteArray), .string (⟨#[]⟩ : ByteArray), .int .i64 0, .int .i64 0, .int .i64 0]) ?_ 2 _ rfl; (with_reducible repeat (first | refine blk_drewN ?_ _ | refine blk_drew ?_ | refine blk_alloc ?_ _)); refine blk_put (cs := #[.int .i64 t223, .int .i64 0, .int .i64 0, .slice none 0 0, .int .i64 0, .string (⟨#[]⟩ : ByteArray), .string (⟨#[]⟩ : ByteArray), .int .i64 0, .int .i64 0, .int .i64 0]) ?_ 1 _ rfl; (with_reducible repeat (first | refine blk_drewN ?_ _ | refine blk_drew ?_ | refine blk_alloc ?_ _)); refine blk_put (cs := #[.int .i64 0, .int .i64 0, .int .i64 0, .slice none 0 0, .int .i64 0, .string (⟨#[]⟩ : ByteArray), .string (⟨#[]⟩ : ByteArray), .int .i64 0, .int .i64 0, .int .i64 0]) ?_ 0 _ rfl; (with_reducible repeat (first | refine blk_drewN ?_ _ | refine blk_drew ?_ | refine blk_alloc ?_ _)); exact BK221.out) Try.underlying26 rfl z8_27) rfl ?_
          exact ⟨_, z8_11, by (with_reducible repeat (first | apply Kd.R_alloc | apply Kd.R_drewN | apply Kd.R_drew)); exact Kd.R_mono (Kd.R_far (p := ⟨gb221, 9, none⟩) (Kd.R_far (p := ⟨gb221, 8, none⟩) (Kd.R_far (p := ⟨gb221, 7, none⟩) (Kd.R_far (p := ⟨gb221, 6, none⟩) (Kd.R_far (p := ⟨gb221, 5, none⟩) (Kd.R_far (p := ⟨gb221, 4, none⟩) (Kd.R_far (p := ⟨gb221, 3, none⟩) (Kd.R_far (p := ⟨gb221, 2, none⟩) (Kd.R_far (p := ⟨gb221, 1, none⟩) (Kd.R_far (p := ⟨gb221, 0, none⟩) (Kd.R_types HO228.out BK221.out (by decide)) (fun _ hk => by first | exact hk.2 | trivial) (.int .i64 t223)) (fun _ hk => by first | exact hk.2 | trivial) (.int .i64 t224)) (fun _ hk => by first | exact hk.2 | trivial) (.int .i64 t225)) (fun _ hk => by first | exact hk.2 | trivial) (.slice Ao33 t226.length co33)) (fun _ hk => by first | exact hk.2 | trivial) (.int .i64 t229)) (fun _ hk => by first | exact hk.2 | trivial) (.string t230)) (fun _ hk => by first | exact hk.2 | trivial) (.string t231)) (fun _ hk => by first | exact hk.2 | trivial) (.int .i64 t232)) (fun _ hk => by first | exact hk.2 | trivial) (.int .i64 t233)) (fun _ hk => by first | exact hk.2 | trivial) (.int .i64 t234)) (fun _ hk => trivial), z8_5⟩
         ·
          rw [if_neg c26] at H
          have c26b0 : (t239.toList == (a0.extract (a1 : Int).toNat (t236 : Int).toNat).toList) = false := beq_eq_false_iff_ne.mpr c26
          have c26b1 : (t239.toList != (a0.extract (a1 : Int).toNat (t236 : Int).toNat).toList) = true := bne_iff_ne.mpr c26
          simp only [Option.some.injEq, Prod.mk.injEq] at H
          obtain ⟨rfl, rfl, rfl, rfl, rfl, rfl, rfl, rfl, rfl, rfl, rfl, rfl⟩ := H
          go_wp2_with (first | ((with_reducible refine gate_dst (N := 23) rfl ?_); (try (refine gate_guard (by rfl) ?_; dsimp only)); refine box_event ?hg (N := 23) ?hd (cs := #[.string a0, .int .i64 a1, .bool false]) (t := 34) ?hr ?_; (case hd => rfl); (case hg => rfl); (case hr => first | (go_simp; done) | (go_simp; rfl)); intro gb222 hg w47 hbox hb; have n0_ := Aside0.mk (blk_below (g := gb221) (o := .cells #[.int .i64 0, .int .i64 0, .int .i64 0, .slice none 0 0, .int .i64 0, .string (⟨#[]⟩ : ByteArray), .string (⟨#[]⟩ : ByteArray), .int .i64 0, .int .i64 0, .int .i64 0] 26 (0, 0)) z8_2 hb); have n1_ := Aside0.mk (below_step z8_4 hb); have n2_ := Aside0.mk (hbox); have n3_ := Aside0.mk ((by rw [hg]; exact (below_size z8_4) : w.heap.size ≤ gb222)); have n4_ := Aside0.mk ((by rw [hg]; exact (below_size z8_4) : w.heap.size ≤ gb222)); have n5_ := Aside0.mk ((by rw [hg]; exact Nat.ne_of_lt (blk_lt (g := gb221) (o := .cells #[.int .i64 0, .int .i64 0, .int .i64 0, .slice none 0 0, .int .i64 0, .string (⟨#[]⟩ : ByteArray), .string (⟨#[]⟩ : ByteArray), .int .i64 0, .int .i64 0, .int .i64 0] 26 (0, 0)) z8_2) : gb221 ≠ gb222)); have n6_ := Aside0.mk ((by rw [hg]; exact Nat.ne_of_gt (blk_lt (g := gb221) (o := .cells #[.int .i64 0, .int .i64 0, .int .i64 0, .slice none 0 0, .int .i64 0, .string (⟨#[]⟩ : ByteArray), .string (⟨#[]⟩ : ByteArray), .int .i64 0, .int .i64 0, .int .i64 0] 26 (0, 0)) z8_2) : gb222 ≠ gb221)); clear BK221; clear HB; have BK221 := n0_; have HB := n1_; have BK222 := n2_; have GW222 := n3_; have GE222 := n4_; have NB221_222 := n5_; have NB222_221 := n6_; clear n0_ n1_ n2_ n3_ n4_ n5_ n6_; clear hb hbox hg) | ((with_reducible refine gate_callee (f := 9) rfl ?_); refine goesL_ (some 25) rfl rfl Try.func9 z8_27 rfl #[.pointer (some ⟨gb222, 0, none⟩)] rfl z8_10 ?_; (with_reducible refine (spec_l05Read_act.calls kj2 gb222 a0 a1 false t223 t224 t225 t226 t229 t230 t231 t232 t233 t234 t235 t236 false w _ ?side1 ?side2 A8.out).mono ?_); (case side1 => exact ⟨z8_24, GW222.out⟩); (case side2 => repeat (first | (with_reducible first | exact HB.out | apply below_alloc | apply pw_below_drewN | apply below_drew1 | refine below_set ?_ (IsS34.ge HI222.out) | refine below_set ?_ GE221.out) | exact HB.out)); rintro e w48 ⟨v227, rfl, ho0, hi, hb, hk⟩; refine ⟨_, rfl, ?_⟩; have n0_ := Aside0.mk (KeepBut.blk hk (g' := gb221) (o := .cells #[.int .i64 0, .int .i64 0, .int .i64 0, .slice none 0 0, .int .i64 0, .string (⟨#[]⟩ : ByteArray), .string (⟨#[]⟩ : ByteArray), .int .i64 0, .int .i64 0, .int .i64 0] 26 (0, 0)) z8_2 NB221_222.out (by simp)); have n1_ := Aside0.mk (Kd.R_lower ho0 (below_size z8_3)); have n2_ := Aside0.mk (hb); have n3_ := Aside0.mk (hi); clear BK221; clear HB; clear BK222; have BK221 := n0_; have HO228 := n1_; have HB := n2_; have HI222 := n3_; clear n0_ n1_ n2_ n3_; (try clear ho0)) | ((with_reducible refine gate_dst (N := 8) rfl ?_); (try (refine gate_guard (by rfl) ?_; dsimp only)); refine box_event ?hg (N := 8) ?hd (cs := #[.int .i64 0, .int .i64 0, .int .i64 0, .slice none 0 0, .int .i64 0, .string (⟨#[]⟩ : ByteArray), .string (⟨#[]⟩ : ByteArray), .int .i64 0, .int .i64 0, .int .i64 0]) (t := 26) ?hr ?_; (case hd => rfl); (case hg => rfl); (case hr => first | (go_simp; done) | (go_simp; rfl)); intro gb238 hg w49 hbox hb; have n0_ := Aside0.mk (Kd.R_below z8_25 hb); have n1_ := Aside0.mk (blk_below (g := gb221) (o := .cells #[.int .i64 0, .int .i64 0, .int .i64 0, .slice none 0 0, .int .i64 0, .string (⟨#[]⟩ : ByteArray), .string (⟨#[]⟩ : ByteArray), .int .i64 0, .int .i64 0, .int .i64 0] 26 (0, 0)) z8_2 hb); have n2_ := Aside0.mk (IsS34.below z8_13 hb); have n3_ := Aside0.mk (below_step z8_3 hb); have n4_ := Aside0.mk (hbox); have n5_ := Aside0.mk ((by rw [hg]; exact (below_size z8_3) : w.heap.size ≤ gb238)); have n6_ := Aside0.mk ((by rw [hg]; exact (below_size z8_3) : w.heap.size ≤ gb238)); have n7_ := Aside0.mk ((by rw [hg]; exact Nat.ne_of_lt (blk_lt (g := gb221) (o := .cells #[.int .i64 0, .int .i64 0, .int .i64 0, .slice none 0 0, .int .i64 0, .string (⟨#[]⟩ : ByteArray), .string (⟨#[]⟩ : ByteArray), .int .i64 0, .int .i64 0, .int .i64 0] 26 (0, 0)) z8_2) : gb221 ≠ gb238)); have n8_ := Aside0.mk ((by rw [hg]; exact Nat.ne_of_gt (blk_lt (g := gb221) (o := .cells #[.int .i64 0, .int .i64 0, .int .i64 0, .slice none 0 0, .int .i64 0, .string (⟨#[]⟩ : ByteArray), .string (⟨#[]⟩ : ByteArray), .int .i64 0, .int .i64 0, .int .i64 0] 26 (0, 0)) z8_2) : gb238 ≠ gb221)); have n9_ := Aside0.mk ((by rw [hg]; exact Nat.ne_of_lt (IsS34.lt (show IsS34 w _ gb222 t235 t236 false from by repeat (first | (with_reducible first | exact HI222.out | apply IsS34.alloc | apply IsS34.drewN | apply IsS34.drew | apply IsS34.set_0 | apply IsS34.set_1 | apply IsS34.set_2 | refine IsS34.far ?_ NB222_221.out _) | exact HI222.out))) : gb222 ≠ gb238)); have n10_ := Aside0.mk ((by rw [hg]; exact Nat.ne_of_gt (IsS34.lt (show IsS34 w _ gb222 t235 t236 false from by repeat (first | (with_reducible first | exact HI222.out | apply IsS34.alloc | apply IsS34.drewN | apply IsS34.drew | apply IsS34.set_0 | apply IsS34.set_1 | apply IsS34.set_2 | refine IsS34.far ?_ NB222_221.out _) | exact HI222.out))) : gb238 ≠ gb222)); clear HO228; clear BK221; clear HI222; clear HB; have HO228 := n0_; have BK221 := n1_; have HI222 := n2_; have HB := n3_; have BK238 := n4_; have GW238 := n5_; have GE238 := n6_; have NB221_238 := n7_; have NB238_221 := n8_; have NB222_238 := n9_; have NB238_222 := n10_; clear n0_ n1_ n2_ n3_ n4_ n5_ n6_ n7_ n8_ n9_ n10_; clear hb hbox hg; have hnb50 := NB238_221.out; have hnc50 := NB221_238.out; have hnb51 := NB238_222.out; have hnc51 := NB222_238.out; have hcz52_0 : w49.cell? ⟨gb238, 0, none⟩ = some (.int .i64 0) := (blk_cell BK238.out 0).trans rfl; have hcz52_1 : w49.cell? ⟨gb238, 1, none⟩ = some (.int .i64 0) := (blk_cell BK238.out 1).trans rfl; have hcz52_2 : w49.cell? ⟨gb238, 2, none⟩ = some (.int .i64 0) := (blk_cell BK238.out 2).trans rfl; have hcz52_3 : w49.cell? ⟨gb238, 3, none⟩ = some (.slice none 0 0) := (blk_cell BK238.out 3).trans rfl; have hcz52_4 : w49.cell? ⟨gb238, 4, none⟩ = some (.int .i64 0) := (blk_cell BK238.out 4).trans rfl; have hcz52_5 : w49.cell? ⟨gb238, 5, none⟩ = some (.string (⟨#[]⟩ : ByteArray)) := (blk_cell BK238.out 5).trans rfl; have hcz52_6 : w49.cell? ⟨gb238, 6, none⟩ = some (.string (⟨#[]⟩ : ByteArray)) := (blk_cell BK238.out 6).trans rfl; have hcz52_7 : w49.cell? ⟨gb238, 7, none⟩ = some (.int .i64 0) := (blk_cell BK238.out 7).trans rfl; have hcz52_8 : w49.cell? ⟨gb238, 8, none⟩ = some (.int .i64 0) := (blk_cell BK238.out 8).trans rfl; have hcz52_9 : w49.cell? ⟨gb238, 9, none⟩ = some (.int .i64 0) := (blk_cell BK238.out 9).trans rfl; have hfz52_0 := blk_frozen BK238.out 0; have hfz52_1 := blk_frozen BK238.out 1; have hfz52_2 := blk_frozen BK238.out 2; have hfz52_3 := blk_frozen BK238.out 3; have hfz52_4 := blk_frozen BK238.out 4; have hfz52_5 := blk_frozen BK238.out 5; have hfz52_6 := blk_frozen BK238.out 6; have hfz52_7 := blk_frozen BK238.out 7; have hfz52_8 := blk_frozen BK238.out 8; have hfz52_9 := blk_frozen BK238.out 9; obtain ⟨Ao53, co53, eo53⟩ := Kd.R_slice HO228.out; subst eo53) | ((with_reducible refine gate_callee (f := 10) rfl ?_); refine goesL_ (some 28) rfl rfl Try.func10 z8_27 rfl #[.agg #[.int .i64 t223, .int .i64 t224, .int .i64 t225, .slice Ao53 t226.length co53, .int .i64 t229, .string t230, .string t231, .int .i64 t232, .int .i64 t233, .int .i64 t234]] rfl z8_10 ?_; (with_reducible refine (spec_ActText.calls kj2 t223 t224 t225 _ _ t226 t229 t230 t231 t232 t233 t234 t239 true _ ?side1 ?side2 A9.out).mono ?_); (case side1 => refine (Kd.R_reads' (e := 3) (base := w.heap.size) (ok := fun k_ => True) (n := t226.length) (c := co53) ?_).2.2; exact z8_7); (case side2 => exact (Kd.R_reads' HO228.out).2.1); rintro e w54 ⟨rfl, hb⟩; refine ⟨_, rfl, ?_⟩; have n0_ := Aside0.mk (Kd.R_below z8_7 hb); have n1_ := Aside0.mk (blk_below (g := gb221) (o := .cells #[.int .i64 0, .int .i64 0, .int .i64 0, .slice none 0 0, .int .i64 0, .string (⟨#[]⟩ : ByteArray), .string (⟨#[]⟩ : ByteArray), .int .i64 0, .int .i64 0, .int .i64 0] 26 (0, 0)) z8_1 hb); have n2_ := Aside0.mk (IsS34.below (show IsS34 w ((((((((((w49.setCell ⟨gb238, 0, none⟩ (.int .i64 t223)).setCell ⟨gb238, 1, none⟩ (.int .i64 t224)).setCell ⟨gb238, 2, none⟩ (.int .i64 t225)).setCell ⟨gb238, 3, none⟩ (.slice Ao53 t226.length co53)).setCell ⟨gb238, 4, none⟩ (.int .i64 t229)).setCell ⟨gb238, 5, none⟩ (.string t230)).setCell ⟨gb238, 6, none⟩ (.string t231)).setCell ⟨gb238, 7, none⟩ (.int .i64 t232)).setCell ⟨gb238, 8, none⟩ (.int .i64 t233)).setCell ⟨gb238, 9, none⟩ (.int .i64 t234)) gb222 t235 t236 false from by repeat (first | (with_reducible first | exact HI222.out | apply IsS34.alloc | apply IsS34.drewN | apply IsS34.drew | apply IsS34.set_0 | apply IsS34.set_1 | apply IsS34.set_2 | refine IsS34.far ?_ NB222_221.out _ | refine IsS34.far ?_ NB222_238.out _) | exact HI222.out)) hb); have n3_ := Aside0.mk (blk_below (g := gb238) (o := .cells #[.int .i64 t223, .int .i64 t224, .int .i64 t225, .slice Ao53 t226.length co53, .int .i64 t229, .string t230, .string t231, .int .i64 t232, .int .i64 t233, .int .i64 t234] 26 (0, 0)) (by (with_reducible repeat (first | refine blk_drewN ?_ _ | refine blk_drew ?_ | refine blk_alloc ?_ _)); refine blk_put (cs := #[.int .i64 t223, .int .i64 t224, .int .i64 t225, .slice Ao53 t226.length co53, .int .i64 t229, .string t230, .string t231, .int .i64 t232, .int .i64 t233, .int .i64 0]) ?_ 9 _ rfl; (with_reducible repeat (first | refine blk_drewN ?_ _ | refine blk_drew ?_ | refine blk_alloc ?_ _)); refine blk_put (cs := #[.int .i64 t223, .int .i64 t224, .int .i64 t225, .slice Ao53 t226.length co53, .int .i64 t229, .string t230, .string t231, .int .i64 t232, .int .i64 0, .int .i64 0]) ?_ 8 _ rfl; (with_reducible repeat (first | refine blk_drewN ?_ _ | refine blk_drew ?_ | refine blk_alloc ?_ _)); refine blk_put (cs := #[.int .i64 t223, .int .i64 t224, .int .i64 t225, .slice Ao53 t226.length co53, .int .i64 t229, .string t230, .string t231, .int .i64 0, .int .i64 0, .int .i64 0]) ?_ 7 _ rfl; (with_reducible repeat (first | refine blk_drewN ?_ _ | refine blk_drew ?_ | refine blk_alloc ?_ _)); refine blk_put (cs := #[.int .i64 t223, .int .i64 t224, .int .i64 t225, .slice Ao53 t226.length co53, .int .i64 t229, .string t230, .string (⟨#[]⟩ : ByteArray), .int .i64 0, .int .i64 0, .int .i64 0]) ?_ 6 _ rfl; (with_reducible repeat (first | refine blk_drewN ?_ _ | refine blk_drew ?_ | refine blk_alloc ?_ _)); refine blk_put (cs := #[.int .i64 t223, .int .i64 t224, .int .i64 t225, .slice Ao53 t226.length co53, .int .i64 t229, .string (⟨#[]⟩ : ByteArray), .string (⟨#[]⟩ : ByteArray), .int .i64 0, .int .i64 0, .int .i64 0]) ?_ 5 _ rfl; (with_reducible repeat (first | refine blk_drewN ?_ _ | refine blk_drew ?_ | refine blk_alloc ?_ _)); refine blk_put (cs := #[.int .i64 t223, .int .i64 t224, .int .i64 t225, .slice Ao53 t226.length co53, .int .i64 0, .string (⟨#[]⟩ : ByteArray), .string (⟨#[]⟩ : ByteArray), .int .i64 0, .int .i64 0, .int .i64 0]) ?_ 4 _ rfl; (with_reducible repeat (first | refine blk_drewN ?_ _ | refine blk_drew ?_ | refine blk_alloc ?_ _)); refine blk_put (cs := #[.int .i64 t223, .int .i64 t224, .int .i64 t225, .slice none 0 0, .int .i64 0, .string (⟨#[]⟩ : ByteArray), .string (⟨#[]⟩ : ByteArray), .int .i64 0, .int .i64 0, .int .i64 0]) ?_ 3 _ rfl; (with_reducible repeat (first | refine blk_drewN ?_ _ | refine blk_drew ?_ | refine blk_alloc ?_ _)); refine blk_put (cs := #[.int .i64 t223, .int .i64 t224, .int .i64 0, .slice none 0 0, .int .i64 0, .string (⟨#[]⟩ : ByteArray), .string (⟨#[]⟩ : ByteArray), .int .i64 0, .int .i64 0, .int .i64 0]) ?_ 2 _ rfl; (with_reducible repeat (first | refine blk_drewN ?_ _ | refine blk_drew ?_ | refine blk_alloc ?_ _)); refine blk_put (cs := #[.int .i64 t223, .int .i64 0, .int .i64 0, .slice none 0 0, .int .i64 0, .string (⟨#[]⟩ : ByteArray), .string (⟨#[]⟩ : ByteArray), .int .i64 0, .int .i64 0, .int .i64 0]) ?_ 1 _ rfl; (with_reducible repeat (first | refine blk_drewN ?_ _ | refine blk_drew ?_ | refine blk_alloc ?_ _)); refine blk_put (cs := #[.int .i64 0, .int .i64 0, .int .i64 0, .slice none 0 0, .int .i64 0, .string (⟨#[]⟩ : ByteArray), .string (⟨#[]⟩ : ByteArray), .int .i64 0, .int .i64 0, .int .i64 0]) ?_ 0 _ rfl; (with_reducible repeat (first | refine blk_drewN ?_ _ | refine blk_drew ?_ | refine blk_alloc ?_ _)); exact BK238.out) hb); have n4_ := Aside0.mk (below_step z8_5 hb); clear HO228; clear BK221; clear HI222; clear BK238; clear HB; have HO228 := n0_; have BK221 := n1_; have HI222 := n2_; have BK238 := n3_; have HB := n4_; clear n0_ n1_ n2_ n3_ n4_; obtain ⟨HGz55, hgz55⟩ := HI222.out; have hcz55_0 := cellS34_0 HGz55; have hcz55_1 := cellS34_1 HGz55; have hcz55_2 := cellS34_2 HGz55; have hfz55_0 := blk_frozen HGz55 0; have hfz55_1 := blk_frozen HGz55 1; have hfz55_2 := blk_frozen HGz55 2; clear HGz55 hgz55; have hnb56 := NB221_222.out; have hnc56 := NB222_221.out; have hcz57_0 : w54.cell? ⟨gb221, 0, none⟩ = some (.int .i64 0) := (blk_cell BK221.out 0).trans rfl; have hcz57_1 : w54.cell? ⟨gb221, 1, none⟩ = some (.int .i64 0) := (blk_cell BK221.out 1).trans rfl; have hcz57_2 : w54.cell? ⟨gb221, 2, none⟩ = some (.int .i64 0) := (blk_cell BK221.out 2).trans rfl; have hcz57_3 : w54.cell? ⟨gb221, 3, none⟩ = some (.slice none 0 0) := (blk_cell BK221.out 3).trans rfl; have hcz57_4 : w54.cell? ⟨gb221, 4, none⟩ = some (.int .i64 0) := (blk_cell BK221.out 4).trans rfl; have hcz57_5 : w54.cell? ⟨gb221, 5, none⟩ = some (.string (⟨#[]⟩ : ByteArray)) := (blk_cell BK221.out 5).trans rfl; have hcz57_6 : w54.cell? ⟨gb221, 6, none⟩ = some (.string (⟨#[]⟩ : ByteArray)) := (blk_cell BK221.out 6).trans rfl; have hcz57_7 : w54.cell? ⟨gb221, 7, none⟩ = some (.int .i64 0) := (blk_cell BK221.out 7).trans rfl; have hcz57_8 : w54.cell? ⟨gb221, 8, none⟩ = some (.int .i64 0) := (blk_cell BK221.out 8).trans rfl; have hcz57_9 : w54.cell? ⟨gb221, 9, none⟩ = some (.int .i64 0) := (blk_cell BK221.out 9).trans rfl; have hfz57_0 := blk_frozen BK221.out 0; have hfz57_1 := blk_frozen BK221.out 1; have hfz57_2 := blk_frozen BK221.out 2; have hfz57_3 := blk_frozen BK221.out 3; have hfz57_4 := blk_frozen BK221.out 4; have hfz57_5 := blk_frozen BK221.out 5; have hfz57_6 := blk_frozen BK221.out 6; have hfz57_7 := blk_frozen BK221.out 7; have hfz57_8 := blk_frozen BK221.out 8; have hfz57_9 := blk_frozen BK221.out 9))
          refine bodyPost_ret (results_ctt rfl _ _ gb221 26 #[.int .i64 0, .int .i64 0, .int .i64 0, .slice none 0 0, .int .i64 0, .string (⟨#[]⟩ : ByteArray), .string (⟨#[]⟩ : ByteArray), .int .i64 0, .int .i64 0, .int .i64 0] (0, 0) _ rfl z8_0 Try.underlying26 rfl z8_27) rfl ?_
          exact ⟨_, z8_11, z8_22, z8_5⟩
        ·
         rw [if_neg c25] at H
         exact absurd H (by simp)
       ·
        rw [if_neg c24] at H
        exact absurd H (by simp)
      ·
       rw [if_neg c23] at H
       exact absurd H (by simp)
     ·
      replace c22 := Bool.eq_false_iff.mpr c22
      subst c22
      have H1 : (some (0, 0, 0, ([] : List Int), 0, (⟨#[]⟩ : ByteArray), (⟨#[]⟩ : ByteArray), 0, 0, 0, 0, false)) = some (r1, r2, r3, r4, r5, r6, r7, r8, r9, r10, r11, r12) := by rw [if_neg (show ¬ (false = true) by decide)] at H; exact H
      clear H
      have H := H1
      clear H1
      simp only [Option.some.injEq, Prod.mk.injEq] at H
      obtain ⟨rfl, rfl, rfl, rfl, rfl, rfl, rfl, rfl, rfl, rfl, rfl, rfl⟩ := H
      go_wp2_with (first | ((with_reducible refine gate_dst (N := 23) rfl ?_); (try (refine gate_guard (by rfl) ?_; dsimp only)); refine box_event ?hg (N := 23) ?hd (cs := #[.string a0, .int .i64 a1, .bool false]) (t := 34) ?hr ?_; (case hd => rfl); (case hg => rfl); (case hr => first | (go_simp; done) | (go_simp; rfl)); intro gb222 hg w58 hbox hb; have n0_ := Aside0.mk (blk_below (g := gb221) (o := .cells #[.int .i64 0, .int .i64 0, .int .i64 0, .slice none 0 0, .int .i64 0, .string (⟨#[]⟩ : ByteArray), .string (⟨#[]⟩ : ByteArray), .int .i64 0, .int .i64 0, .int .i64 0] 26 (0, 0)) z8_2 hb); have n1_ := Aside0.mk (below_step z8_4 hb); have n2_ := Aside0.mk (hbox); have n3_ := Aside0.mk ((by rw [hg]; exact (below_size z8_4) : w.heap.size ≤ gb222)); have n4_ := Aside0.mk ((by rw [hg]; exact (below_size z8_4) : w.heap.size ≤ gb222)); have n5_ := Aside0.mk ((by rw [hg]; exact Nat.ne_of_lt (blk_lt (g := gb221) (o := .cells #[.int .i64 0, .int .i64 0, .int .i64 0, .slice none 0 0, .int .i64 0, .string (⟨#[]⟩ : ByteArray), .string (⟨#[]⟩ : ByteArray), .int .i64 0, .int .i64 0, .int .i64 0] 26 (0, 0)) z8_2) : gb221 ≠ gb222)); have n6_ := Aside0.mk ((by rw [hg]; exact Nat.ne_of_gt (blk_lt (g := gb221) (o := .cells #[.int .i64 0, .int .i64 0, .int .i64 0, .slice none 0 0, .int .i64 0, .string (⟨#[]⟩ : ByteArray), .string (⟨#[]⟩ : ByteArray), .int .i64 0, .int .i64 0, .int .i64 0] 26 (0, 0)) z8_2) : gb222 ≠ gb221)); clear BK221; clear HB; have BK221 := n0_; have HB := n1_; have BK222 := n2_; have GW222 := n3_; have GE222 := n4_; have NB221_222 := n5_; have NB222_221 := n6_; clear n0_ n1_ n2_ n3_ n4_ n5_ n6_; clear hb hbox hg) | ((with_reducible refine gate_callee (f := 9) rfl ?_); refine goesL_ (some 25) rfl rfl Try.func9 z8_27 rfl #[.pointer (some ⟨gb222, 0, none⟩)] rfl z8_10 ?_; (with_reducible refine (spec_l05Read_act.calls kj2 gb222 a0 a1 false t223 t224 t225 t226 t229 t230 t231 t232 t233 t234 t235 t236 false w _ ?side1 ?side2 A8.out).mono ?_); (case side1 => exact ⟨z8_24, GW222.out⟩); (case side2 => repeat (first | (with_reducible first | exact HB.out | apply below_alloc | apply pw_below_drewN | apply below_drew1 | refine below_set ?_ (IsS34.ge HI222.out) | refine below_set ?_ GE221.out) | exact HB.out)); rintro e w59 ⟨v227, rfl, ho0, hi, hb, hk⟩; refine ⟨_, rfl, ?_⟩; have n0_ := Aside0.mk (KeepBut.blk hk (g' := gb221) (o := .cells #[.int .i64 0, .int .i64 0, .int .i64 0, .slice none 0 0, .int .i64 0, .string (⟨#[]⟩ : ByteArray), .string (⟨#[]⟩ : ByteArray), .int .i64 0, .int .i64 0, .int .i64 0] 26 (0, 0)) z8_2 NB221_222.out (by simp)); have n1_ := Aside0.mk (Kd.R_lower ho0 (below_size z8_3)); have n2_ := Aside0.mk (hb); have n3_ := Aside0.mk (hi); clear BK221; clear HB; clear BK222; have BK221 := n0_; have HO228 := n1_; have HB := n2_; have HI222 := n3_; clear n0_ n1_ n2_ n3_; (try clear ho0)) | ((with_reducible refine gate_dst (N := 8) rfl ?_); (try (refine gate_guard (by rfl) ?_; dsimp only)); refine box_event ?hg (N := 8) ?hd (cs := #[.int .i64 0, .int .i64 0, .int .i64 0, .slice none 0 0, .int .i64 0, .string (⟨#[]⟩ : ByteArray), .string (⟨#[]⟩ : ByteArray), .int .i64 0, .int .i64 0, .int .i64 0]) (t := 26) ?hr ?_; (case hd => rfl); (case hg => rfl); (case hr => first | (go_simp; done) | (go_simp; rfl)); intro gb238 hg w60 hbox hb; have n0_ := Aside0.mk (Kd.R_below z8_25 hb); have n1_ := Aside0.mk (blk_below (g := gb221) (o := .cells #[.int .i64 0, .int .i64 0, .int .i64 0, .slice none 0 0, .int .i64 0, .string (⟨#[]⟩ : ByteArray), .string (⟨#[]⟩ : ByteArray), .int .i64 0, .int .i64 0, .int .i64 0] 26 (0, 0)) z8_2 hb); have n2_ := Aside0.mk (IsS34.below z8_13 hb); have n3_ := Aside0.mk (below_step z8_3 hb); have n4_ := Aside0.mk (hbox); have n5_ := Aside0.mk ((by rw [hg]; exact (below_size z8_3) : w.heap.size ≤ gb238)); have n6_ := Aside0.mk ((by rw [hg]; exact (below_size z8_3) : w.heap.size ≤ gb238)); have n7_ := Aside0.mk ((by rw [hg]; exact Nat.ne_of_lt (blk_lt (g := gb221) (o := .cells #[.int .i64 0, .int .i64 0, .int .i64 0, .slice none 0 0, .int .i64 0, .string (⟨#[]⟩ : ByteArray), .string (⟨#[]⟩ : ByteArray), .int .i64 0, .int .i64 0, .int .i64 0] 26 (0, 0)) z8_2) : gb221 ≠ gb238)); have n8_ := Aside0.mk ((by rw [hg]; exact Nat.ne_of_gt (blk_lt (g := gb221) (o := .cells #[.int .i64 0, .int .i64 0, .int .i64 0, .slice none 0 0, .int .i64 0, .string (⟨#[]⟩ : ByteArray), .string (⟨#[]⟩ : ByteArray), .int .i64 0, .int .i64 0, .int .i64 0] 26 (0, 0)) z8_2) : gb238 ≠ gb221)); have n9_ := Aside0.mk ((by rw [hg]; exact Nat.ne_of_lt (IsS34.lt (show IsS34 w _ gb222 t235 t236 false from by repeat (first | (with_reducible first | exact HI222.out | apply IsS34.alloc | apply IsS34.drewN | apply IsS34.drew | apply IsS34.set_0 | apply IsS34.set_1 | apply IsS34.set_2 | refine IsS34.far ?_ NB222_221.out _) | exact HI222.out))) : gb222 ≠ gb238)); have n10_ := Aside0.mk ((by rw [hg]; exact Nat.ne_of_gt (IsS34.lt (show IsS34 w _ gb222 t235 t236 false from by repeat (first | (with_reducible first | exact HI222.out | apply IsS34.alloc | apply IsS34.drewN | apply IsS34.drew | apply IsS34.set_0 | apply IsS34.set_1 | apply IsS34.set_2 | refine IsS34.far ?_ NB222_221.out _) | exact HI222.out))) : gb238 ≠ gb222)); clear HO228; clear BK221; clear HI222; clear HB; have HO228 := n0_; have BK221 := n1_; have HI222 := n2_; have HB := n3_; have BK238 := n4_; have GW238 := n5_; have GE238 := n6_; have NB221_238 := n7_; have NB238_221 := n8_; have NB222_238 := n9_; have NB238_222 := n10_; clear n0_ n1_ n2_ n3_ n4_ n5_ n6_ n7_ n8_ n9_ n10_; clear hb hbox hg; have hnb61 := NB238_221.out; have hnc61 := NB221_238.out; have hnb62 := NB238_222.out; have hnc62 := NB222_238.out; have hcz63_0 : w60.cell? ⟨gb238, 0, none⟩ = some (.int .i64 0) := (blk_cell BK238.out 0).trans rfl; have hcz63_1 : w60.cell? ⟨gb238, 1, none⟩ = some (.int .i64 0) := (blk_cell BK238.out 1).trans rfl; have hcz63_2 : w60.cell? ⟨gb238, 2, none⟩ = some (.int .i64 0) := (blk_cell BK238.out 2).trans rfl; have hcz63_3 : w60.cell? ⟨gb238, 3, none⟩ = some (.slice none 0 0) := (blk_cell BK238.out 3).trans rfl; have hcz63_4 : w60.cell? ⟨gb238, 4, none⟩ = some (.int .i64 0) := (blk_cell BK238.out 4).trans rfl; have hcz63_5 : w60.cell? ⟨gb238, 5, none⟩ = some (.string (⟨#[]⟩ : ByteArray)) := (blk_cell BK238.out 5).trans rfl; have hcz63_6 : w60.cell? ⟨gb238, 6, none⟩ = some (.string (⟨#[]⟩ : ByteArray)) := (blk_cell BK238.out 6).trans rfl; have hcz63_7 : w60.cell? ⟨gb238, 7, none⟩ = some (.int .i64 0) := (blk_cell BK238.out 7).trans rfl; have hcz63_8 : w60.cell? ⟨gb238, 8, none⟩ = some (.int .i64 0) := (blk_cell BK238.out 8).trans rfl; have hcz63_9 : w60.cell? ⟨gb238, 9, none⟩ = some (.int .i64 0) := (blk_cell BK238.out 9).trans rfl; have hfz63_0 := blk_frozen BK238.out 0; have hfz63_1 := blk_frozen BK238.out 1; have hfz63_2 := blk_frozen BK238.out 2; have hfz63_3 := blk_frozen BK238.out 3; have hfz63_4 := blk_frozen BK238.out 4; have hfz63_5 := blk_frozen BK238.out 5; have hfz63_6 := blk_frozen BK238.out 6; have hfz63_7 := blk_frozen BK238.out 7; have hfz63_8 := blk_frozen BK238.out 8; have hfz63_9 := blk_frozen BK238.out 9; obtain ⟨Ao64, co64, eo64⟩ := Kd.R_slice HO228.out; subst eo64) | ((with_reducible refine gate_callee (f := 10) rfl ?_); refine goesL_ (some 28) rfl rfl Try.func10 z8_27 rfl #[.agg #[.int .i64 t223, .int .i64 t224, .int .i64 t225, .slice Ao64 t226.length co64, .int .i64 t229, .string t230, .string t231, .int .i64 t232, .int .i64 t233, .int .i64 t234]] rfl z8_10 ?_; (with_reducible refine (spec_ActText.calls kj2 t223 t224 t225 _ _ t226 t229 t230 t231 t232 t233 t234 t239 false _ ?side1 ?side2 A9.out).mono ?_); (case side1 => refine (Kd.R_reads' (e := 3) (base := w.heap.size) (ok := fun k_ => True) (n := t226.length) (c := co64) ?_).2.2; exact z8_6); (case side2 => exact (Kd.R_reads' HO228.out).2.1); rintro e w65 ⟨rfl, hb⟩; refine ⟨_, rfl, ?_⟩; have n0_ := Aside0.mk (Kd.R_below z8_6 hb); have n1_ := Aside0.mk (blk_below (g := gb221) (o := .cells #[.int .i64 0, .int .i64 0, .int .i64 0, .slice none 0 0, .int .i64 0, .string (⟨#[]⟩ : ByteArray), .string (⟨#[]⟩ : ByteArray), .int .i64 0, .int .i64 0, .int .i64 0] 26 (0, 0)) z8_1 hb); have n2_ := Aside0.mk (IsS34.below (show IsS34 w ((((((((((w60.setCell ⟨gb238, 0, none⟩ (.int .i64 t223)).setCell ⟨gb238, 1, none⟩ (.int .i64 t224)).setCell ⟨gb238, 2, none⟩ (.int .i64 t225)).setCell ⟨gb238, 3, none⟩ (.slice Ao64 t226.length co64)).setCell ⟨gb238, 4, none⟩ (.int .i64 t229)).setCell ⟨gb238, 5, none⟩ (.string t230)).setCell ⟨gb238, 6, none⟩ (.string t231)).setCell ⟨gb238, 7, none⟩ (.int .i64 t232)).setCell ⟨gb238, 8, none⟩ (.int .i64 t233)).setCell ⟨gb238, 9, none⟩ (.int .i64 t234)) gb222 t235 t236 false from by repeat (first | (with_reducible first | exact HI222.out | apply IsS34.alloc | apply IsS34.drewN | apply IsS34.drew | apply IsS34.set_0 | apply IsS34.set_1 | apply IsS34.set_2 | refine IsS34.far ?_ NB222_221.out _ | refine IsS34.far ?_ NB222_238.out _) | exact HI222.out)) hb); have n3_ := Aside0.mk (blk_below (g := gb238) (o := .cells #[.int .i64 t223, .int .i64 t224, .int .i64 t225, .slice Ao64 t226.length co64, .int .i64 t229, .string t230, .string t231, .int .i64 t232, .int .i64 t233, .int .i64 t234] 26 (0, 0)) (by (with_reducible repeat (first | refine blk_drewN ?_ _ | refine blk_drew ?_ | refine blk_alloc ?_ _)); refine blk_put (cs := #[.int .i64 t223, .int .i64 t224, .int .i64 t225, .slice Ao64 t226.length co64, .int .i64 t229, .string t230, .string t231, .int .i64 t232, .int .i64 t233, .int .i64 0]) ?_ 9 _ rfl; (with_reducible repeat (first | refine blk_drewN ?_ _ | refine blk_drew ?_ | refine blk_alloc ?_ _)); refine blk_put (cs := #[.int .i64 t223, .int .i64 t224, .int .i64 t225, .slice Ao64 t226.length co64, .int .i64 t229, .string t230, .string t231, .int .i64 t232, .int .i64 0, .int .i64 0]) ?_ 8 _ rfl; (with_reducible repeat (first | refine blk_drewN ?_ _ | refine blk_drew ?_ | refine blk_alloc ?_ _)); refine blk_put (cs := #[.int .i64 t223, .int .i64 t224, .int .i64 t225, .slice Ao64 t226.length co64, .int .i64 t229, .string t230, .string t231, .int .i64 0, .int .i64 0, .int .i64 0]) ?_ 7 _ rfl; (with_reducible repeat (first | refine blk_drewN ?_ _ | refine blk_drew ?_ | refine blk_alloc ?_ _)); refine blk_put (cs := #[.int .i64 t223, .int .i64 t224, .int .i64 t225, .slice Ao64 t226.length co64, .int .i64 t229, .string t230, .string (⟨#[]⟩ : ByteArray), .int .i64 0, .int .i64 0, .int .i64 0]) ?_ 6 _ rfl; (with_reducible repeat (first | refine blk_drewN ?_ _ | refine blk_drew ?_ | refine blk_alloc ?_ _)); refine blk_put (cs := #[.int .i64 t223, .int .i64 t224, .int .i64 t225, .slice Ao64 t226.length co64, .int .i64 t229, .string (⟨#[]⟩ : ByteArray), .string (⟨#[]⟩ : ByteArray), .int .i64 0, .int .i64 0, .int .i64 0]) ?_ 5 _ rfl; (with_reducible repeat (first | refine blk_drewN ?_ _ | refine blk_drew ?_ | refine blk_alloc ?_ _)); refine blk_put (cs := #[.int .i64 t223, .int .i64 t224, .int .i64 t225, .slice Ao64 t226.length co64, .int .i64 0, .string (⟨#[]⟩ : ByteArray), .string (⟨#[]⟩ : ByteArray), .int .i64 0, .int .i64 0, .int .i64 0]) ?_ 4 _ rfl; (with_reducible repeat (first | refine blk_drewN ?_ _ | refine blk_drew ?_ | refine blk_alloc ?_ _)); refine blk_put (cs := #[.int .i64 t223, .int .i64 t224, .int .i64 t225, .slice none 0 0, .int .i64 0, .string (⟨#[]⟩ : ByteArray), .string (⟨#[]⟩ : ByteArray), .int .i64 0, .int .i64 0, .int .i64 0]) ?_ 3 _ rfl; (with_reducible repeat (first | refine blk_drewN ?_ _ | refine blk_drew ?_ | refine blk_alloc ?_ _)); refine blk_put (cs := #[.int .i64 t223, .int .i64 t224, .int .i64 0, .slice none 0 0, .int .i64 0, .string (⟨#[]⟩ : ByteArray), .string (⟨#[]⟩ : ByteArray), .int .i64 0, .int .i64 0, .int .i64 0]) ?_ 2 _ rfl; (with_reducible repeat (first | refine blk_drewN ?_ _ | refine blk_drew ?_ | refine blk_alloc ?_ _)); refine blk_put (cs := #[.int .i64 t223, .int .i64 0, .int .i64 0, .slice none 0 0, .int .i64 0, .string (⟨#[]⟩ : ByteArray), .string (⟨#[]⟩ : ByteArray), .int .i64 0, .int .i64 0, .int .i64 0]) ?_ 1 _ rfl; (with_reducible repeat (first | refine blk_drewN ?_ _ | refine blk_drew ?_ | refine blk_alloc ?_ _)); refine blk_put (cs := #[.int .i64 0, .int .i64 0, .int .i64 0, .slice none 0 0, .int .i64 0, .string (⟨#[]⟩ : ByteArray), .string (⟨#[]⟩ : ByteArray), .int .i64 0, .int .i64 0, .int .i64 0]) ?_ 0 _ rfl; (with_reducible repeat (first | refine blk_drewN ?_ _ | refine blk_drew ?_ | refine blk_alloc ?_ _)); exact BK238.out) hb); have n4_ := Aside0.mk (below_step z8_5 hb); clear HO228; clear BK221; clear HI222; clear BK238; clear HB; have HO228 := n0_; have BK221 := n1_; have HI222 := n2_; have BK238 := n3_; have HB := n4_; clear n0_ n1_ n2_ n3_ n4_; obtain ⟨HGz66, hgz66⟩ := HI222.out; have hcz66_0 := cellS34_0 HGz66; have hcz66_1 := cellS34_1 HGz66; have hcz66_2 := cellS34_2 HGz66; have hfz66_0 := blk_frozen HGz66 0; have hfz66_1 := blk_frozen HGz66 1; have hfz66_2 := blk_frozen HGz66 2; clear HGz66 hgz66; have hnb67 := NB221_222.out; have hnc67 := NB222_221.out; have hcz68_0 : w65.cell? ⟨gb221, 0, none⟩ = some (.int .i64 0) := (blk_cell BK221.out 0).trans rfl; have hcz68_1 : w65.cell? ⟨gb221, 1, none⟩ = some (.int .i64 0) := (blk_cell BK221.out 1).trans rfl; have hcz68_2 : w65.cell? ⟨gb221, 2, none⟩ = some (.int .i64 0) := (blk_cell BK221.out 2).trans rfl; have hcz68_3 : w65.cell? ⟨gb221, 3, none⟩ = some (.slice none 0 0) := (blk_cell BK221.out 3).trans rfl; have hcz68_4 : w65.cell? ⟨gb221, 4, none⟩ = some (.int .i64 0) := (blk_cell BK221.out 4).trans rfl; have hcz68_5 : w65.cell? ⟨gb221, 5, none⟩ = some (.string (⟨#[]⟩ : ByteArray)) := (blk_cell BK221.out 5).trans rfl; have hcz68_6 : w65.cell? ⟨gb221, 6, none⟩ = some (.string (⟨#[]⟩ : ByteArray)) := (blk_cell BK221.out 6).trans rfl; have hcz68_7 : w65.cell? ⟨gb221, 7, none⟩ = some (.int .i64 0) := (blk_cell BK221.out 7).trans rfl; have hcz68_8 : w65.cell? ⟨gb221, 8, none⟩ = some (.int .i64 0) := (blk_cell BK221.out 8).trans rfl; have hcz68_9 : w65.cell? ⟨gb221, 9, none⟩ = some (.int .i64 0) := (blk_cell BK221.out 9).trans rfl; have hfz68_0 := blk_frozen BK221.out 0; have hfz68_1 := blk_frozen BK221.out 1; have hfz68_2 := blk_frozen BK221.out 2; have hfz68_3 := blk_frozen BK221.out 3; have hfz68_4 := blk_frozen BK221.out 4; have hfz68_5 := blk_frozen BK221.out 5; have hfz68_6 := blk_frozen BK221.out 6; have hfz68_7 := blk_frozen BK221.out 7; have hfz68_8 := blk_frozen BK221.out 8; have hfz68_9 := blk_frozen BK221.out 9))
      refine bodyPost_ret (results_ctt rfl _ _ gb221 26 #[.int .i64 0, .int .i64 0, .int .i64 0, .slice none 0 0, .int .i64 0, .string (⟨#[]⟩ : ByteArray), .string (⟨#[]⟩ : ByteArray), .int .i64 0, .int .i64 0, .int .i64 0] (0, 0) _ rfl z8_0 Try.underlying26 rfl z8_27) rfl ?_
      exact ⟨_, z8_11, z8_22, z8_5⟩
def impl_within.f (a0 : Int) (a1 : Int) (a2 : Int) : Option (Bool) := if a0 ≥ a1 then (some (decide (a0 ≤ a2))) else (some false)
set_option maxHeartbeats 8000000 in
set_option maxRecDepth 100000 in
theorem impl_within.calls (a0 : Int) (a1 : Int) (a2 : Int) (r : Bool) (w : World) (h : impl_within.f a0 a1 a2 = some r) :
  Calls Try.prog 33 #[.int .i64 a0, .int .i64 a1, .int .i64 a2] w fun e w' => e = .returned (.bool r) ∧ Drawn0 w w' := by
 have H : (if a0 ≥ a1 then (some (decide (a0 ≤ a2))) else (some false)) = some r := h
 clear h
 by_cases c4 : a0 ≥ a1
 ·
  rw [if_pos c4] at H
  have c4b0 : decide (a1 ≤ a0) = true := decide_eq_true c4
  clear c4
  obtain rfl := Option.some.inj H
  go_enter Try.func33, Try.ntmps33
  go_wp2
  go_ret
  exact ⟨z8_20, z8_14⟩
 ·
  rw [if_neg c4] at H
  have c4b0 : decide (a1 ≤ a0) = false := decide_eq_false c4
  clear c4
  obtain rfl := Option.some.inj H
  go_enter Try.func33, Try.ntmps33
  go_wp2
  go_ret
  exact ⟨z8_20, z8_14⟩
mutual
def impl_ReadVar.l0 : Nat → ByteArray → Int → Int → Int → Option (Int × Int × Bool)
  | 0, _, _, _, _ => none
  | k + 1, x0, x1, x7, x8 => if x8 < 5 then (impl_ReadVar.j1 k x0 x1 x7 x8 (decide ((wrap64 (x1 + x8)) < (x0.size : Int)))) else (impl_ReadVar.j1 k x0 x1 x7 x8 false)
def impl_ReadVar.j1 : Nat → ByteArray → Int → Int → Int → Bool → Option (Int × Int × Bool)
  | 0, _, _, _, _, _ => none
  | k + 1, x0, x1, x7, x8, x24 => if x24 = true then (if 0 ≤ (wrap64 (x1 + x8)) then (if (wrap64 (x1 + x8)) < (x0.size : Int) then (if 0 ≤ (wrap64 (7 * x8)) then (if (wrap64 (bt x0 (wrap64 (x1 + x8)))) > 127 then (impl_ReadVar.l0 k x0 x1 (wrap64 (x7 + (shl .i64 (Int.tmod (wrap64 (bt x0 (wrap64 (x1 + x8)))) 128) (wrap64 (7 * x8))))) (wrap64 (x8 + 1))) else (if x8 > 0 then (if (wrap64 (bt x0 (wrap64 (x1 + x8)))) = 0 then (some (0, 0, false)) else (if (wrap64 (x7 + (shl .i64 (Int.tmod (wrap64 (bt x0 (wrap64 (x1 + x8)))) 128) (wrap64 (7 * x8))))) > 1000000000 then (some (0, 0, false)) else (some (wrap64 (x7 + (shl .i64 (Int.tmod (wrap64 (bt x0 (wrap64 (x1 + x8)))) 128) (wrap64 (7 * x8)))), wrap64 ((wrap64 (x1 + x8)) + 1), true)))) else (if (wrap64 (x7 + (shl .i64 (Int.tmod (wrap64 (bt x0 (wrap64 (x1 + x8)))) 128) (wrap64 (7 * x8))))) > 1000000000 then (some (0, 0, false)) else (some (wrap64 (x7 + (shl .i64 (Int.tmod (wrap64 (bt x0 (wrap64 (x1 + x8)))) 128) (wrap64 (7 * x8)))), wrap64 ((wrap64 (x1 + x8)) + 1), true))))) else (none)) else (none)) else (none)) else (some (0, 0, false))
end


def impl_ReadVar.f (k : Nat) (a0 : ByteArray) (a1 : Int) : Option (Int × Int × Bool) := (impl_within.f a1 0 (a0.size : Int)).bind fun t241 => (if t241 = true then (impl_ReadVar.l0 k a0 a1 0 0) else (some (0, 0, false)))
set_option maxHeartbeats 8000000 in
set_option maxRecDepth 100000 in
theorem impl_ReadVar.calls (k : Nat) (a0 : ByteArray) (a1 : Int) (r1 : Int) (r2 : Int) (r3 : Bool) (w : World) (h : impl_ReadVar.f k a0 a1 = some (r1, r2, r3)) :
  Calls Try.prog 29 #[.string a0, .int .i64 a1] w fun e w' => e = .returned (.tuple #[.int .i64 r1, .int .i64 r2, .bool r3]) ∧ Drawn0 w w' := by
 have H : ((impl_within.f a1 0 (a0.size : Int)).bind fun t241 => (if t241 = true then (impl_ReadVar.l0 k a0 a1 0 0) else (some (0, 0, false)))) = some (r1, r2, r3) := h
 clear h
 replace H := Option.bind_eq_some_iff.mp H
 obtain ⟨t241, A30, H⟩ := H
 (try dsimp only at H)
 have A3 := Aside0.mk A30
 clear A30
 by_cases c4 : t241 = true
 ·
  subst c4
  have H1 : (impl_ReadVar.l0 k a0 a1 0 0) = some (r1, r2, r3) := by rw [if_pos rfl] at H; exact H
  clear H
  have H := H1
  clear H1
  have H' := Aside0.mk H
  clear H
  go_enter Try.func29, Try.ntmps29
  go_wp2_with (first | ((with_reducible refine gate_callee (f := 33) rfl ?_); refine goesL_ (some 13) rfl rfl Try.func33 z8_27 rfl #[.int .i64 a1, .int .i64 0, .int .i64 (a0.size : Int)] rfl z8_10 ?_; (with_reducible refine (impl_within.calls a1 0 (a0.size : Int) true _ A3.out).mono ?_); rintro e w' ⟨rfl, ⟨nd, rfl⟩⟩; refine ⟨_, rfl, ?_⟩))
  go_loopg [7, 8] k (fun kq v7 v8 w' => ∃ (x7_1 : Int) (x8_1 : Int), v7 = .int .i64 x7_1 ∧ v8 = .int .i64 x8_1 ∧ Aside0 (impl_ReadVar.l0 kq a0 a1 x7_1 x8_1 = some (r1, r2, r3)) ∧ Aside0 (kq ≤ k) ∧ Drawn0 w w')
  case atStart => exact ⟨(0), (0), z8_20, z8_20, H', ⟨Nat.le_refl _⟩, z8_14⟩
  case round =>
   clear H'
   try clear c2
   try clear p2
   try clear c3
   try clear c4
   obtain ⟨x7_1, x8_1, rfl, rfl, HA, HK1, ⟨m1, rfl⟩⟩ := hrel
   cases gk with
   | zero => exact absurd HA.out (by simp [impl_ReadVar.l0])
   | succ k1 =>
    have H := HA.out
    clear HA
    simp only [impl_ReadVar.l0] at H
    have HC5 := Aside0.mk H
    clear H
    go_upto_region 5 with (fail)
    go_cut [24] (fun v24 wc => ∃ (kq : Nat) (x24_4 : Bool), v24 = .bool x24_4 ∧ Aside0 (impl_ReadVar.j1 kq a0 a1 x7_1 x8_1 x24_4 = some (r1, r2, r3)) ∧ Aside0 (kq ≤ k1) ∧ Drawn0 w wc)
    case first =>
     have H := HC5.out
     clear HC5
     by_cases c6 : x8_1 < 5
     ·
      rw [if_pos c6] at H
      have c6b0 : decide (x8_1 < 5) = true := decide_eq_true c6
      clear c6
      (first | rw [c6b0] | (simp only [i64_w, i32_w]; rw [c6b0]) | skip)
      have H' := Aside0.mk H
      clear H
      go_wp2
      go_meet
      case rel => exact ⟨_, (decide ((wrap64 (a1 + x8_1)) < (a0.size : Int))), z8_20, H', ⟨by have := HK1.out; first | omega | exact Nat.le_refl _⟩, z8_14⟩
     ·
      rw [if_neg c6] at H
      have c6b0 : decide (x8_1 < 5) = false := decide_eq_false c6
      clear c6
      (first | rw [c6b0] | (simp only [i64_w, i32_w]; rw [c6b0]) | skip)
      have H' := Aside0.mk H
      clear H
      go_wp2
      go_meet
      case rel => exact ⟨_, (false), z8_20, H', ⟨by have := HK1.out; first | omega | exact Nat.le_refl _⟩, z8_14⟩
    case rest =>
     clear HC5
     try clear c2
     try clear p2
     try clear c3
     try clear c4
     try clear c6
     try clear c6b0
     try clear p6
     try clear p2
     obtain ⟨kq, x24_4, rfl, HA, HJ4, ⟨mc4, rfl⟩⟩ := hcut
     cases kq with
     | zero => exact absurd HA.out (by simp [impl_ReadVar.j1])
     | succ kj4 =>
      have H := HA.out
      clear HA
      simp only [impl_ReadVar.j1] at H
      by_cases c7 : x24_4 = true
      ·
       subst c7
       have H1 : (if 0 ≤ (wrap64 (a1 + x8_1)) then (if (wrap64 (a1 + x8_1)) < (a0.size : Int) then (if 0 ≤ (wrap64 (7 * x8_1)) then (if (wrap64 (bt a0 (wrap64 (a1 + x8_1)))) > 127 then (impl_ReadVar.l0 kj4 a0 a1 (wrap64 (x7_1 + (shl .i64 (Int.tmod (wrap64 (bt a0 (wrap64 (a1 + x8_1)))) 128) (wrap64 (7 * x8_1))))) (wrap64 (x8_1 + 1))) else (if x8_1 > 0 then (if (wrap64 (bt a0 (wrap64 (a1 + x8_1)))) = 0 then (some (0, 0, false)) else (if (wrap64 (x7_1 + (shl .i64 (Int.tmod (wrap64 (bt a0 (wrap64 (a1 + x8_1)))) 128) (wrap64 (7 * x8_1))))) > 1000000000 then (some (0, 0, false)) else (some (wrap64 (x7_1 + (shl .i64 (Int.tmod (wrap64 (bt a0 (wrap64 (a1 + x8_1)))) 128) (wrap64 (7 * x8_1)))), wrap64 ((wrap64 (a1 + x8_1)) + 1), true)))) else (if (wrap64 (x7_1 + (shl .i64 (Int.tmod (wrap64 (bt a0 (wrap64 (a1 + x8_1)))) 128) (wrap64 (7 * x8_1))))) > 1000000000 then (some (0, 0, false)) else (some (wrap64 (x7_1 + (shl .i64 (Int.tmod (wrap64 (bt a0 (wrap64 (a1 + x8_1)))) 128) (wrap64 (7 * x8_1)))), wrap64 ((wrap64 (a1 + x8_1)) + 1), true))))) else (none)) else (none)) else (none)) = some (r1, r2, r3) := by rw [if_pos rfl] at H; exact H
       clear H
       have H := H1
       clear H1
       obtain ⟨ji8, hji8⟩ : ∃ j_ : Int, (wrap64 (a1 + x8_1)) = j_ := ⟨_, rfl⟩
       replace H : (if 0 ≤ (ji8) then (if (ji8) < (a0.size : Int) then (if 0 ≤ (wrap64 (7 * x8_1)) then (if (wrap64 (bt a0 (ji8))) > 127 then (impl_ReadVar.l0 kj4 a0 a1 (wrap64 (x7_1 + (shl .i64 (Int.tmod (wrap64 (bt a0 (ji8))) 128) (wrap64 (7 * x8_1))))) (wrap64 (x8_1 + 1))) else (if x8_1 > 0 then (if (wrap64 (bt a0 (ji8))) = 0 then (some (0, 0, false)) else (if (wrap64 (x7_1 + (shl .i64 (Int.tmod (wrap64 (bt a0 (ji8))) 128) (wrap64 (7 * x8_1))))) > 1000000000 then (some (0, 0, false)) else (some (wrap64 (x7_1 + (shl .i64 (Int.tmod (wrap64 (bt a0 (ji8))) 128) (wrap64 (7 * x8_1)))), wrap64 ((ji8) + 1), true)))) else (if (wrap64 (x7_1 + (shl .i64 (Int.tmod (wrap64 (bt a0 (ji8))) 128) (wrap64 (7 * x8_1))))) > 1000000000 then (some (0, 0, false)) else (some (wrap64 (x7_1 + (shl .i64 (Int.tmod (wrap64 (bt a0 (ji8))) 128) (wrap64 (7 * x8_1)))), wrap64 ((ji8) + 1), true))))) else (none)) else (none)) else (none)) = some (r1, r2, r3) := by first | (rw [hji8] at H; exact H) | (simp only [hji8] at H ⊢; exact H)
       have hji8w : (IntKind.i64.wrap (a1 + x8_1)) = ji8 := (i64_w _).trans hji8
       by_cases c9 : 0 ≤ (ji8)
       ·
        rw [if_pos c9] at H
        have c9b0 : decide (0 ≤ (ji8)) = true := decide_eq_true c9
        clear c9
        by_cases c10 : (ji8) < (a0.size : Int)
        ·
         rw [if_pos c10] at H
         have c10b0 : decide ((ji8) < (a0.size : Int)) = true := decide_eq_true c10
         clear c10
         obtain ⟨ji12, hji12⟩ : ∃ j_ : Int, (wrap64 (7 * x8_1)) = j_ := ⟨_, rfl⟩
         replace H : (if 0 ≤ (ji12) then (if (wrap64 (bt a0 (ji8))) > 127 then (impl_ReadVar.l0 kj4 a0 a1 (wrap64 (x7_1 + (shl .i64 (Int.tmod (wrap64 (bt a0 (ji8))) 128) (ji12)))) (wrap64 (x8_1 + 1))) else (if x8_1 > 0 then (if (wrap64 (bt a0 (ji8))) = 0 then (some (0, 0, false)) else (if (wrap64 (x7_1 + (shl .i64 (Int.tmod (wrap64 (bt a0 (ji8))) 128) (ji12)))) > 1000000000 then (some (0, 0, false)) else (some (wrap64 (x7_1 + (shl .i64 (Int.tmod (wrap64 (bt a0 (ji8))) 128) (ji12))), wrap64 ((ji8) + 1), true)))) else (if (wrap64 (x7_1 + (shl .i64 (Int.tmod (wrap64 (bt a0 (ji8))) 128) (ji12)))) > 1000000000 then (some (0, 0, false)) else (some (wrap64 (x7_1 + (shl .i64 (Int.tmod (wrap64 (bt a0 (ji8))) 128) (ji12))), wrap64 ((ji8) + 1), true))))) else (none)) = some (r1, r2, r3) := by first | (rw [hji12] at H; exact H) | (simp only [hji12] at H ⊢; exact H)
         have hji12w : (IntKind.i64.wrap (7 * x8_1)) = ji12 := (i64_w _).trans hji12
         by_cases c13 : 0 ≤ (ji12)
         ·
          rw [if_pos c13] at H
          have c13b0 := eq_true c13
          have c13b1 : decide (0 ≤ (ji12)) = true := decide_eq_true c13
          clear c13
          obtain ⟨ji14, hji14⟩ : ∃ j_ : Int, (shl .i64 (Int.tmod (wrap64 (bt a0 (ji8))) 128) (ji12)) = j_ := ⟨_, rfl⟩
          replace H : (if (wrap64 (bt a0 (ji8))) > 127 then (impl_ReadVar.l0 kj4 a0 a1 (wrap64 (x7_1 + (ji14))) (wrap64 (x8_1 + 1))) else (if x8_1 > 0 then (if (wrap64 (bt a0 (ji8))) = 0 then (some (0, 0, false)) else (if (wrap64 (x7_1 + (ji14))) > 1000000000 then (some (0, 0, false)) else (some (wrap64 (x7_1 + (ji14)), wrap64 ((ji8) + 1), true)))) else (if (wrap64 (x7_1 + (ji14))) > 1000000000 then (some (0, 0, false)) else (some (wrap64 (x7_1 + (ji14)), wrap64 ((ji8) + 1), true))))) = some (r1, r2, r3) := by first | (rw [hji14] at H; exact H) | (simp only [hji14] at H ⊢; exact H)
          have hji14_ : (IntKind.i64.wrap ((Int.tmod (wrap64 (bt a0 (ji8))) 128) * 2 ^ min (ji12).toNat 64)) = ji14 := hji14
          have hji14z : (ji12) ≤ 64 → (IntKind.i64.wrap ((Int.tmod (wrap64 (bt a0 (ji8))) 128) * 2 ^ (ji12).toNat)) = ji14 := shl_small hji14
          have hji14y : (wrap64 ((Int.tmod (wrap64 (bt a0 (ji8))) 128) * 2 ^ min (ji12).toNat 64)) = ji14 := (i64_w _).symm.trans hji14_
          have hji14x : (ji12) ≤ 64 → (wrap64 ((Int.tmod (wrap64 (bt a0 (ji8))) 128) * 2 ^ (ji12).toNat)) = ji14 := fun h_ => (i64_w _).symm.trans (hji14z h_)
          by_cases c15 : (wrap64 (bt a0 (ji8))) > 127
          ·
           rw [if_pos c15] at H
           have c15b0 : decide (127 < (wrap64 (bt a0 (ji8)))) = true := decide_eq_true c15
           clear c15
           have H' := Aside0.mk H
           clear H
           have p11 : 0 ≤ ((ji8) : Int) := of_decide_eq_true z8_17
           have q11 : (ji8) < (a0.size : Int) := of_decide_eq_true z8_17
           have hx11 := bt_at a0 (ji8)
           replace p11 := eq_true p11
           replace q11 := eq_true q11
           go_wp2
           go_roundg kj4
           case measure => have := HK1.out; have := HJ4.out; omega
           case rel => exact ⟨(wrap64 (x7_1 + (ji14))), (wrap64 (x8_1 + 1)), (by first | rfl | (simp; done) | (simp only [← hji14] <;> (first | rfl | simp)) | (simp [*]; done)), z8_20, H', ⟨by have := HK1.out; have := HJ4.out; omega⟩, z8_14⟩
          ·
           rw [if_neg c15] at H
           have c15b0 : decide (127 < (wrap64 (bt a0 (ji8)))) = false := decide_eq_false c15
           clear c15
           by_cases c16 : x8_1 > 0
           ·
            rw [if_pos c16] at H
            have c16b0 : decide (0 < x8_1) = true := decide_eq_true c16
            clear c16
            by_cases c17 : (wrap64 (bt a0 (ji8))) = 0
            ·
             rw [if_pos c17] at H
             have c17b0 : ((wrap64 (bt a0 (ji8))) == 0) = true := beq_iff_eq.mpr c17
             have c17b1 : ((wrap64 (bt a0 (ji8))) != 0) = false := bne_eq_false_iff_eq.mpr c17
             clear c17
             simp only [Option.some.injEq, Prod.mk.injEq] at H
             obtain ⟨rfl, rfl, rfl⟩ := H
             have p11 : 0 ≤ ((ji8) : Int) := of_decide_eq_true z8_17
             have q11 : (ji8) < (a0.size : Int) := of_decide_eq_true z8_17
             have hx11 := bt_at a0 (ji8)
             replace p11 := eq_true p11
             replace q11 := eq_true q11
             go_wp2
             go_ret3
             exact ⟨z8_19, z8_14⟩
            ·
             rw [if_neg c17] at H
             have c17b0 : ((wrap64 (bt a0 (ji8))) == 0) = false := beq_eq_false_iff_ne.mpr c17
             have c17b1 : ((wrap64 (bt a0 (ji8))) != 0) = true := bne_iff_ne.mpr c17
             by_cases c18 : (wrap64 (x7_1 + (ji14))) > 1000000000
             ·
              rw [if_pos c18] at H
              have c18b0 : decide (1000000000 < (wrap64 (x7_1 + (ji14)))) = true := decide_eq_true c18
              clear c18
              simp only [Option.some.injEq, Prod.mk.injEq] at H
              obtain ⟨rfl, rfl, rfl⟩ := H
              have p11 : 0 ≤ ((ji8) : Int) := of_decide_eq_true z8_17
              have q11 : (ji8) < (a0.size : Int) := of_decide_eq_true z8_17
              have hx11 := bt_at a0 (ji8)
              replace p11 := eq_true p11
              replace q11 := eq_true q11
              go_wp2
              go_ret3
              exact ⟨z8_19, z8_14⟩
             ·
              rw [if_neg c18] at H
              have c18b0 : decide (1000000000 < (wrap64 (x7_1 + (ji14)))) = false := decide_eq_false c18
              clear c18
              simp only [Option.some.injEq, Prod.mk.injEq] at H
              obtain ⟨rfl, rfl, rfl⟩ := H
              have p11 : 0 ≤ ((ji8) : Int) := of_decide_eq_true z8_17
              have q11 : (ji8) < (a0.size : Int) := of_decide_eq_true z8_17
              have hx11 := bt_at a0 (ji8)
              replace p11 := eq_true p11
              replace q11 := eq_true q11
              go_wp2
              go_ret3
              exact ⟨z8_19, z8_14⟩
           ·
            rw [if_neg c16] at H
            have c16b0 : decide (0 < x8_1) = false := decide_eq_false c16
            clear c16
            by_cases c19 : (wrap64 (x7_1 + (ji14))) > 1000000000
            ·
             rw [if_pos c19] at H
             have c19b0 : decide (1000000000 < (wrap64 (x7_1 + (ji14)))) = true := decide_eq_true c19
             clear c19
             simp only [Option.some.injEq, Prod.mk.injEq] at H
             obtain ⟨rfl, rfl, rfl⟩ := H
             have p11 : 0 ≤ ((ji8) : Int) := of_decide_eq_true z8_17
             have q11 : (ji8) < (a0.size : Int) := of_decide_eq_true z8_17
             have hx11 := bt_at a0 (ji8)
             replace p11 := eq_true p11
             replace q11 := eq_true q11
             go_wp2
             go_ret3
             exact ⟨z8_19, z8_14⟩
            ·
             rw [if_neg c19] at H
             have c19b0 : decide (1000000000 < (wrap64 (x7_1 + (ji14)))) = false := decide_eq_false c19
             clear c19
             simp only [Option.some.injEq, Prod.mk.injEq] at H
             obtain ⟨rfl, rfl, rfl⟩ := H
             have p11 : 0 ≤ ((ji8) : Int) := of_decide_eq_true z8_17
             have q11 : (ji8) < (a0.size : Int) := of_decide_eq_true z8_17
             have hx11 := bt_at a0 (ji8)
             replace p11 := eq_true p11
             replace q11 := eq_true q11
             go_wp2
             go_ret3
             exact ⟨z8_19, z8_14⟩
         ·
          rw [if_neg c13] at H
          exact absurd H (by simp)
        ·
         rw [if_neg c10] at H
         exact absurd H (by simp)
       ·
        rw [if_neg c9] at H
        exact absurd H (by simp)
      ·
       replace c7 := Bool.eq_false_iff.mpr c7
       subst c7
       have H1 : (some (0, 0, false)) = some (r1, r2, r3) := by rw [if_neg (show ¬ (false = true) by decide)] at H; exact H
       clear H
       have H := H1
       clear H1
       simp only [Option.some.injEq, Prod.mk.injEq] at H
       obtain ⟨rfl, rfl, rfl⟩ := H
       go_wp2
       go_ret3
       exact ⟨z8_20, z8_14⟩
 ·
  replace c4 := Bool.eq_false_iff.mpr c4
  subst c4
  have H1 : (some (0, 0, false)) = some (r1, r2, r3) := by rw [if_neg (show ¬ (false = true) by decide)] at H; exact H
  clear H
  have H := H1
  clear H1
  simp only [Option.some.injEq, Prod.mk.injEq] at H
  obtain ⟨rfl, rfl, rfl⟩ := H
  go_enter Try.func29, Try.ntmps29
  go_wp2_with (first | ((with_reducible refine gate_callee (f := 33) rfl ?_); refine goesL_ (some 13) rfl rfl Try.func33 z8_27 rfl #[.int .i64 a1, .int .i64 0, .int .i64 (a0.size : Int)] rfl z8_10 ?_; (with_reducible refine (impl_within.calls a1 0 (a0.size : Int) false _ A3.out).mono ?_); rintro e w' ⟨rfl, ⟨nd, rfl⟩⟩; refine ⟨_, rfl, ?_⟩))
  go_ret3
  exact ⟨z8_20, z8_14⟩
def IsS40 (w0 W : World) (g : Nat) (f0 : ByteArray) (f1 : Int) (f2 : Bool) : Prop := W.heap[g]? = some (.cells #[.string f0, .int .i64 f1, .bool f2] 40 (0, 0)) ∧ w0.heap.size ≤ g
theorem IsS40.grown {w0 W : World} {g : Nat} {f0 : ByteArray} {f1 : Int} {f2 : Bool} {W1 : World} {row : Option Nat} (h : IsS40 w0 W g f0 f1 f2) (hw : W.grownBy W1 row) (hne : some g ≠ row) : IsS40 w0 W1 g f0 f1 f2 := by
 obtain ⟨hb, hg⟩ := h
 exact ⟨blk_grown hb hw hne, hg⟩
theorem IsS40.below {w0 W : World} {g : Nat} {f0 : ByteArray} {f1 : Int} {f2 : Bool} {W1 : World} (h : IsS40 w0 W g f0 f1 f2) (hw : Below W.heap.size W W1) : IsS40 w0 W1 g f0 f1 f2 := h.grown (grown_of_below hw none) (by simp)
theorem IsS40.drewN {w0 W : World} {g : Nat} {f0 : ByteArray} {f1 : Int} {f2 : Bool} (h : IsS40 w0 W g f0 f1 f2) (m : Nat) : IsS40 w0 (W.drewN m) g f0 f1 f2 := h
theorem IsS40.drew {w0 W : World} {g : Nat} {f0 : ByteArray} {f1 : Int} {f2 : Bool} (h : IsS40 w0 W g f0 f1 f2) : IsS40 w0 W.drew g f0 f1 f2 := h
theorem IsS40.at_ {w0 W : World} {g : Nat} {f0 : ByteArray} {f1 : Int} {f2 : Bool} {w' : World} {m : Nat} (hq : W.drewN m = w') (h : IsS40 w0 W g f0 f1 f2) : IsS40 w0 w' g f0 f1 f2 := by subst hq; exact IsS40.drewN h m
theorem IsS40.apart {w0 W : World} {g : Nat} {f0 : ByteArray} {f1 : Int} {f2 : Bool} {α : Type} {d : Kd α} {e : Nat} {base : Nat} {ok : Nat → Prop} {v : Value} {xs : List α} (h : IsS40 w0 W g f0 f1 f2) (ho : d.R e W base ok v xs) (ht : ∀ q, q ∈ e :: d.E → q ≠ 40) : d.R e W base (fun k => ok k ∧ k ≠ g) v xs := by
 obtain ⟨hb, hg⟩ := h
 exact Kd.R_types ho hb ht
theorem IsS40.own_ne {w0 W : World} {g : Nat} {f0 : ByteArray} {f1 : Int} {f2 : Bool} {α : Type} {d : Kd α} {e : Nat} {base : Nat} {ok : Nat → Prop} {v : Value} {xs : List α} (h : IsS40 w0 W g f0 f1 f2) (ho : d.R e W base ok v xs) (ht : e ≠ 40) : some g ≠ v.ownBlock := by
 obtain ⟨hb, hg⟩ := h
 exact Kd.R_ne ho hb ht
theorem IsS40.lt {w0 W : World} {g : Nat} {f0 : ByteArray} {f1 : Int} {f2 : Bool} (h : IsS40 w0 W g f0 f1 f2) : g < W.heap.size := by
 obtain ⟨hb, hg⟩ := h
 exact blk_lt hb
theorem IsS40.ge {w0 W : World} {g : Nat} {f0 : ByteArray} {f1 : Int} {f2 : Bool} (h : IsS40 w0 W g f0 f1 f2) : w0.heap.size ≤ g := by
 obtain ⟨hb, hg⟩ := h
 exact hg
theorem IsS40.far {w0 W : World} {g : Nat} {f0 : ByteArray} {f1 : Int} {f2 : Bool} {p : Addr} (h : IsS40 w0 W g f0 f1 f2) (hne : g ≠ p.block) (u : Value) : IsS40 w0 (W.setCell p u) g f0 f1 f2 := by
 obtain ⟨hb, hg⟩ := h
 exact ⟨blk_far hb hne u, hg⟩
theorem cellS40_0 {W : World} {g : Nat} {f0 : ByteArray} {f1 : Int} {f2 : Bool} (h : W.heap[g]? = some (.cells #[.string f0, .int .i64 f1, .bool f2] 40 (0, 0))) : W.cell? ⟨g, 0, none⟩ = some (.string f0) := (blk_cell h 0).trans rfl
theorem cellS40_1 {W : World} {g : Nat} {f0 : ByteArray} {f1 : Int} {f2 : Bool} (h : W.heap[g]? = some (.cells #[.string f0, .int .i64 f1, .bool f2] 40 (0, 0))) : W.cell? ⟨g, 1, none⟩ = some (.int .i64 f1) := (blk_cell h 1).trans rfl
theorem IsS40.set_1 {w0 W : World} {g : Nat} {f0 : ByteArray} {f1 : Int} {f2 : Bool} (h : IsS40 w0 W g f0 f1 f2) (x : Int) : IsS40 w0 (W.setCell ⟨g, 1, none⟩ (.int .i64 x)) g f0 x f2 := by
 obtain ⟨hb, hg⟩ := h
 exact ⟨by simpa using blk_set hb 1 (.int .i64 x), hg⟩
theorem cellS40_2 {W : World} {g : Nat} {f0 : ByteArray} {f1 : Int} {f2 : Bool} (h : W.heap[g]? = some (.cells #[.string f0, .int .i64 f1, .bool f2] 40 (0, 0))) : W.cell? ⟨g, 2, none⟩ = some (.bool f2) := (blk_cell h 2).trans rfl
theorem IsS40.set_2 {w0 W : World} {g : Nat} {f0 : ByteArray} {f1 : Int} {f2 : Bool} (h : IsS40 w0 W g f0 f1 f2) (x : Bool) : IsS40 w0 (W.setCell ⟨g, 2, none⟩ (.bool x)) g f0 f1 x := by
 obtain ⟨hb, hg⟩ := h
 exact ⟨by simpa using blk_set hb 2 (.bool x), hg⟩
def impl_scan_number.f (k : Nat) (s0_0 : ByteArray) (s0_1 : Int) (s0_2 : Bool) : Option (Int × ByteArray × Int × Bool) := (impl_ReadVar.f k s0_0 s0_1).bind fun bt242 => (if s0_2 = true then (some (0, s0_0, s0_1, true)) else (if bt242.2.2 = true then (some (bt242.1, s0_0, bt242.2.1, s0_2)) else (some (0, s0_0, s0_1, true))))
set_option maxHeartbeats 8000000 in
set_option maxRecDepth 100000 in
theorem impl_scan_number.calls (k : Nat) (g : Nat) (s0_0 : ByteArray) (s0_1 : Int) (s0_2 : Bool) (r1 : Int) (r2 : ByteArray) (r3 : Int) (r4 : Bool) (w0 w : World) (hI : IsS40 w0 w g s0_0 s0_1 s0_2) (hB : Below w0.heap.size w0 w) (h : impl_scan_number.f k s0_0 s0_1 s0_2 = some (r1, r2, r3, r4)) :
  Calls Try.prog 12 #[.pointer (some ⟨g, 0, none⟩)] w fun e w' => e = .returned (.int .i64 r1) ∧ IsS40 w0 w' g r2 r3 r4 ∧ Below w0.heap.size w0 w' ∧ KeepBut w w' g none := by
 have HI0 := Aside0.mk hI
 have HK := Aside0.mk (KeepBut.refl w g none)
 have HL := Aside0.mk hB.size
 clear hI
 have HW0 := Aside0.mk hB.size
 have HB := Aside0.mk hB
 clear hB
 have H : ((impl_ReadVar.f k s0_0 s0_1).bind fun bt242 => (if s0_2 = true then (some (0, s0_0, s0_1, true)) else (if bt242.2.2 = true then (some (bt242.1, s0_0, bt242.2.1, s0_2)) else (some (0, s0_0, s0_1, true))))) = some (r1, r2, r3, r4) := h
 clear h
 replace H := Option.bind_eq_some_iff.mp H
 obtain ⟨⟨t242, t243, t244⟩, A20, H⟩ := H
 (try dsimp only at H)
 have A2 := Aside0.mk A20
 clear A20
 by_cases c3 : s0_2 = true
 ·
  subst c3
  have H1 : (some (0, s0_0, s0_1, true)) = some (r1, r2, r3, r4) := by rw [if_pos rfl] at H; exact H
  clear H
  have H := H1
  clear H1
  simp only [Option.some.injEq, Prod.mk.injEq] at H
  obtain ⟨rfl, rfl, rfl, rfl⟩ := H
  obtain ⟨HGz4, hgz4⟩ := HI0.out
  have hcz4_0 := cellS40_0 HGz4
  have hcz4_1 := cellS40_1 HGz4
  have hcz4_2 := cellS40_2 HGz4
  have hfz4_0 := blk_frozen HGz4 0
  have hfz4_1 := blk_frozen HGz4 1
  have hfz4_2 := blk_frozen HGz4 2
  clear HGz4 hgz4
  go_enter Try.func12, Try.ntmps12
  go_wp2_with (first | (go_at_call 29; (with_reducible refine (impl_ReadVar.calls k s0_0 s0_1 t242 t243 t244 _ A2.out).mono ?_); rintro e w' ⟨rfl, ⟨nd, rfl⟩⟩; (try first | exact ⟨rfl, _, World.drewN_drewN _ _ _⟩ | exact ⟨rfl, _, Eq.trans (World.drewN_drewN _ _ _) (congrArg (World.drewN _) (Nat.add_assoc _ _ _))⟩)))
  repeat (go_quiet (first | (go_at_call 29; (with_reducible refine (impl_ReadVar.calls k s0_0 s0_1 t242 t243 t244 _ A2.out).mono ?_); rintro e w' ⟨rfl, ⟨nd, rfl⟩⟩; (try first | exact ⟨rfl, _, World.drewN_drewN _ _ _⟩ | exact ⟨rfl, _, Eq.trans (World.drewN_drewN _ _ _) (congrArg (World.drewN _) (Nat.add_assoc _ _ _))⟩))); try go_wp2_with (first | (go_at_call 29; (with_reducible refine (impl_ReadVar.calls k s0_0 s0_1 t242 t243 t244 _ A2.out).mono ?_); rintro e w' ⟨rfl, ⟨nd, rfl⟩⟩; (try first | exact ⟨rfl, _, World.drewN_drewN _ _ _⟩ | exact ⟨rfl, _, Eq.trans (World.drewN_drewN _ _ _) (congrArg (World.drewN _) (Nat.add_assoc _ _ _))⟩))))
  go_ret
  exact ⟨z8_11, z8_16, z8_18, z8_12⟩
 ·
  replace c3 := Bool.eq_false_iff.mpr c3
  subst c3
  have H1 : (if t244 = true then (some (t242, s0_0, t243, false)) else (some (0, s0_0, s0_1, true))) = some (r1, r2, r3, r4) := by rw [if_neg (show ¬ (false = true) by decide)] at H; exact H
  clear H
  have H := H1
  clear H1
  by_cases c5 : t244 = true
  ·
   subst c5
   have H1 : (some (t242, s0_0, t243, false)) = some (r1, r2, r3, r4) := by rw [if_pos rfl] at H; exact H
   clear H
   have H := H1
   clear H1
   simp only [Option.some.injEq, Prod.mk.injEq] at H
   obtain ⟨rfl, rfl, rfl, rfl⟩ := H
   obtain ⟨HGz6, hgz6⟩ := HI0.out
   have hcz6_0 := cellS40_0 HGz6
   have hcz6_1 := cellS40_1 HGz6
   have hcz6_2 := cellS40_2 HGz6
   have hfz6_0 := blk_frozen HGz6 0
   have hfz6_1 := blk_frozen HGz6 1
   have hfz6_2 := blk_frozen HGz6 2
   clear HGz6 hgz6
   go_enter Try.func12, Try.ntmps12
   go_wp2_with (first | (go_at_call 29; (with_reducible refine (impl_ReadVar.calls k s0_0 s0_1 t242 t243 true _ A2.out).mono ?_); rintro e w' ⟨rfl, ⟨nd, rfl⟩⟩; (try first | exact ⟨rfl, _, World.drewN_drewN _ _ _⟩ | exact ⟨rfl, _, Eq.trans (World.drewN_drewN _ _ _) (congrArg (World.drewN _) (Nat.add_assoc _ _ _))⟩)))
   repeat (go_quiet (first | (go_at_call 29; (with_reducible refine (impl_ReadVar.calls k s0_0 s0_1 t242 t243 true _ A2.out).mono ?_); rintro e w' ⟨rfl, ⟨nd, rfl⟩⟩; (try first | exact ⟨rfl, _, World.drewN_drewN _ _ _⟩ | exact ⟨rfl, _, Eq.trans (World.drewN_drewN _ _ _) (congrArg (World.drewN _) (Nat.add_assoc _ _ _))⟩))); try go_wp2_with (first | (go_at_call 29; (with_reducible refine (impl_ReadVar.calls k s0_0 s0_1 t242 t243 true _ A2.out).mono ?_); rintro e w' ⟨rfl, ⟨nd, rfl⟩⟩; (try first | exact ⟨rfl, _, World.drewN_drewN _ _ _⟩ | exact ⟨rfl, _, Eq.trans (World.drewN_drewN _ _ _) (congrArg (World.drewN _) (Nat.add_assoc _ _ _))⟩))))
   go_ret
   exact ⟨z8_11, z8_16, z8_18, z8_12⟩
  ·
   replace c5 := Bool.eq_false_iff.mpr c5
   subst c5
   have H1 : (some (0, s0_0, s0_1, true)) = some (r1, r2, r3, r4) := by rw [if_neg (show ¬ (false = true) by decide)] at H; exact H
   clear H
   have H := H1
   clear H1
   simp only [Option.some.injEq, Prod.mk.injEq] at H
   obtain ⟨rfl, rfl, rfl, rfl⟩ := H
   obtain ⟨HGz7, hgz7⟩ := HI0.out
   have hcz7_0 := cellS40_0 HGz7
   have hcz7_1 := cellS40_1 HGz7
   have hcz7_2 := cellS40_2 HGz7
   have hfz7_0 := blk_frozen HGz7 0
   have hfz7_1 := blk_frozen HGz7 1
   have hfz7_2 := blk_frozen HGz7 2
   clear HGz7 hgz7
   go_enter Try.func12, Try.ntmps12
   go_wp2_with (first | (go_at_call 29; (with_reducible refine (impl_ReadVar.calls k s0_0 s0_1 t242 t243 false _ A2.out).mono ?_); rintro e w' ⟨rfl, ⟨nd, rfl⟩⟩; (try first | exact ⟨rfl, _, World.drewN_drewN _ _ _⟩ | exact ⟨rfl, _, Eq.trans (World.drewN_drewN _ _ _) (congrArg (World.drewN _) (Nat.add_assoc _ _ _))⟩)))
   repeat (go_quiet (first | (go_at_call 29; (with_reducible refine (impl_ReadVar.calls k s0_0 s0_1 t242 t243 false _ A2.out).mono ?_); rintro e w' ⟨rfl, ⟨nd, rfl⟩⟩; (try first | exact ⟨rfl, _, World.drewN_drewN _ _ _⟩ | exact ⟨rfl, _, Eq.trans (World.drewN_drewN _ _ _) (congrArg (World.drewN _) (Nat.add_assoc _ _ _))⟩))); try go_wp2_with (first | (go_at_call 29; (with_reducible refine (impl_ReadVar.calls k s0_0 s0_1 t242 t243 false _ A2.out).mono ?_); rintro e w' ⟨rfl, ⟨nd, rfl⟩⟩; (try first | exact ⟨rfl, _, World.drewN_drewN _ _ _⟩ | exact ⟨rfl, _, Eq.trans (World.drewN_drewN _ _ _) (congrArg (World.drewN _) (Nat.add_assoc _ _ _))⟩))))
   go_ret
   exact ⟨z8_11, z8_16, z8_18, z8_12⟩
def impl_scan_dot.f (k : Nat) (s0_0 : ByteArray) (s0_1 : Int) (s0_2 : Bool) : Option (Int × Int × ByteArray × Int × Bool) := (impl_scan_number.f k s0_0 s0_1 s0_2).bind fun bt247 => ((impl_scan_number.f k bt247.2.1 bt247.2.2.1 bt247.2.2.2).bind fun bt251 => (some (bt247.1, bt251.1, bt251.2.1, bt251.2.2.1, bt251.2.2.2)))
set_option maxHeartbeats 8000000 in
set_option maxRecDepth 100000 in
theorem impl_scan_dot.calls (k : Nat) (g : Nat) (s0_0 : ByteArray) (s0_1 : Int) (s0_2 : Bool) (r1 : Int) (r2 : Int) (r3 : ByteArray) (r4 : Int) (r5 : Bool) (w0 w : World) (hI : IsS40 w0 w g s0_0 s0_1 s0_2) (hB : Below w0.heap.size w0 w) (h : impl_scan_dot.f k s0_0 s0_1 s0_2 = some (r1, r2, r3, r4, r5)) :
  Calls Try.prog 11 #[.pointer (some ⟨g, 0, none⟩)] w fun e w' => e = .returned (.agg #[.int .i64 r1, .int .i64 r2]) ∧ IsS40 w0 w' g r3 r4 r5 ∧ Below w0.heap.size w0 w' ∧ KeepBut w w' g none := by
 have hu23 := Try.underlying23
 have HI0 := Aside0.mk hI
 have HK := Aside0.mk (KeepBut.refl w g none)
 have HL := Aside0.mk hB.size
 clear hI
 have HW0 := Aside0.mk hB.size
 have HB := Aside0.mk hB
 clear hB
 have H : ((impl_scan_number.f k s0_0 s0_1 s0_2).bind fun bt247 => ((impl_scan_number.f k bt247.2.1 bt247.2.2.1 bt247.2.2.2).bind fun bt251 => (some (bt247.1, bt251.1, bt251.2.1, bt251.2.2.1, bt251.2.2.2)))) = some (r1, r2, r3, r4, r5) := h
 clear h
 replace H := Option.bind_eq_some_iff.mp H
 obtain ⟨⟨t247, t248, t249, t250⟩, A20, H⟩ := H
 (try dsimp only at H)
 have A2 := Aside0.mk A20
 clear A20
 replace H := Option.bind_eq_some_iff.mp H
 obtain ⟨⟨t251, t252, t253, t254⟩, A30, H⟩ := H
 (try dsimp only at H)
 have A3 := Aside0.mk A30
 clear A30
 simp only [Option.some.injEq, Prod.mk.injEq] at H
 obtain ⟨rfl, rfl, rfl, rfl, rfl⟩ := H
 go_enter Try.func11, Try.ntmps11
 go_wp2_with (first | ((with_reducible refine gate_dst (N := 2) rfl ?_); refine box_event ?hg (N := 2) ?hd (cs := #[.int .i64 0, .int .i64 0]) (t := 23) ?hr ?_; (case hd => rfl); (case hg => rfl); (case hr => first | (go_simp; done) | (go_simp; rfl)); intro gb245 hg w4 hbox hb; have n0_ := Aside0.mk (IsS40.below z8_16 hb); have n1_ := Aside0.mk (KeepBut.trans z8_12 (KeepBut.of_below hb g none) (.inl rfl)); have n2_ := Aside0.mk (below_step z8_18 hb); have n3_ := Aside0.mk (hbox); have n4_ := Aside0.mk ((by rw [hg]; exact (keep_size (w := w) (g := g) (row := none) z8_12) : w.heap.size ≤ gb245)); have n5_ := Aside0.mk ((Nat.le_trans HW0.out (by rw [hg]; exact (keep_size (w := w) (g := g) (row := none) z8_12) : w.heap.size ≤ gb245) : w0.heap.size ≤ gb245)); have n6_ := Aside0.mk ((by rw [hg]; exact Nat.ne_of_lt (IsS40.lt (show IsS40 w0 _ g s0_0 s0_1 s0_2 from by repeat (first | (with_reducible first | exact HI0.out | apply IsS40.alloc | apply IsS40.drewN | apply IsS40.drew | apply IsS40.set_0 | apply IsS40.set_1 | apply IsS40.set_2) | exact HI0.out))) : g ≠ gb245)); have n7_ := Aside0.mk ((by rw [hg]; exact Nat.ne_of_gt (IsS40.lt (show IsS40 w0 _ g s0_0 s0_1 s0_2 from by repeat (first | (with_reducible first | exact HI0.out | apply IsS40.alloc | apply IsS40.drewN | apply IsS40.drew | apply IsS40.set_0 | apply IsS40.set_1 | apply IsS40.set_2) | exact HI0.out))) : gb245 ≠ g)); clear HI0; clear HK; clear HB; have HI0 := n0_; have HK := n1_; have HB := n2_; have BK245 := n3_; have GW245 := n4_; have GE245 := n5_; have NB0_245 := n6_; have NB245_0 := n7_; clear n0_ n1_ n2_ n3_ n4_ n5_ n6_ n7_; clear hb hbox hg) | ((with_reducible refine gate_dst (N := 3) rfl ?_); refine box_event ?hg (N := 3) ?hd (cs := #[.int .i64 0, .int .i64 0]) (t := 23) ?hr ?_; (case hd => rfl); (case hg => rfl); (case hr => first | (go_simp; done) | (go_simp; rfl)); intro gb246 hg w5 hbox hb; have n0_ := Aside0.mk (IsS40.below (by repeat (first | (with_reducible first | exact HI0.out | apply IsS40.alloc | apply IsS40.drewN | apply IsS40.drew | apply IsS40.set_0 | apply IsS40.set_1 | apply IsS40.set_2 | refine IsS40.far ?_ NB0_245.out _) | exact HI0.out)) hb); have n1_ := Aside0.mk (blk_below (g := gb245) (o := .cells #[.int .i64 0, .int .i64 0] 23 (0, 0)) z8_28 hb); have n2_ := Aside0.mk (KeepBut.trans z8_23 (KeepBut.of_below hb g none) (.inl rfl)); have n3_ := Aside0.mk (below_step (by repeat (first | (with_reducible first | exact HB.out | apply below_alloc | apply pw_below_drewN | apply below_drew1 | refine below_set ?_ (IsS40.ge HI0.out) | refine below_set ?_ GE245.out) | exact HB.out)) hb); have n4_ := Aside0.mk (hbox); have n5_ := Aside0.mk ((by rw [hg]; exact (keep_size (w := w) (g := g) (row := none) z8_23) : w.heap.size ≤ gb246)); have n6_ := Aside0.mk ((Nat.le_trans HW0.out (by rw [hg]; exact (keep_size (w := w) (g := g) (row := none) z8_23) : w.heap.size ≤ gb246) : w0.heap.size ≤ gb246)); have n7_ := Aside0.mk ((by rw [hg]; exact Nat.ne_of_lt (blk_lt (g := gb245) (o := .cells #[.int .i64 0, .int .i64 0] 23 (0, 0)) z8_28) : gb245 ≠ gb246)); have n8_ := Aside0.mk ((by rw [hg]; exact Nat.ne_of_gt (blk_lt (g := gb245) (o := .cells #[.int .i64 0, .int .i64 0] 23 (0, 0)) z8_28) : gb246 ≠ gb245)); have n9_ := Aside0.mk ((by rw [hg]; exact Nat.ne_of_lt (IsS40.lt (show IsS40 w0 _ g s0_0 s0_1 s0_2 from by repeat (first | (with_reducible first | exact HI0.out | apply IsS40.alloc | apply IsS40.drewN | apply IsS40.drew | apply IsS40.set_0 | apply IsS40.set_1 | apply IsS40.set_2 | refine IsS40.far ?_ NB0_245.out _) | exact HI0.out))) : g ≠ gb246)); have n10_ := Aside0.mk ((by rw [hg]; exact Nat.ne_of_gt (IsS40.lt (show IsS40 w0 _ g s0_0 s0_1 s0_2 from by repeat (first | (with_reducible first | exact HI0.out | apply IsS40.alloc | apply IsS40.drewN | apply IsS40.drew | apply IsS40.set_0 | apply IsS40.set_1 | apply IsS40.set_2 | refine IsS40.far ?_ NB0_245.out _) | exact HI0.out))) : gb246 ≠ g)); clear HI0; clear BK245; clear HK; clear HB; have HI0 := n0_; have BK245 := n1_; have HK := n2_; have HB := n3_; have BK246 := n4_; have GW246 := n5_; have GE246 := n6_; have NB245_246 := n7_; have NB246_245 := n8_; have NB0_246 := n9_; have NB246_0 := n10_; clear n0_ n1_ n2_ n3_ n4_ n5_ n6_ n7_ n8_ n9_ n10_; clear hb hbox hg; have hnb6 := NB246_245.out; have hnc6 := NB245_246.out; have hnb7 := NB246_0.out; have hnc7 := NB0_246.out; have hcz8_0 : w5.cell? ⟨gb246, 0, none⟩ = some (.int .i64 0) := (blk_cell BK246.out 0).trans rfl; have hcz8_1 : w5.cell? ⟨gb246, 1, none⟩ = some (.int .i64 0) := (blk_cell BK246.out 1).trans rfl; have hfz8_0 := blk_frozen BK246.out 0; have hfz8_1 := blk_frozen BK246.out 1) | ((with_reducible refine gate_callee (f := 12) rfl ?_); refine goesL_ (some 6) rfl rfl Try.func12 z8_27 rfl #[.pointer (some ⟨g, 0, none⟩)] rfl z8_10 ?_; (with_reducible refine (impl_scan_number.calls k g s0_0 s0_1 s0_2 t247 t248 t249 t250 w0 _ ?side1 ?side2 A2.out).mono ?_); (case side1 => repeat (first | (with_reducible first | exact HI0.out | apply IsS40.alloc | apply IsS40.drewN | apply IsS40.drew | apply IsS40.set_0 | apply IsS40.set_1 | apply IsS40.set_2 | refine IsS40.far ?_ NB0_245.out _ | refine IsS40.far ?_ NB0_246.out _) | exact HI0.out)); (case side2 => repeat (first | (with_reducible first | exact HB.out | apply below_alloc | apply pw_below_drewN | apply below_drew1 | refine below_set ?_ (IsS40.ge HI0.out) | refine below_set ?_ GE245.out | refine below_set ?_ GE246.out) | exact HB.out)); rintro e w9 ⟨rfl, hi, hb, hk⟩; refine ⟨_, rfl, ?_⟩; have n0_ := Aside0.mk (KeepBut.blk hk (g' := gb245) (o := .cells #[.int .i64 0, .int .i64 0] 23 (0, 0)) (by (with_reducible repeat (first | refine blk_drewN ?_ _ | refine blk_drew ?_ | refine blk_alloc ?_ _)); refine blk_far ?_ NB245_246.out _; (with_reducible repeat (first | refine blk_drewN ?_ _ | refine blk_drew ?_ | refine blk_alloc ?_ _)); refine blk_far ?_ NB245_246.out _; (with_reducible repeat (first | refine blk_drewN ?_ _ | refine blk_drew ?_ | refine blk_alloc ?_ _)); exact BK245.out) NB245_0.out (by simp)); have n1_ := Aside0.mk (KeepBut.blk hk (g' := gb246) (o := .cells #[.int .i64 0, .int .i64 0] 23 (0, 0)) (by (with_reducible repeat (first | refine blk_drewN ?_ _ | refine blk_drew ?_ | refine blk_alloc ?_ _)); refine blk_put (cs := #[.int .i64 0, .int .i64 0]) ?_ 1 _ rfl; (with_reducible repeat (first | refine blk_drewN ?_ _ | refine blk_drew ?_ | refine blk_alloc ?_ _)); refine blk_put (cs := #[.int .i64 0, .int .i64 0]) ?_ 0 _ rfl; (with_reducible repeat (first | refine blk_drewN ?_ _ | refine blk_drew ?_ | refine blk_alloc ?_ _)); exact BK246.out) NB246_0.out (by simp)); have n2_ := Aside0.mk (KeepBut.trans z8_21 hk (.inl rfl)); have n3_ := Aside0.mk (hb); have n4_ := Aside0.mk (hi); clear BK245; clear BK246; clear HK; clear HB; clear HI0; have BK245 := n0_; have BK246 := n1_; have HK := n2_; have HB := n3_; have HI0 := n4_; clear n0_ n1_ n2_ n3_ n4_; have hcz10_0 : w9.cell? ⟨gb246, 0, none⟩ = some (.int .i64 0) := (blk_cell BK246.out 0).trans rfl; have hcz10_1 : w9.cell? ⟨gb246, 1, none⟩ = some (.int .i64 0) := (blk_cell BK246.out 1).trans rfl; have hfz10_0 := blk_frozen BK246.out 0; have hfz10_1 := blk_frozen BK246.out 1) | ((with_reducible refine gate_callee (f := 12) rfl ?_); refine goesL_ (some 9) rfl rfl Try.func12 z8_27 rfl #[.pointer (some ⟨g, 0, none⟩)] rfl z8_10 ?_; (with_reducible refine (impl_scan_number.calls k g t248 t249 t250 t251 t252 t253 t254 w0 _ ?side1 ?side2 A3.out).mono ?_); (case side1 => repeat (first | (with_reducible first | exact HI0.out | apply IsS40.alloc | apply IsS40.drewN | apply IsS40.drew | apply IsS40.set_0 | apply IsS40.set_1 | apply IsS40.set_2 | refine IsS40.far ?_ NB0_245.out _ | refine IsS40.far ?_ NB0_246.out _) | exact HI0.out)); (case side2 => repeat (first | (with_reducible first | exact HB.out | apply below_alloc | apply pw_below_drewN | apply below_drew1 | refine below_set ?_ (IsS40.ge HI0.out) | refine below_set ?_ GE245.out | refine below_set ?_ GE246.out) | exact HB.out)); rintro e w11 ⟨rfl, hi, hb, hk⟩; refine ⟨_, rfl, ?_⟩; have n0_ := Aside0.mk (KeepBut.blk hk (g' := gb245) (o := .cells #[.int .i64 0, .int .i64 0] 23 (0, 0)) (by (with_reducible repeat (first | refine blk_drewN ?_ _ | refine blk_drew ?_ | refine blk_alloc ?_ _)); refine blk_far ?_ NB245_246.out _; (with_reducible repeat (first | refine blk_drewN ?_ _ | refine blk_drew ?_ | refine blk_alloc ?_ _)); exact BK245.out) NB245_0.out (by simp)); have n1_ := Aside0.mk (KeepBut.blk hk (g' := gb246) (o := .cells #[.int .i64 t247, .int .i64 0] 23 (0, 0)) (by (with_reducible repeat (first | refine blk_drewN ?_ _ | refine blk_drew ?_ | refine blk_alloc ?_ _)); refine blk_put (cs := #[.int .i64 0, .int .i64 0]) ?_ 0 _ rfl; (with_reducible repeat (first | refine blk_drewN ?_ _ | refine blk_drew ?_ | refine blk_alloc ?_ _)); exact BK246.out) NB246_0.out (by simp)); have n2_ := Aside0.mk (KeepBut.trans z8_21 hk (.inl rfl)); have n3_ := Aside0.mk (hb); have n4_ := Aside0.mk (hi); clear BK245; clear BK246; clear HK; clear HB; clear HI0; have BK245 := n0_; have BK246 := n1_; have HK := n2_; have HB := n3_; have HI0 := n4_; clear n0_ n1_ n2_ n3_ n4_; have hcz12_0 : w11.cell? ⟨gb246, 0, none⟩ = some (.int .i64 t247) := (blk_cell BK246.out 0).trans rfl; have hcz12_1 : w11.cell? ⟨gb246, 1, none⟩ = some (.int .i64 0) := (blk_cell BK246.out 1).trans rfl; have hfz12_0 := blk_frozen BK246.out 0; have hfz12_1 := blk_frozen BK246.out 1; have hnb13 := NB245_0.out; have hnc13 := NB0_245.out; have hcz14_0 : w11.cell? ⟨gb245, 0, none⟩ = some (.int .i64 0) := (blk_cell BK245.out 0).trans rfl; have hcz14_1 : w11.cell? ⟨gb245, 1, none⟩ = some (.int .i64 0) := (blk_cell BK245.out 1).trans rfl; have hfz14_0 := blk_frozen BK245.out 0; have hfz14_1 := blk_frozen BK245.out 1))
 refine bodyPost_ret (results_cell_row rfl _ _ gb245 23 #[.int .i64 t247, .int .i64 t251] (0, 0) _ rfl (by (with_reducible repeat (first | refine blk_drewN ?_ _ | refine blk_drew ?_ | refine blk_alloc ?_ _)); refine blk_put (cs := #[.int .i64 t247, .int .i64 0]) ?_ 1 _ rfl; (with_reducible repeat (first | refine blk_drewN ?_ _ | refine blk_drew ?_ | refine blk_alloc ?_ _)); refine blk_put (cs := #[.int .i64 0, .int .i64 0]) ?_ 0 _ rfl; (with_reducible repeat (first | refine blk_drewN ?_ _ | refine blk_drew ?_ | refine blk_alloc ?_ _)); refine blk_far ?_ NB245_246.out _; (with_reducible repeat (first | refine blk_drewN ?_ _ | refine blk_drew ?_ | refine blk_alloc ?_ _)); exact BK245.out) Try.underlying23 rfl z8_27) rfl ?_
 exact ⟨z8_11, by repeat (first | (with_reducible first | exact HI0.out | apply IsS40.alloc | apply IsS40.drewN | apply IsS40.drew | apply IsS40.set_0 | apply IsS40.set_1 | apply IsS40.set_2 | refine IsS40.far ?_ NB0_245.out _ | refine IsS40.far ?_ NB0_246.out _) | exact HI0.out), by repeat (first | (with_reducible first | exact HB.out | apply below_alloc | apply pw_below_drewN | apply below_drew1 | refine below_set ?_ (IsS40.ge HI0.out) | refine below_set ?_ GE245.out | refine below_set ?_ GE246.out) | exact HB.out), z8_21⟩
end Go.Proofs.Ytmbjnblbbfbfjaa.QRdAct
