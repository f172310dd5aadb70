/- What the functions behind SOk compute, and that the program's calls come to just that. Written by a program of this session on the base of the kit's print. No condition. -/
import Derived.Test.YtbanogkoaplcdaaVFnExactStateOkShort
import Derived.Test.YtbanogkoaplcdaaVFnExactStateOkQSOkx0
import Derived.Test.YtbanogkoaplcdaaVFnExactStateOkQSOkx6
import Derived.Test.YtbanogkoaplcdaaVFnExactStateOkQSOkx7
namespace Go.Proofs.Ytbanogkoaplcdaa.QSOk
open Go.RowKit Go.Proofs.Ytbanogkoaplcdaa.Short Go.Proofs.YtbanogkoaplcdaaW.PrintWords Go.Proofs.YtbanogkoaplcdaaW.PrintLast Go.Proofs.YtbanogkoaplcdaaW.PrintMore
attribute [local go_sem] max2_int min2_int max_two min_two max_three min_three max_four min_four   -- for this text's walks alone
set_option linter.unusedVariables false
set_option linter.unusedSimpArgs false
theorem z8_12 {P : Prop} (h : P := by (try simp only [List.map_toArray, List.map_cons, List.map_nil]); first | done | (simp only [hji15]; rfl) | rfl | (simp only [List.length_drop, List.length_take]; rfl)) : P := h
theorem z8_11 {P : Prop} (h : P := by (try simp only [List.map_toArray, List.map_cons, List.map_nil]); first | done | (simp only [hji39]; rfl) | rfl | (simp only [List.length_drop, List.length_take]; rfl)) : P := h
theorem z8_10 {P : Prop} (h : P := by first | rfl | (simp; done) | (simp [*]; done)) : P := h
theorem z8_9 {P : Prop} (h : P := by first | rfl | (simp [errW_none, errW_some] <;> rfl) | (simp [*, errW_none, errW_some] <;> rfl)) : P := h
theorem z8_8 {P : Prop} (h : P := by first | (with_reducible assumption) | assumption) : P := h
theorem z8_7 {P : Prop} (h : P := by (with_reducible repeat (first | refine blk_drewN ?_ _ | refine blk_drew ?_ | refine blk_alloc ?_ _)); exact BK233.out) : P := h
theorem z8_6 {P : Prop} (h : P := by (with_reducible repeat (first | refine blk_drewN ?_ _ | refine blk_drew ?_ | refine blk_alloc ?_ _)); refine blk_put (cs := #[.bool true, .string ((rd_T86 l0 x3_1).f1), .string ((rd_T86 l0 x3_1).f2), .int .i64 ((rd_T86 l0 x3_1).f3), .int .i64 ((rd_T86 l0 x3_1).f4.f0), .int .i64 0]) ?_ 5 _ rfl; (with_reducible repeat (first | refine blk_drewN ?_ _ | refine blk_drew ?_ | refine blk_alloc ?_ _)); refine blk_put (cs := #[.bool true, .string ((rd_T86 l0 x3_1).f1), .string ((rd_T86 l0 x3_1).f2), .int .i64 ((rd_T86 l0 x3_1).f3), .int .i64 0, .int .i64 0]) ?_ 4 _ rfl; (with_reducible repeat (first | refine blk_drewN ?_ _ | refine blk_drew ?_ | refine blk_alloc ?_ _)); refine blk_put (cs := #[.bool true, .string ((rd_T86 l0 x3_1).f1), .string ((rd_T86 l0 x3_1).f2), .int .i64 0, .int .i64 0, .int .i64 0]) ?_ 3 _ rfl; (with_reducible repeat (first | refine blk_drewN ?_ _ | refine blk_drew ?_ | refine blk_alloc ?_ _)); refine blk_put (cs := #[.bool true, .string ((rd_T86 l0 x3_1).f1), .string (⟨#[]⟩ : ByteArray), .int .i64 0, .int .i64 0, .int .i64 0]) ?_ 2 _ rfl; (with_reducible repeat (first | refine blk_drewN ?_ _ | refine blk_drew ?_ | refine blk_alloc ?_ _)); refine blk_put (cs := #[.bool true, .string (⟨#[]⟩ : ByteArray), .string (⟨#[]⟩ : ByteArray), .int .i64 0, .int .i64 0, .int .i64 0]) ?_ 1 _ rfl; (with_reducible repeat (first | refine blk_drewN ?_ _ | refine blk_drew ?_ | refine blk_alloc ?_ _)); refine blk_put (cs := #[.bool false, .string (⟨#[]⟩ : ByteArray), .string (⟨#[]⟩ : ByteArray), .int .i64 0, .int .i64 0, .int .i64 0]) ?_ 0 _ rfl; (with_reducible repeat (first | refine blk_drewN ?_ _ | refine blk_drew ?_ | refine blk_alloc ?_ _)); exact BK233.out) : P := h
theorem z8_5 {P : Prop} (h : P := by first | rfl | (simp only [List.map_toArray, List.map_cons, List.map_nil]; first | done | rfl)) : P := h
theorem z8_4 {P : Prop} (h : P := by repeat (first | (with_reducible first | exact HB.out | apply below_alloc | apply pw_below_drewN | apply below_drew1) | exact HB.out)) : P := h
theorem z8_3 {P : Prop} (h : P := by (with_reducible repeat (first | refine blk_drewN ?_ _ | refine blk_drew ?_ | refine blk_alloc ?_ _)); refine blk_put (cs := #[.bool false, .string ((rd_T86 l0 x3_1).f1), .string ((rd_T86 l0 x3_1).f2), .int .i64 ((rd_T86 l0 x3_1).f3), .int .i64 ((rd_T86 l0 x3_1).f4.f0), .int .i64 0]) ?_ 5 _ rfl; (with_reducible repeat (first | refine blk_drewN ?_ _ | refine blk_drew ?_ | refine blk_alloc ?_ _)); refine blk_put (cs := #[.bool false, .string ((rd_T86 l0 x3_1).f1), .string ((rd_T86 l0 x3_1).f2), .int .i64 ((rd_T86 l0 x3_1).f3), .int .i64 0, .int .i64 0]) ?_ 4 _ rfl; (with_reducible repeat (first | refine blk_drewN ?_ _ | refine blk_drew ?_ | refine blk_alloc ?_ _)); refine blk_put (cs := #[.bool false, .string ((rd_T86 l0 x3_1).f1), .string ((rd_T86 l0 x3_1).f2), .int .i64 0, .int .i64 0, .int .i64 0]) ?_ 3 _ rfl; (with_reducible repeat (first | refine blk_drewN ?_ _ | refine blk_drew ?_ | refine blk_alloc ?_ _)); refine blk_put (cs := #[.bool false, .string ((rd_T86 l0 x3_1).f1), .string (⟨#[]⟩ : ByteArray), .int .i64 0, .int .i64 0, .int .i64 0]) ?_ 2 _ rfl; (with_reducible repeat (first | refine blk_drewN ?_ _ | refine blk_drew ?_ | refine blk_alloc ?_ _)); refine blk_put (cs := #[.bool false, .string (⟨#[]⟩ : ByteArray), .string (⟨#[]⟩ : ByteArray), .int .i64 0, .int .i64 0, .int .i64 0]) ?_ 1 _ rfl; (with_reducible repeat (first | refine blk_drewN ?_ _ | refine blk_drew ?_ | refine blk_alloc ?_ _)); refine blk_put (cs := #[.bool false, .string (⟨#[]⟩ : ByteArray), .string (⟨#[]⟩ : ByteArray), .int .i64 0, .int .i64 0, .int .i64 0]) ?_ 0 _ rfl; (with_reducible repeat (first | refine blk_drewN ?_ _ | refine blk_drew ?_ | refine blk_alloc ?_ _)); exact BK233.out) : P := h
theorem z8_2 {P : Prop} (h : P := by kernel_rfl) : P := h
theorem z8_1 {P : Prop} (h : P := by (with_reducible repeat (first | refine blk_drewN ?_ _ | refine blk_drew ?_ | refine blk_alloc ?_ _)); refine blk_put (cs := #[.bool ((rd_T86 l0 x3_1).f0), .string ((rd_T86 l0 x3_1).f1), .string ((rd_T86 l0 x3_1).f2), .int .i64 ((rd_T86 l0 x3_1).f3), .int .i64 ((rd_T86 l0 x3_1).f4.f0), .int .i64 0]) ?_ 5 _ rfl; (with_reducible repeat (first | refine blk_drewN ?_ _ | refine blk_drew ?_ | refine blk_alloc ?_ _)); refine blk_put (cs := #[.bool ((rd_T86 l0 x3_1).f0), .string ((rd_T86 l0 x3_1).f1), .string ((rd_T86 l0 x3_1).f2), .int .i64 ((rd_T86 l0 x3_1).f3), .int .i64 0, .int .i64 0]) ?_ 4 _ rfl; (with_reducible repeat (first | refine blk_drewN ?_ _ | refine blk_drew ?_ | refine blk_alloc ?_ _)); refine blk_put (cs := #[.bool ((rd_T86 l0 x3_1).f0), .string ((rd_T86 l0 x3_1).f1), .string ((rd_T86 l0 x3_1).f2), .int .i64 0, .int .i64 0, .int .i64 0]) ?_ 3 _ rfl; (with_reducible repeat (first | refine blk_drewN ?_ _ | refine blk_drew ?_ | refine blk_alloc ?_ _)); refine blk_put (cs := #[.bool ((rd_T86 l0 x3_1).f0), .string ((rd_T86 l0 x3_1).f1), .string (⟨#[]⟩ : ByteArray), .int .i64 0, .int .i64 0, .int .i64 0]) ?_ 2 _ rfl; (with_reducible repeat (first | refine blk_drewN ?_ _ | refine blk_drew ?_ | refine blk_alloc ?_ _)); refine blk_put (cs := #[.bool ((rd_T86 l0 x3_1).f0), .string (⟨#[]⟩ : ByteArray), .string (⟨#[]⟩ : ByteArray), .int .i64 0, .int .i64 0, .int .i64 0]) ?_ 1 _ rfl; (with_reducible repeat (first | refine blk_drewN ?_ _ | refine blk_drew ?_ | refine blk_alloc ?_ _)); refine blk_put (cs := #[.bool false, .string (⟨#[]⟩ : ByteArray), .string (⟨#[]⟩ : ByteArray), .int .i64 0, .int .i64 0, .int .i64 0]) ?_ 0 _ rfl; (with_reducible repeat (first | refine blk_drewN ?_ _ | refine blk_drew ?_ | refine blk_alloc ?_ _)); exact BK233.out) : P := h
theorem z8_0 {P : Prop} (h : P := by repeat (first | (with_reducible first | exact HB.out | apply below_alloc | apply pw_below_drewN | apply below_drew1 | refine below_set ?_ GE233.out) | exact HB.out)) : P := h
abbrev mk8_0 : Array Bool := #[false, false, false, false, false, false, false, false, false, false, false, false, false, false, false, false, false, false, false, false, false, false, false, false, false, false, false, false, false, false, false, false, false, false, false, false, false, false, false, false, false, false, false, false, false, false, false, false]
abbrev mk8_1 : Array Bool := #[true, false, false, false, false, false, false, false, false, false, false, false, false, false, false, false, false, false, false, false, false, false, false, false, false, false, false, false, false, false, false, false, false, false, false, false, false, false, false, false, false, false, false, false, false, false, false, false]
abbrev mk8_2 : Array Bool := #[true, true, false, false, false, false, false, false, false, false, false, false, false, false, false, false, false, false, false, false, false, false, false, false, false, false, false, false, false, false, false, false, false, false, false, false, false, false, false, false, false, false, false, false, false, false, false, false]
abbrev mk8_3 : Array Bool := #[true, true, true, false, false, false, false, false, false, false, false, false, false, false, false, false, false, false, false, false, false, false, false, false, false, false, false, false, false, false, false, false, false, false, false, false, false, false, false, false, false, false, false, false, false, false, false, false]
abbrev mk8_4 : Array Bool := #[true, true, true, true, false, false, false, false, false, false, false, false, false, false, false, false, false, false, false, false, false, false, false, false, false, false, false, false, false, false, false, false, false, false, false, false, false, false, false, false, false, false, false, false, false, false, false, false]
abbrev mk8_5 : Array Bool := #[true, true, true, true, true, false, false, false, false, false, false, false, false, false, false, false, false, false, false, false, false, false, false, false, false, false, false, false, false, false, false, false, false, false, false, false, false, false, false, false, false, false, false, false, false, false, false, false]
abbrev mk8_6 : Array Bool := #[true, true, true, true, true, true, false, false, false, false, false, false, false, false, false, false, false, false, false, false, false, false, false, false, false, false, false, false, false, false, false, false, false, false, false, false, false, false, false, false, false, false, false, false, false, false, false, false]
abbrev mk8_7 : Array Bool := #[true, true, true, true, true, true, true, false, false, false, false, false, false, false, false, false, false, false, false, false, false, false, false, false, false, false, false, false, false, false, false, false, false, false, false, false, false, false, false, false, false, false, false, false, false, false, false, false]
abbrev mk8_8 : Array Bool := #[true, true, true, true, true, true, true, true, false, false, false, false, false, false, false, false, false, false, false, false, false, false, false, false, false, false, false, false, false, false, false, false, false, false, false, false, false, false, false, false, false, false, false, false, false, false, false, false]
abbrev mk8_9 : Array Bool := #[true, true, true, true, true, true, true, true, true, false, false, false, false, false, false, false, false, false, false, false, false, false, false, false, false, false, false, false, false, false, false, false, false, false, false, false, false, false, false, false, false, false, false, false, false, false, false, false]
abbrev mk8_10 : Array Bool := #[true, true, true, true, true, true, true, true, true, true, false, false, false, false, false, false, false, false, false, false, false, false, false, false, false, false, false, false, false, false, false, false, false, false, false, false, false, false, false, false, false, false, false, false, false, false, false, false]
abbrev mk8_11 : Array Bool := #[true, true, true, true, true, true, true, true, true, true, true, false, false, false, false, false, false, false, false, false, false, false, false, false, false, false, false, false, false, false, false, false, false, false, false, false, false, false, false, false, false, false, false, false, false, false, false, false]
abbrev mk8_12 : Array Bool := #[true, true, true, true, true, true, true, true, true, true, true, true, false, false, false, false, false, false, false, false, false, false, false, false, false, false, false, false, false, false, false, false, false, false, false, false, false, false, false, false, false, false, false, false, false, false, false, false]
abbrev mk8_13 : Array Bool := #[true, true, true, true, true, true, true, true, true, true, true, true, true, false, false, false, false, false, false, false, false, false, false, false, false, false, false, false, false, false, false, false, false, false, false, false, false, false, false, false, false, false, false, false, false, false, false, false]
abbrev mk8_14 : Array Bool := #[true, true, true, true, true, true, true, true, true, true, true, true, true, true, false, false, false, false, false, false, false, false, false, false, false, false, false, false, false, false, false, false, false, false, false, false, false, false, false, false, false, false, false, false, false, false, false, false]
abbrev mk8_15 : Array Bool := #[true, true, true, true, true, true, true, true, true, true, true, true, true, true, true, false, false, false, false, false, false, false, false, false, false, false, false, false, false, false, false, false, false, false, false, false, false, false, false, false, false, false, false, false, false, false, false, false]
abbrev mk8_16 : Array Bool := #[true, true, true, true, true, true, true, true, true, true, true, true, true, true, true, true, false, false, false, false, false, false, false, false, false, false, false, false, false, false, false, false, false, false, false, false, false, false, false, false, false, false, false, false, false, false, false, false]
abbrev mk8_17 : Array Bool := #[true, true, true, true, true, true, true, true, true, true, true, true, true, true, true, true, true, false, false, false, false, false, false, false, false, false, false, false, false, false, false, false, false, false, false, false, false, false, false, false, false, false, false, false, false, false, false, false]
abbrev mk8_18 : Array Bool := #[true, true, true, true, true, true, true, true, true, true, true, true, true, true, true, true, true, true, false, false, false, false, false, false, false, false, false, false, false, false, false, false, false, false, false, false, false, false, false, false, false, false, false, false, false, false, false, false]
abbrev mk8_19 : Array Bool := #[true, true, true, true, true, true, true, true, true, true, true, true, true, true, true, true, true, true, true, false, false, false, false, false, false, false, false, false, false, false, false, false, false, false, false, false, false, false, false, false, false, false, false, false, false, false, false, false]
abbrev mk8_20 : Array Bool := #[true, true, true, true, true, true, true, true, true, true, true, true, true, true, true, true, true, true, true, true, false, false, false, false, false, false, false, false, false, false, false, false, false, false, false, false, false, false, false, false, false, false, false, false, false, false, false, false]
abbrev mk8_21 : Array Bool := #[true, true, true, true, true, true, true, true, true, true, true, true, true, true, true, true, true, true, true, true, true, false, false, false, false, false, false, false, false, false, false, false, false, false, false, false, false, false, false, false, false, false, false, false, false, false, false, false]
abbrev mk8_22 : Array Bool := #[true, true, true, true, true, true, true, true, true, true, true, true, true, true, true, true, true, true, true, true, true, true, false, false, false, false, false, false, false, false, false, false, false, false, false, false, false, false, false, false, false, false, false, false, false, false, false, false]
abbrev mk8_23 : Array Bool := #[true, true, true, true, true, true, true, true, true, true, true, true, true, true, true, true, true, true, true, true, true, true, true, false, false, false, false, false, false, false, false, false, false, false, false, false, false, false, false, false, false, false, false, false, false, false, false, false]
abbrev mk8_24 : Array Bool := #[true, true, true, true, true, true, true, true, true, true, true, true, true, true, true, true, true, true, true, true, true, true, true, true, false, false, false, false, false, false, false, false, false, false, false, false, false, false, false, false, false, false, false, false, false, false, false, false]
abbrev mk8_25 : Array Bool := #[true, true, true, true, true, true, true, true, true, true, true, true, true, true, true, true, true, true, true, true, true, true, true, true, true, false, false, false, false, false, false, false, false, false, false, false, false, false, false, false, false, false, false, false, false, false, false, false]
abbrev mk8_26 : Array Bool := #[true, true, true, true, true, true, true, true, true, true, true, true, true, true, true, true, true, true, true, true, true, true, true, true, true, true, false, false, false, false, false, false, false, false, false, false, false, false, false, false, false, false, false, false, false, false, false, false]
abbrev mk8_27 : Array Bool := #[true, true, true, true, true, true, true, true, true, true, true, true, true, true, true, true, true, true, true, true, true, true, true, true, true, true, true, false, false, false, false, false, false, false, false, false, false, false, false, false, false, false, false, false, false, false, false, false]
abbrev mk8_28 : Array Bool := #[true, true, true, true, true, true, true, true, true, true, true, true, true, true, true, true, true, true, true, true, true, true, true, true, true, true, true, true, false, false, false, false, false, false, false, false, false, false, false, false, false, false, false, false, false, false, false, false]
abbrev mk8_29 : Array Bool := #[true, true, true, true, true, true, true, true, true, true, true, true, true, true, true, true, true, true, true, true, true, true, true, true, true, true, true, true, true, false, false, false, false, false, false, false, false, false, false, false, false, false, false, false, false, false, false, false]
abbrev mk8_30 : Array Bool := #[true, true, true, true, true, true, true, true, true, true, true, true, true, true, true, true, true, true, true, true, true, true, true, true, true, true, true, true, true, true, false, false, false, false, false, false, false, false, false, false, false, false, false, false, false, false, false, false]
abbrev mk8_31 : Array Bool := #[true, true, true, true, true, true, true, true, true, true, true, true, true, true, true, true, true, true, true, true, true, true, true, true, true, true, true, true, true, true, true, false, false, false, false, false, false, false, false, false, false, false, false, false, false, false, false, false]
abbrev mk8_32 : Array Bool := #[true, true, true, true, true, true, true, true, true, true, true, true, true, true, true, true, true, true, true, true, true, true, true, true, true, true, true, true, true, true, true, true, false, false, false, false, false, false, false, false, false, false, false, false, false, false, false, false]
abbrev mk8_33 : Array Bool := #[true, true, true, true, true, true, true, true, true, true, true, true, true, true, true, true, true, true, true, true, true, true, true, true, true, true, true, true, true, true, true, true, true, false, false, false, false, false, false, false, false, false, false, false, false, false, false, false]
abbrev mk8_34 : Array Bool := #[true, true, true, true, true, true, true, true, true, true, true, true, true, true, true, true, true, true, true, true, true, true, true, true, true, true, true, true, true, true, true, true, true, true, false, false, false, false, false, false, false, false, false, false, false, false, false, false]
abbrev mk8_35 : Array Bool := #[true, true, true, true, true, true, true, true, true, true, true, true, true, true, true, true, true, true, true, true, true, true, true, true, true, true, true, true, true, true, true, true, true, true, true, false, false, false, false, false, false, false, false, false, false, false, false, false]
abbrev mk8_36 : Array Bool := #[true, true, true, true, true, true, true, true, true, true, true, true, true, true, true, true, true, true, true, true, true, true, true, true, true, true, true, true, true, true, true, true, true, true, true, true, false, false, false, false, false, false, false, false, false, false, false, false]
abbrev mk8_37 : Array Bool := #[true, true, true, true, true, true, true, true, true, true, true, true, true, true, true, true, true, true, true, true, true, true, true, true, true, true, true, true, true, true, true, true, true, true, true, true, true, false, false, false, false, false, false, false, false, false, false, false]
abbrev mk8_38 : Array Bool := #[true, true, true, true, true, true, true, true, true, true, true, true, true, true, true, true, true, true, true, true, true, true, true, true, true, true, true, true, true, true, true, true, true, true, true, true, true, true, false, false, false, false, false, false, false, false, false, false]
abbrev mk8_39 : Array Bool := #[true, true, true, true, true, true, true, true, true, true, true, true, true, true, true, true, true, true, true, true, true, true, true, true, true, true, true, true, true, true, true, true, true, true, true, true, true, true, true, false, false, false, false, false, false, false, false, false]
abbrev mk8_40 : Array Bool := #[true, true, true, true, true, true, true, true, true, true, true, true, true, true, true, true, true, true, true, true, true, true, true, true, true, true, true, true, true, true, true, true, true, true, true, true, true, true, true, true, false, false, false, false, false, false, false, false]
abbrev mk8_41 : Array Bool := #[true, true, true, true, true, true, true, true, true, true, true, true, true, true, true, true, true, true, true, true, true, true, true, true, true, true, true, true, true, true, true, true, true, true, true, true, true, true, true, true, true, false, false, false, false, false, false, false]
abbrev mk8_42 : Array Bool := #[true, true, true, true, true, true, true, true, true, true, true, true, true, true, true, true, true, true, true, true, true, true, true, true, true, true, true, true, true, true, true, true, true, true, true, true, true, true, true, true, true, false, true, false, false, false, false, false]
abbrev mk8_43 : Array Bool := #[true, true, true, true, true, true, true, true, true, true, true, true, true, true, true, true, true, true, true, true, true, true, true, true, true, true, true, true, true, true, true, true, true, true, true, true, true, true, true, true, true, true, true, false, false, false, false, false]
abbrev mk8_44 : Array Bool := #[true, true, true, true, true, true, true, true, true, true, true, true, true, true, true, true, true, true, true, true, true, true, true, true, true, true, true, true, true, true, true, true, true, true, true, true, true, true, true, true, true, true, true, true, false, false, false, false]
abbrev mk8_45 : Array Bool := #[true, true, true, true, true, true, true, true, true, true, true, true, true, true, true, true, true, true, true, true, true, true, true, true, true, true, true, true, true, true, true, true, true, true, true, true, true, true, true, true, true, true, true, true, true, false, false, false]
abbrev mk8_46 : Array Bool := #[true, true, true, true, true, true, true, true, true, true, true, true, true, true, true, true, true, true, true, true, true, true, true, true, true, true, true, true, true, true, true, true, true, true, true, true, true, true, true, true, true, true, true, true, true, true, false, false]
abbrev mk8_47 : Array Bool := #[true, true, true, true, true, true, true, true, true, true, true, true, true, true, true, true, true, true, true, true, true, true, true, true, true, true, true, true, true, true, true, true, true, true, true, true, true, true, true, true, true, true, true, true, true, true, true, false]
abbrev mk8_48 : Array Bool := #[true, true, true, true, true, true, true, true, true, true, true, true, true, true, true, true, true, true, true, true, true, true, true, true, true, true, true, true, true, true, true, true, true, true, true, true, true, true, true, true, true, true, true, true, true, true, true, true]
abbrev mk8_49 : Array Bool := #[true, true, true, true, true, true, true, true, true, true, true, true, true, true, true, true, true, true, true, true, true, true, true, true, true, true, true, true, true, true, true, true, true, true, true, true, true, true, true, true, true, true, false, false, false, false, false, false]
def spec_l06Lives.l0 : Nat → List (S86) → Int → Option (Bool)
  | 0, _, _ => none
  | k + 1, x0, x3 => if x3 < (x0.length : Int) then (if 0 ≤ x3 then ((spec_DotOk.f ((rd_T86 x0 x3).f4.f0) ((rd_T86 x0 x3).f4.f1)).bind fun t234 => (if t234 = true then ((spec_NameOk.f k ((rd_T86 x0 x3).f1)).bind fun t235 => (if t235 = true then ((spec_NameOk.f k ((rd_T86 x0 x3).f2)).bind fun t236 => (if t236 = true then ((spec_l01In.f ((rd_T86 x0 x3).f3) 0 999999).bind fun t237 => (if t237 = true then (if ((rd_T86 x0 x3).f0 = true) then (if x3 > 0 then (if 0 ≤ (wrap64 (x3 - 1)) then (if (wrap64 (x3 - 1)) < (x0.length : Int) then ((spec_l06Before.f ((rd_T86 x0 (wrap64 (x3 - 1))).f4.f0) ((rd_T86 x0 (wrap64 (x3 - 1))).f4.f1) ((rd_T86 x0 x3).f4.f0) ((rd_T86 x0 x3).f4.f1)).bind fun t239 => (if t239 = true then (spec_l06Lives.l0 k x0 (wrap64 (x3 + 1))) else (some false))) else (none)) else (none)) else (spec_l06Lives.l0 k x0 (wrap64 (x3 + 1)))) else (if ((rd_T86 x0 x3).f3) = 0 then (if x3 > 0 then (if 0 ≤ (wrap64 (x3 - 1)) then (if (wrap64 (x3 - 1)) < (x0.length : Int) then ((spec_l06Before.f ((rd_T86 x0 (wrap64 (x3 - 1))).f4.f0) ((rd_T86 x0 (wrap64 (x3 - 1))).f4.f1) ((rd_T86 x0 x3).f4.f0) ((rd_T86 x0 x3).f4.f1)).bind fun t241 => (if t241 = true then (spec_l06Lives.l0 k x0 (wrap64 (x3 + 1))) else (some false))) else (none)) else (none)) else (spec_l06Lives.l0 k x0 (wrap64 (x3 + 1)))) else (some false))) else (some false))) else (some false))) else (some false))) else (some false))) else (none)) else (some (decide ((x0.length : Int) ≤ 120)))
def spec_l06Lives.f (k : Nat) (l0 : List (S86)) : Option (Bool) := spec_l06Lives.l0 k l0 0
def spec_l06Lives.T5 : Bool × List (List Nat × List Nat) := (true, [([], []), ([0], [0]), ([1], [1]), ([2], [2]), ([3, 2], [3]), ([4], [4]), ([5, 4], [4, 5]), ([6, 4, 4], [4, 6]), ([7, 4], [4, 7]), ([4, 8], [4, 8]), ([9, 7], [9]), ([10], [10]), ([11, 10], [10, 11]), ([12, 10, 10], [10, 12]), ([13, 10], [10, 13]), ([10, 14], [10, 14]), ([15, 13], [15]), ([16], [16]), ([17, 16], [16, 17]), ([18, 16, 16], [16, 18]), ([19, 16], [16, 19]), ([16, 20], [16, 20]), ([21, 19], [21]), ([22], [22]), ([23, 22], [22, 23]), ([24, 22], [22, 24]), ([25, 22, 22], [22, 25]), ([26], [26]), ([27, 26], [26, 27]), ([28, 26], [26, 28]), ([26, 29, 22], [22, 26, 29]), ([22, 30], [22, 30]), ([31, 26], [31]), ([32], [32]), ([33, 32], [32, 33]), ([34, 32, 32], [32, 34]), ([35], [35]), ([35], [35]), ([37, 35], [35, 37]), ([36, 38, 35], [35, 36, 38]), ([39, 35], [35, 39]), ([40, 35], [35, 40]), ([35], [35]), ([42, 35], [35, 42]), ([41, 43, 35, 35], [35, 41, 43]), ([44, 35], [35, 44]), ([35, 45, 32], [32, 35, 45]), ([32, 46], [32, 46])])
def spec_l06Lives.B5 : List Nat := [0, 1, 3, 7, 15, 31, 63, 127, 255, 511, 1023, 2047, 4095, 8191, 16383, 32767, 65535, 131071, 262143, 524287, 1048575, 2097151, 4194303, 8388607, 16777215, 33554431, 67108863, 134217727, 268435455, 536870911, 1073741823, 2147483647, 4294967295, 8589934591, 17179869183, 34359738367, 68719476735, 68719476735, 206158430207, 549755813887, 1099511627775, 2199023255551, 68719476735, 4466765987839, 17592186044415, 35184372088831, 70368744177663, 140737488355327]
theorem spec_l06Lives.tab5 : rtab .any (opsOf Try.f58 5) = spec_l06Lives.T5 := by kernel_rfl
theorem spec_l06Lives.bits5 : waitsOk spec_l06Lives.T5.2 spec_l06Lives.B5 = true := by kernel_rfl
set_option maxHeartbeats 8000000 in
set_option maxRecDepth 100000 in
theorem spec_l06Lives.calls (k : Nat) (A0 : Option Addr) (c0 : Nat) (l0 : List (S86)) (r : Bool) (w : World) (hr0 : Kd.C k86 w A0 l0.length l0) (hc0 : l0.length ≤ c0) (h : spec_l06Lives.f k l0 = some r) :
  Calls Try.prog 58 #[.slice A0 l0.length c0] w fun e w' => e = .returned (.bool r) ∧ Below w.heap.size w w' := by
 have hu86 := Try.underlying86
 have hu38 := Try.underlying38
 have HR0 := Aside0.mk hr0
 have HC0 := Aside0.mk hc0
 clear hr0 hc0
 have HB := Aside0.mk (Below.refl w.heap.size w)
 have H : (spec_l06Lives.l0 k l0 0) = some r := h
 clear h
 have H' := Aside0.mk H
 clear H
 go_enter Try.func58, Try.ntmps58
 go_wp2
 go_loopg [3] k (fun kq v3 w' => ∃ (x3_1 : Int), v3 = .int .i64 x3_1 ∧ Aside0 (spec_l06Lives.l0 kq l0 x3_1 = some r) ∧ Aside0 (kq ≤ k) ∧ Aside0 (Below w.heap.size w w'))
 case atStart => exact ⟨(0), z8_10, H', ⟨Nat.le_refl _⟩, ⟨z8_4⟩⟩
 case round =>
  clear H'
  obtain ⟨x3_1, rfl, HA, HK1, HB⟩ := hrel
  cases gk with
  | zero => exact absurd HA.out (by simp [spec_l06Lives.l0])
  | succ k1 =>
   have H := HA.out
   clear HA
   simp only [spec_l06Lives.l0] at H
   by_cases c2 : x3_1 < (l0.length : Int)
   ·
    rw [if_pos c2] at H
    have c2b0 : decide (x3_1 < (l0.length : Int)) = true := decide_eq_true c2
    clear c2
    by_cases c3 : 0 ≤ x3_1
    ·
     rw [if_pos c3] at H
     have c3b0 : decide (0 ≤ x3_1) = true := decide_eq_true c3
     clear c3
     replace H := Option.bind_eq_some_iff.mp H
     obtain ⟨t234, A40, H⟩ := H
     (try dsimp only at H)
     have A4 := Aside0.mk A40
     clear A40
     by_cases c5 : t234 = true
     ·
      subst c5
      rw [if_pos rfl] at H
      replace H := Option.bind_eq_some_iff.mp H
      obtain ⟨t235, A60, H⟩ := H
      (try dsimp only at H)
      have A6 := Aside0.mk A60
      clear A60
      by_cases c7 : t235 = true
      ·
       subst c7
       rw [if_pos rfl] at H
       replace H := Option.bind_eq_some_iff.mp H
       obtain ⟨t236, A80, H⟩ := H
       (try dsimp only at H)
       have A8 := Aside0.mk A80
       clear A80
       by_cases c9 : t236 = true
       ·
        subst c9
        rw [if_pos rfl] at H
        replace H := Option.bind_eq_some_iff.mp H
        obtain ⟨t237, A100, H⟩ := H
        (try dsimp only at H)
        have A10 := Aside0.mk A100
        clear A100
        by_cases c11 : t237 = true
        ·
         subst c11
         rw [if_pos rfl] at H
         obtain ⟨bq12, hbq12⟩ : ∃ b_ : Bool, b_ = ((rd_T86 l0 x3_1).f0) := ⟨_, rfl⟩
         replace H : (if (bq12 = true) then (if x3_1 > 0 then (if 0 ≤ (wrap64 (x3_1 - 1)) then (if (wrap64 (x3_1 - 1)) < (l0.length : Int) then ((spec_l06Before.f ((rd_T86 l0 (wrap64 (x3_1 - 1))).f4.f0) ((rd_T86 l0 (wrap64 (x3_1 - 1))).f4.f1) ((rd_T86 l0 x3_1).f4.f0) ((rd_T86 l0 x3_1).f4.f1)).bind fun t239 => (if t239 = true then (spec_l06Lives.l0 k1 l0 (wrap64 (x3_1 + 1))) else (some false))) else (none)) else (none)) else (spec_l06Lives.l0 k1 l0 (wrap64 (x3_1 + 1)))) else (if ((rd_T86 l0 x3_1).f3) = 0 then (if x3_1 > 0 then (if 0 ≤ (wrap64 (x3_1 - 1)) then (if (wrap64 (x3_1 - 1)) < (l0.length : Int) then ((spec_l06Before.f ((rd_T86 l0 (wrap64 (x3_1 - 1))).f4.f0) ((rd_T86 l0 (wrap64 (x3_1 - 1))).f4.f1) ((rd_T86 l0 x3_1).f4.f0) ((rd_T86 l0 x3_1).f4.f1)).bind fun t241 => (if t241 = true then (spec_l06Lives.l0 k1 l0 (wrap64 (x3_1 + 1))) else (some false))) else (none)) else (none)) else (spec_l06Lives.l0 k1 l0 (wrap64 (x3_1 + 1)))) else (some false))) = some r := by rw [← hbq12] at H; exact H
         have Nbq12 := Aside0.mk hbq12
         clear hbq12
         by_cases c13 : (bq12 = true)
         ·
          subst c13
          rw [if_pos rfl] at H
          by_cases c14 : x3_1 > 0
          ·
           rw [if_pos c14] at H
           have c14b0 : decide (0 < x3_1) = true := decide_eq_true c14
           clear c14
           obtain ⟨ji15, hji15⟩ : ∃ j_ : Int, (wrap64 (x3_1 - 1)) = j_ := ⟨_, rfl⟩
           replace H : (if 0 ≤ (ji15) then (if (ji15) < (l0.length : Int) then ((spec_l06Before.f ((rd_T86 l0 (ji15)).f4.f0) ((rd_T86 l0 (ji15)).f4.f1) ((rd_T86 l0 x3_1).f4.f0) ((rd_T86 l0 x3_1).f4.f1)).bind fun t239 => (if t239 = true then (spec_l06Lives.l0 k1 l0 (wrap64 (x3_1 + 1))) else (some false))) else (none)) else (none)) = some r := by first | (rw [hji15] at H; exact H) | (simp only [hji15] at H ⊢; exact H)
           (try rw [hji15] at A4)
           (try rw [hji15] at A6)
           (try rw [hji15] at A8)
           (try rw [hji15] at A10)
           have hji15w : (IntKind.i64.wrap (x3_1 - 1)) = ji15 := (i64_w _).trans hji15
           by_cases c16 : 0 ≤ (ji15)
           ·
            rw [if_pos c16] at H
            have c16b0 : decide (0 ≤ (ji15)) = true := decide_eq_true c16
            clear c16
            by_cases c17 : (ji15) < (l0.length : Int)
            ·
             rw [if_pos c17] at H
             have c17b0 : decide ((ji15) < (l0.length : Int)) = true := decide_eq_true c17
             clear c17
             replace H := Option.bind_eq_some_iff.mp H
             obtain ⟨t239, A180, H⟩ := H
             (try dsimp only at H)
             have A18 := Aside0.mk A180
             clear A180
             by_cases c19 : t239 = true
             ·
              subst c19
              rw [if_pos rfl] at H
              have H' := Aside0.mk H
              clear H
              have p232 : 0 ≤ (x3_1 : Int) := of_decide_eq_true z8_8
              have q232 : x3_1 < (l0.length : Int) := of_decide_eq_true z8_8
              obtain ⟨ad232, e232, hx232_0, hx232_1, hx232_2, hx232_3, hx232_4, hx232_5⟩ := at_T86 HR0.out x3_1 p232 q232
              (try rw [← Nbq12.out] at hx232_0)
              cases e232
              replace hx232_0 := cb_ HB hx232_0
              replace hx232_1 := cb_ HB hx232_1
              replace hx232_2 := cb_ HB hx232_2
              replace hx232_3 := cb_ HB hx232_3
              replace hx232_4 := cb_ HB hx232_4
              replace hx232_5 := cb_ HB hx232_5
              replace p232 := eq_true p232
              replace q232 := eq_true q232
              try go_wp2_with (first | ((with_reducible refine gate_dst (N := 4) rfl ?_); refine box_event ?hg (N := 4) ?hd (cs := #[.bool false, .string (⟨#[]⟩ : ByteArray), .string (⟨#[]⟩ : ByteArray), .int .i64 0, .int .i64 0, .int .i64 0]) (t := 86) ?hr ?_; (case hd => rfl); (case hg => rfl); (case hr => first | (go_simp; done) | (go_simp; rfl)); intro gb233 hg w20 hbox hb; have BK233 := Aside0.mk (hbox); have GW233 := gw_ w z8_4 hg; have GE233 := gw_ w z8_4 hg; replace HB := Aside0.mk (below_step z8_4 hb); clear hb hbox hg; obtain ⟨hcz21_0, hcz21_1, hcz21_2, hcz21_3, hcz21_4, hcz21_5, hfz21_0, hfz21_1, hfz21_2, hfz21_3, hfz21_4, hfz21_5⟩ := bc6 BK233.out))
              have n0_ : Aside0 (((((((w20.setCell ⟨gb233, 0, none⟩ (.bool true)).setCell ⟨gb233, 1, none⟩ (.string ((rd_T86 l0 x3_1).f1))).setCell ⟨gb233, 2, none⟩ (.string ((rd_T86 l0 x3_1).f2))).setCell ⟨gb233, 3, none⟩ (.int .i64 ((rd_T86 l0 x3_1).f3))).setCell ⟨gb233, 4, none⟩ (.int .i64 ((rd_T86 l0 x3_1).f4.f0))).setCell ⟨gb233, 5, none⟩ (.int .i64 ((rd_T86 l0 x3_1).f4.f1))).heap[gb233]? = some (.cells #[.bool true, .string ((rd_T86 l0 x3_1).f1), .string ((rd_T86 l0 x3_1).f2), .int .i64 ((rd_T86 l0 x3_1).f3), .int .i64 ((rd_T86 l0 x3_1).f4.f0), .int .i64 ((rd_T86 l0 x3_1).f4.f1)] 86 (0, 0))) := ⟨z8_6⟩
              have n1_ : Aside0 (Below w.heap.size w ((((((w20.setCell ⟨gb233, 0, none⟩ (.bool true)).setCell ⟨gb233, 1, none⟩ (.string ((rd_T86 l0 x3_1).f1))).setCell ⟨gb233, 2, none⟩ (.string ((rd_T86 l0 x3_1).f2))).setCell ⟨gb233, 3, none⟩ (.int .i64 ((rd_T86 l0 x3_1).f3))).setCell ⟨gb233, 4, none⟩ (.int .i64 ((rd_T86 l0 x3_1).f4.f0))).setCell ⟨gb233, 5, none⟩ (.int .i64 ((rd_T86 l0 x3_1).f4.f1)))) := ⟨z8_0⟩
              (try clear BK233)
              (try clear HB)
              generalize ((((((w20.setCell ⟨gb233, 0, none⟩ (.bool true)).setCell ⟨gb233, 1, none⟩ (.string ((rd_T86 l0 x3_1).f1))).setCell ⟨gb233, 2, none⟩ (.string ((rd_T86 l0 x3_1).f2))).setCell ⟨gb233, 3, none⟩ (.int .i64 ((rd_T86 l0 x3_1).f3))).setCell ⟨gb233, 4, none⟩ (.int .i64 ((rd_T86 l0 x3_1).f4.f0))).setCell ⟨gb233, 5, none⟩ (.int .i64 ((rd_T86 l0 x3_1).f4.f1))) = w22 at n0_ n1_ ⊢
              have BK233 := n0_
              have HB := n1_
              clear n0_ n1_
              replace BK233 := Aside0.mk (blk_drew BK233.out)
              replace HB := Aside0.mk (below_drew1 HB.out)
              have p238 : 0 ≤ ((ji15) : Int) := of_decide_eq_true z8_8
              have q238 : (ji15) < (l0.length : Int) := of_decide_eq_true z8_8
              obtain ⟨ad238, e238, hx238_0, hx238_1, hx238_2, hx238_3, hx238_4, hx238_5⟩ := at_T86 HR0.out (ji15) p238 q238
              have hw238_5 := hx238_5
              have hw238_4 := hx238_4
              have hw238_3 := hx238_3
              have hw238_2 := hx238_2
              have hw238_1 := hx238_1
              have hw238_0 := hx238_0
              (try rw [← Nbq12.out] at hx238_0)
              obtain rfl : ad232 = ad238 := (by injection e238)
              replace hx238_0 := cb_ HB hx238_0
              replace hx238_1 := cb_ HB hx238_1
              replace hx238_2 := cb_ HB hx238_2
              replace hx238_3 := cb_ HB hx238_3
              replace hx238_4 := cb_ HB hx238_4
              replace hx238_5 := cb_ HB hx238_5
              replace p238 := eq_true p238
              replace q238 := eq_true q238
              refine start_ (n := 48) (S := fun w' => w'.cell? ⟨gb233, 0, none⟩ = some (.bool true) ∧ w'.cell? ⟨gb233, 1, none⟩ = some (.string ((rd_T86 l0 x3_1).f1)) ∧ w'.cell? ⟨gb233, 2, none⟩ = some (.string ((rd_T86 l0 x3_1).f2)) ∧ w'.cell? ⟨gb233, 3, none⟩ = some (.int .i64 ((rd_T86 l0 x3_1).f3)) ∧ w'.cell? ⟨gb233, 4, none⟩ = some (.int .i64 ((rd_T86 l0 x3_1).f4.f0)) ∧ w'.cell? ⟨gb233, 5, none⟩ = some (.int .i64 ((rd_T86 l0 x3_1).f4.f1)) ∧ w'.cell? (ad232.add (((ji15)).toNat * 6)) = some (.bool ((rd_T86 l0 (ji15)).f0)) ∧ w'.cell? ⟨(ad232.add (((ji15)).toNat * 6)).block, (ad232.add (((ji15)).toNat * 6)).off + 1, none⟩ = some (.string ((rd_T86 l0 (ji15)).f1)) ∧ w'.cell? ⟨(ad232.add (((ji15)).toNat * 6)).block, (ad232.add (((ji15)).toNat * 6)).off + 2, none⟩ = some (.string ((rd_T86 l0 (ji15)).f2)) ∧ w'.cell? ⟨(ad232.add (((ji15)).toNat * 6)).block, (ad232.add (((ji15)).toNat * 6)).off + 3, none⟩ = some (.int .i64 ((rd_T86 l0 (ji15)).f3)) ∧ w'.cell? ⟨(ad232.add (((ji15)).toNat * 6)).block, (ad232.add (((ji15)).toNat * 6)).off + 4, none⟩ = some (.int .i64 ((rd_T86 l0 (ji15)).f4.f0)) ∧ w'.cell? ⟨(ad232.add (((ji15)).toNat * 6)).block, (ad232.add (((ji15)).toNat * 6)).off + 5, none⟩ = some (.int .i64 ((rd_T86 l0 (ji15)).f4.f1))) (ds := []) mk8_0 z8_2 rfl rfl ⟨bc_ BK233 0, bc_ BK233 1, bc_ BK233 2, bc_ BK233 3, bc_ BK233 4, bc_ BK233 5, (cb_ HB hw238_0), (cb_ HB hw238_1), (cb_ HB hw238_2), (cb_ HB hw238_3), (cb_ HB hw238_4), (cb_ HB hw238_5)⟩ (fun hHeld => ?_); refine with_tabW spec_l06Lives.tab5 spec_l06Lives.bits5 (fun HT_ HW_ => ?_)
              generalize w22.drew = w23 at BK233 HB hx238_0 hx238_1 hx238_2 hx238_3 hx238_4 hx238_5 hHeld ⊢
              refine p_ (i := 0) (N := some 15) mk8_1 ?_
              refine t_ (i := 1) (N := some 16) mk8_2 hHeld ?_ (hv := by rintro w' ⟨s0, s1, s2, s3, s4, s5, s6, s7, s8, s9, s10, s11⟩; go_simp; with_reducible rfl)
              refine o_ (i := 2) (N := some 17) mk8_3 (fun K hK => ?_)
              refine goes_ Try.func104 z8_2 rfl #[.agg #[.int .i64 ((rd_T86 l0 x3_1).f4.f0), .int .i64 ((rd_T86 l0 x3_1).f4.f1)]] (by rfl) rfl rfl z8_5 ?_
              with_reducible refine (spec_DotOk.calls ((rd_T86 l0 x3_1).f4.f0) ((rd_T86 l0 x3_1).f4.f1) true _ A4.out).mono ?_
              rintro e w24 ⟨rfl, hb⟩
              refine ⟨_, rfl, ?_⟩
              replace BK233 := Aside0.mk (blk_below (g := gb233) (o := .cells #[.bool true, .string ((rd_T86 l0 x3_1).f1), .string ((rd_T86 l0 x3_1).f2), .int .i64 ((rd_T86 l0 x3_1).f3), .int .i64 ((rd_T86 l0 x3_1).f4.f0), .int .i64 ((rd_T86 l0 x3_1).f4.f1)] 86 (0, 0)) z8_7 hb)
              replace HB := Aside0.mk (below_step z8_0 hb)
              (try clear hb)
              (try clear hb2)
              (try clear hk)
              (try clear hi)
              refine hK.out _ _ ⟨bc_ BK233 0, bc_ BK233 1, bc_ BK233 2, bc_ BK233 3, bc_ BK233 4, bc_ BK233 5, (cb_ HB hw238_0), (cb_ HB hw238_1), (cb_ HB hw238_2), (cb_ HB hw238_3), (cb_ HB hw238_4), (cb_ HB hw238_5)⟩ (fun hHeld => ?_)
              clear hK K
              refine n_ ?_
              refine p_ (i := 3) (N := some 18) mk8_4 ?_
              refine p_ (i := 4) (N := some 19) mk8_5 ?_
              refine p_ (i := 5) (N := some 20) mk8_6 ?_
              refine t_ (i := 6) (N := some 21) mk8_7 hHeld ?_ (hv := by rintro w' ⟨s0, s1, s2, s3, s4, s5, s6, s7, s8, s9, s10, s11⟩; go_simp; with_reducible rfl)
              refine o_ (i := 7) (N := some 22) mk8_8 (fun K hK => ?_)
              refine goes_ Try.func103 z8_2 rfl #[.string ((rd_T86 l0 x3_1).f1)] (by rfl) rfl rfl z8_5 ?_
              with_reducible refine (spec_NameOk.calls k1 ((rd_T86 l0 x3_1).f1) true _ A6.out).mono ?_
              rintro e w' ⟨rfl, ⟨nd, rfl⟩⟩
              refine ⟨_, rfl, ?_⟩
              refine hK.out _ _ ⟨bc_ BK233 0, bc_ BK233 1, bc_ BK233 2, bc_ BK233 3, bc_ BK233 4, bc_ BK233 5, (cb_ HB hw238_0), (cb_ HB hw238_1), (cb_ HB hw238_2), (cb_ HB hw238_3), (cb_ HB hw238_4), (cb_ HB hw238_5)⟩ (fun hHeld => ?_)
              clear hK K
              refine n_ ?_
              refine p_ (i := 8) (N := some 23) mk8_9 ?_
              refine p_ (i := 9) (N := some 24) mk8_10 ?_
              refine p_ (i := 10) (N := some 25) mk8_11 ?_
              refine p_ (i := 11) (N := some 26) mk8_12 ?_
              refine t_ (i := 12) (N := some 27) mk8_13 hHeld ?_ (hv := by rintro w' ⟨s0, s1, s2, s3, s4, s5, s6, s7, s8, s9, s10, s11⟩; go_simp; with_reducible rfl)
              refine o_ (i := 13) (N := some 28) mk8_14 (fun K hK => ?_)
              refine goes_ Try.func103 z8_2 rfl #[.string ((rd_T86 l0 x3_1).f2)] (by rfl) rfl rfl z8_5 ?_
              with_reducible refine (spec_NameOk.calls k1 ((rd_T86 l0 x3_1).f2) true _ A8.out).mono ?_
              rintro e w' ⟨rfl, ⟨nd, rfl⟩⟩
              refine ⟨_, rfl, ?_⟩
              refine hK.out _ _ ⟨bc_ BK233 0, bc_ BK233 1, bc_ BK233 2, bc_ BK233 3, bc_ BK233 4, bc_ BK233 5, (cb_ HB hw238_0), (cb_ HB hw238_1), (cb_ HB hw238_2), (cb_ HB hw238_3), (cb_ HB hw238_4), (cb_ HB hw238_5)⟩ (fun hHeld => ?_)
              clear hK K
              refine n_ ?_
              refine p_ (i := 14) (N := some 29) mk8_15 ?_
              refine p_ (i := 15) (N := some 30) mk8_16 ?_
              refine p_ (i := 16) (N := some 31) mk8_17 ?_
              refine p_ (i := 17) (N := some 32) mk8_18 ?_
              refine t_ (i := 18) (N := some 33) mk8_19 hHeld ?_ (hv := by rintro w' ⟨s0, s1, s2, s3, s4, s5, s6, s7, s8, s9, s10, s11⟩; go_simp; with_reducible rfl)
              refine o_ (i := 19) (N := some 34) mk8_20 (fun K hK => ?_)
              refine goes_ Try.func102 z8_2 rfl #[.int .i64 ((rd_T86 l0 x3_1).f3), .int .i64 0, .int .i64 999999] (by rfl) rfl rfl z8_5 ?_
              with_reducible refine (spec_l01In.calls ((rd_T86 l0 x3_1).f3) 0 999999 true _ A10.out).mono ?_
              rintro e w' ⟨rfl, ⟨nd, rfl⟩⟩
              refine ⟨_, rfl, ?_⟩
              refine hK.out _ _ ⟨bc_ BK233 0, bc_ BK233 1, bc_ BK233 2, bc_ BK233 3, bc_ BK233 4, bc_ BK233 5, (cb_ HB hw238_0), (cb_ HB hw238_1), (cb_ HB hw238_2), (cb_ HB hw238_3), (cb_ HB hw238_4), (cb_ HB hw238_5)⟩ (fun hHeld => ?_)
              clear hK K
              refine n_ ?_
              refine p_ (i := 20) (N := some 35) mk8_21 ?_
              refine p_ (i := 21) (N := some 36) mk8_22 ?_
              refine p_ (i := 22) (N := some 37) mk8_23 ?_
              refine p_ (i := 23) (N := some 38) mk8_24 ?_
              refine t_ (i := 24) (N := some 39) mk8_25 hHeld ?_ (hv := by rintro w' ⟨s0, s1, s2, s3, s4, s5, s6, s7, s8, s9, s10, s11⟩; go_simp; with_reducible rfl)
              refine p_ (i := 25) (N := some 40) mk8_26 ?_
              refine p_ (i := 26) (N := some 41) mk8_27 ?_
              refine u_ (i := 27) (N := some 42) mk8_28 ?_
              refine u_ (i := 28) (N := some 43) mk8_29 ?_
              refine u_ (i := 29) (N := some 44) mk8_30 ?_
              refine p_ (i := 30) (N := some 45) mk8_31 ?_
              refine p_ (i := 31) (N := some 46) mk8_32 ?_
              refine p_ (i := 32) (N := some 47) mk8_33 ?_
              refine p_ (i := 33) (N := some 48) mk8_34 ?_
              refine p_ (i := 34) (N := some 49) mk8_35 ?_
              refine p_ (i := 35) (N := some 50) mk8_36 ?_
              refine p_ (i := 36) (N := some 51) mk8_37 ?_
              refine p_ (i := 37) (N := some 52) mk8_38 ?_
              refine p_ (i := 38) (N := some 53) mk8_39 ?_
              refine p_ (i := 39) (N := some 54) mk8_40 ?_
              refine p_ (i := 40) (N := some 55) mk8_41 ?_
              refine p_ (i := 42) (N := some 57) mk8_42 ?_
              refine t_ (i := 41) (N := some 56) mk8_43 hHeld ?_ (hv := by rintro w' ⟨s0, s1, s2, s3, s4, s5, s6, s7, s8, s9, s10, s11⟩; go_simp; with_reducible rfl)
              refine t_ (i := 43) (N := some 58) mk8_44 hHeld ?_ (hv := by rintro w' ⟨s0, s1, s2, s3, s4, s5, s6, s7, s8, s9, s10, s11⟩; go_simp; with_reducible rfl)
              refine o_ (i := 44) (N := some 59) mk8_45 (fun K hK => ?_)
              refine goes_ Try.func105 z8_2 rfl #[.agg #[.int .i64 ((rd_T86 l0 (ji15)).f4.f0), .int .i64 ((rd_T86 l0 (ji15)).f4.f1)], .agg #[.int .i64 ((rd_T86 l0 x3_1).f4.f0), .int .i64 ((rd_T86 l0 x3_1).f4.f1)]] (by rfl) rfl rfl z8_12 ?_
              with_reducible refine (spec_l06Before.calls ((rd_T86 l0 (ji15)).f4.f0) ((rd_T86 l0 (ji15)).f4.f1) ((rd_T86 l0 x3_1).f4.f0) ((rd_T86 l0 x3_1).f4.f1) true _ A18.out).mono ?_
              rintro e w25 ⟨rfl, hb⟩
              refine ⟨_, rfl, ?_⟩
              replace BK233 := Aside0.mk (blk_below (g := gb233) (o := .cells #[.bool true, .string ((rd_T86 l0 x3_1).f1), .string ((rd_T86 l0 x3_1).f2), .int .i64 ((rd_T86 l0 x3_1).f3), .int .i64 ((rd_T86 l0 x3_1).f4.f0), .int .i64 ((rd_T86 l0 x3_1).f4.f1)] 86 (0, 0)) z8_7 hb)
              replace HB := Aside0.mk (below_step z8_0 hb)
              (try clear hb)
              (try clear hb2)
              (try clear hk)
              (try clear hi)
              refine hK.out _ _ ⟨bc_ BK233 0, bc_ BK233 1, bc_ BK233 2, bc_ BK233 3, bc_ BK233 4, bc_ BK233 5, (cb_ HB hw238_0), (cb_ HB hw238_1), (cb_ HB hw238_2), (cb_ HB hw238_3), (cb_ HB hw238_4), (cb_ HB hw238_5)⟩ (fun hHeld => ?_)
              clear hK K
              refine n_ ?_
              refine p_ (i := 45) (N := some 60) mk8_46 ?_
              refine p_ (i := 46) (N := some 61) mk8_47 ?_
              refine p_ (i := 47) (N := some 62) mk8_48 ?_
              refine done_ (done_of HT_.out z8_2) ?_
              try go_wp2
              go_roundg k1
              case measure => have := HK1.out; omega
              case rel => exact ⟨(wrap64 (x3_1 + 1)), z8_10, H', ⟨by have := HK1.out; omega⟩, ⟨z8_0⟩⟩
             ·
              replace c19 := Bool.eq_false_iff.mpr c19
              subst c19
              rw [if_neg (show ¬ (false = true) by decide)] at H
              obtain rfl := Option.some.inj H
              have p232 : 0 ≤ (x3_1 : Int) := of_decide_eq_true z8_8
              have q232 : x3_1 < (l0.length : Int) := of_decide_eq_true z8_8
              obtain ⟨ad232, e232, hx232_0, hx232_1, hx232_2, hx232_3, hx232_4, hx232_5⟩ := at_T86 HR0.out x3_1 p232 q232
              (try rw [← Nbq12.out] at hx232_0)
              cases e232
              replace hx232_0 := cb_ HB hx232_0
              replace hx232_1 := cb_ HB hx232_1
              replace hx232_2 := cb_ HB hx232_2
              replace hx232_3 := cb_ HB hx232_3
              replace hx232_4 := cb_ HB hx232_4
              replace hx232_5 := cb_ HB hx232_5
              replace p232 := eq_true p232
              replace q232 := eq_true q232
              try go_wp2_with (first | ((with_reducible refine gate_dst (N := 4) rfl ?_); refine box_event ?hg (N := 4) ?hd (cs := #[.bool false, .string (⟨#[]⟩ : ByteArray), .string (⟨#[]⟩ : ByteArray), .int .i64 0, .int .i64 0, .int .i64 0]) (t := 86) ?hr ?_; (case hd => rfl); (case hg => rfl); (case hr => first | (go_simp; done) | (go_simp; rfl)); intro gb233 hg w26 hbox hb; have BK233 := Aside0.mk (hbox); have GW233 := gw_ w z8_4 hg; have GE233 := gw_ w z8_4 hg; replace HB := Aside0.mk (below_step z8_4 hb); clear hb hbox hg; obtain ⟨hcz27_0, hcz27_1, hcz27_2, hcz27_3, hcz27_4, hcz27_5, hfz27_0, hfz27_1, hfz27_2, hfz27_3, hfz27_4, hfz27_5⟩ := bc6 BK233.out))
              have n0_ : Aside0 (((((((w26.setCell ⟨gb233, 0, none⟩ (.bool true)).setCell ⟨gb233, 1, none⟩ (.string ((rd_T86 l0 x3_1).f1))).setCell ⟨gb233, 2, none⟩ (.string ((rd_T86 l0 x3_1).f2))).setCell ⟨gb233, 3, none⟩ (.int .i64 ((rd_T86 l0 x3_1).f3))).setCell ⟨gb233, 4, none⟩ (.int .i64 ((rd_T86 l0 x3_1).f4.f0))).setCell ⟨gb233, 5, none⟩ (.int .i64 ((rd_T86 l0 x3_1).f4.f1))).heap[gb233]? = some (.cells #[.bool true, .string ((rd_T86 l0 x3_1).f1), .string ((rd_T86 l0 x3_1).f2), .int .i64 ((rd_T86 l0 x3_1).f3), .int .i64 ((rd_T86 l0 x3_1).f4.f0), .int .i64 ((rd_T86 l0 x3_1).f4.f1)] 86 (0, 0))) := ⟨z8_6⟩
              have n1_ : Aside0 (Below w.heap.size w ((((((w26.setCell ⟨gb233, 0, none⟩ (.bool true)).setCell ⟨gb233, 1, none⟩ (.string ((rd_T86 l0 x3_1).f1))).setCell ⟨gb233, 2, none⟩ (.string ((rd_T86 l0 x3_1).f2))).setCell ⟨gb233, 3, none⟩ (.int .i64 ((rd_T86 l0 x3_1).f3))).setCell ⟨gb233, 4, none⟩ (.int .i64 ((rd_T86 l0 x3_1).f4.f0))).setCell ⟨gb233, 5, none⟩ (.int .i64 ((rd_T86 l0 x3_1).f4.f1)))) := ⟨z8_0⟩
              (try clear BK233)
              (try clear HB)
              generalize ((((((w26.setCell ⟨gb233, 0, none⟩ (.bool true)).setCell ⟨gb233, 1, none⟩ (.string ((rd_T86 l0 x3_1).f1))).setCell ⟨gb233, 2, none⟩ (.string ((rd_T86 l0 x3_1).f2))).setCell ⟨gb233, 3, none⟩ (.int .i64 ((rd_T86 l0 x3_1).f3))).setCell ⟨gb233, 4, none⟩ (.int .i64 ((rd_T86 l0 x3_1).f4.f0))).setCell ⟨gb233, 5, none⟩ (.int .i64 ((rd_T86 l0 x3_1).f4.f1))) = w28 at n0_ n1_ ⊢
              have BK233 := n0_
              have HB := n1_
              clear n0_ n1_
              replace BK233 := Aside0.mk (blk_drew BK233.out)
              replace HB := Aside0.mk (below_drew1 HB.out)
              have p238 : 0 ≤ ((ji15) : Int) := of_decide_eq_true z8_8
              have q238 : (ji15) < (l0.length : Int) := of_decide_eq_true z8_8
              obtain ⟨ad238, e238, hx238_0, hx238_1, hx238_2, hx238_3, hx238_4, hx238_5⟩ := at_T86 HR0.out (ji15) p238 q238
              have hw238_5 := hx238_5
              have hw238_4 := hx238_4
              have hw238_3 := hx238_3
              have hw238_2 := hx238_2
              have hw238_1 := hx238_1
              have hw238_0 := hx238_0
              (try rw [← Nbq12.out] at hx238_0)
              obtain rfl : ad232 = ad238 := (by injection e238)
              replace hx238_0 := cb_ HB hx238_0
              replace hx238_1 := cb_ HB hx238_1
              replace hx238_2 := cb_ HB hx238_2
              replace hx238_3 := cb_ HB hx238_3
              replace hx238_4 := cb_ HB hx238_4
              replace hx238_5 := cb_ HB hx238_5
              replace p238 := eq_true p238
              replace q238 := eq_true q238
              refine start_ (n := 48) (S := fun w' => w'.cell? ⟨gb233, 0, none⟩ = some (.bool true) ∧ w'.cell? ⟨gb233, 1, none⟩ = some (.string ((rd_T86 l0 x3_1).f1)) ∧ w'.cell? ⟨gb233, 2, none⟩ = some (.string ((rd_T86 l0 x3_1).f2)) ∧ w'.cell? ⟨gb233, 3, none⟩ = some (.int .i64 ((rd_T86 l0 x3_1).f3)) ∧ w'.cell? ⟨gb233, 4, none⟩ = some (.int .i64 ((rd_T86 l0 x3_1).f4.f0)) ∧ w'.cell? ⟨gb233, 5, none⟩ = some (.int .i64 ((rd_T86 l0 x3_1).f4.f1)) ∧ w'.cell? (ad232.add (((ji15)).toNat * 6)) = some (.bool ((rd_T86 l0 (ji15)).f0)) ∧ w'.cell? ⟨(ad232.add (((ji15)).toNat * 6)).block, (ad232.add (((ji15)).toNat * 6)).off + 1, none⟩ = some (.string ((rd_T86 l0 (ji15)).f1)) ∧ w'.cell? ⟨(ad232.add (((ji15)).toNat * 6)).block, (ad232.add (((ji15)).toNat * 6)).off + 2, none⟩ = some (.string ((rd_T86 l0 (ji15)).f2)) ∧ w'.cell? ⟨(ad232.add (((ji15)).toNat * 6)).block, (ad232.add (((ji15)).toNat * 6)).off + 3, none⟩ = some (.int .i64 ((rd_T86 l0 (ji15)).f3)) ∧ w'.cell? ⟨(ad232.add (((ji15)).toNat * 6)).block, (ad232.add (((ji15)).toNat * 6)).off + 4, none⟩ = some (.int .i64 ((rd_T86 l0 (ji15)).f4.f0)) ∧ w'.cell? ⟨(ad232.add (((ji15)).toNat * 6)).block, (ad232.add (((ji15)).toNat * 6)).off + 5, none⟩ = some (.int .i64 ((rd_T86 l0 (ji15)).f4.f1))) (ds := []) mk8_0 z8_2 rfl rfl ⟨bc_ BK233 0, bc_ BK233 1, bc_ BK233 2, bc_ BK233 3, bc_ BK233 4, bc_ BK233 5, (cb_ HB hw238_0), (cb_ HB hw238_1), (cb_ HB hw238_2), (cb_ HB hw238_3), (cb_ HB hw238_4), (cb_ HB hw238_5)⟩ (fun hHeld => ?_); refine with_tabW spec_l06Lives.tab5 spec_l06Lives.bits5 (fun HT_ HW_ => ?_)
              generalize w28.drew = w29 at BK233 HB hx238_0 hx238_1 hx238_2 hx238_3 hx238_4 hx238_5 hHeld ⊢
              refine p_ (i := 0) (N := some 15) mk8_1 ?_
              refine t_ (i := 1) (N := some 16) mk8_2 hHeld ?_ (hv := by rintro w' ⟨s0, s1, s2, s3, s4, s5, s6, s7, s8, s9, s10, s11⟩; go_simp; with_reducible rfl)
              refine o_ (i := 2) (N := some 17) mk8_3 (fun K hK => ?_)
              refine goes_ Try.func104 z8_2 rfl #[.agg #[.int .i64 ((rd_T86 l0 x3_1).f4.f0), .int .i64 ((rd_T86 l0 x3_1).f4.f1)]] (by rfl) rfl rfl z8_5 ?_
              with_reducible refine (spec_DotOk.calls ((rd_T86 l0 x3_1).f4.f0) ((rd_T86 l0 x3_1).f4.f1) true _ A4.out).mono ?_
              rintro e w30 ⟨rfl, hb⟩
              refine ⟨_, rfl, ?_⟩
              replace BK233 := Aside0.mk (blk_below (g := gb233) (o := .cells #[.bool true, .string ((rd_T86 l0 x3_1).f1), .string ((rd_T86 l0 x3_1).f2), .int .i64 ((rd_T86 l0 x3_1).f3), .int .i64 ((rd_T86 l0 x3_1).f4.f0), .int .i64 ((rd_T86 l0 x3_1).f4.f1)] 86 (0, 0)) z8_7 hb)
              replace HB := Aside0.mk (below_step z8_0 hb)
              (try clear hb)
              (try clear hb2)
              (try clear hk)
              (try clear hi)
              refine hK.out _ _ ⟨bc_ BK233 0, bc_ BK233 1, bc_ BK233 2, bc_ BK233 3, bc_ BK233 4, bc_ BK233 5, (cb_ HB hw238_0), (cb_ HB hw238_1), (cb_ HB hw238_2), (cb_ HB hw238_3), (cb_ HB hw238_4), (cb_ HB hw238_5)⟩ (fun hHeld => ?_)
              clear hK K
              refine n_ ?_
              refine p_ (i := 3) (N := some 18) mk8_4 ?_
              refine p_ (i := 4) (N := some 19) mk8_5 ?_
              refine p_ (i := 5) (N := some 20) mk8_6 ?_
              refine t_ (i := 6) (N := some 21) mk8_7 hHeld ?_ (hv := by rintro w' ⟨s0, s1, s2, s3, s4, s5, s6, s7, s8, s9, s10, s11⟩; go_simp; with_reducible rfl)
              refine o_ (i := 7) (N := some 22) mk8_8 (fun K hK => ?_)
              refine goes_ Try.func103 z8_2 rfl #[.string ((rd_T86 l0 x3_1).f1)] (by rfl) rfl rfl z8_5 ?_
              with_reducible refine (spec_NameOk.calls k1 ((rd_T86 l0 x3_1).f1) true _ A6.out).mono ?_
              rintro e w' ⟨rfl, ⟨nd, rfl⟩⟩
              refine ⟨_, rfl, ?_⟩
              refine hK.out _ _ ⟨bc_ BK233 0, bc_ BK233 1, bc_ BK233 2, bc_ BK233 3, bc_ BK233 4, bc_ BK233 5, (cb_ HB hw238_0), (cb_ HB hw238_1), (cb_ HB hw238_2), (cb_ HB hw238_3), (cb_ HB hw238_4), (cb_ HB hw238_5)⟩ (fun hHeld => ?_)
              clear hK K
              refine n_ ?_
              refine p_ (i := 8) (N := some 23) mk8_9 ?_
              refine p_ (i := 9) (N := some 24) mk8_10 ?_
              refine p_ (i := 10) (N := some 25) mk8_11 ?_
              refine p_ (i := 11) (N := some 26) mk8_12 ?_
              refine t_ (i := 12) (N := some 27) mk8_13 hHeld ?_ (hv := by rintro w' ⟨s0, s1, s2, s3, s4, s5, s6, s7, s8, s9, s10, s11⟩; go_simp; with_reducible rfl)
              refine o_ (i := 13) (N := some 28) mk8_14 (fun K hK => ?_)
              refine goes_ Try.func103 z8_2 rfl #[.string ((rd_T86 l0 x3_1).f2)] (by rfl) rfl rfl z8_5 ?_
              with_reducible refine (spec_NameOk.calls k1 ((rd_T86 l0 x3_1).f2) true _ A8.out).mono ?_
              rintro e w' ⟨rfl, ⟨nd, rfl⟩⟩
              refine ⟨_, rfl, ?_⟩
              refine hK.out _ _ ⟨bc_ BK233 0, bc_ BK233 1, bc_ BK233 2, bc_ BK233 3, bc_ BK233 4, bc_ BK233 5, (cb_ HB hw238_0), (cb_ HB hw238_1), (cb_ HB hw238_2), (cb_ HB hw238_3), (cb_ HB hw238_4), (cb_ HB hw238_5)⟩ (fun hHeld => ?_)
              clear hK K
              refine n_ ?_
              refine p_ (i := 14) (N := some 29) mk8_15 ?_
              refine p_ (i := 15) (N := some 30) mk8_16 ?_
              refine p_ (i := 16) (N := some 31) mk8_17 ?_
              refine p_ (i := 17) (N := some 32) mk8_18 ?_
              refine t_ (i := 18) (N := some 33) mk8_19 hHeld ?_ (hv := by rintro w' ⟨s0, s1, s2, s3, s4, s5, s6, s7, s8, s9, s10, s11⟩; go_simp; with_reducible rfl)
              refine o_ (i := 19) (N := some 34) mk8_20 (fun K hK => ?_)
              refine goes_ Try.func102 z8_2 rfl #[.int .i64 ((rd_T86 l0 x3_1).f3), .int .i64 0, .int .i64 999999] (by rfl) rfl rfl z8_5 ?_
              with_reducible refine (spec_l01In.calls ((rd_T86 l0 x3_1).f3) 0 999999 true _ A10.out).mono ?_
              rintro e w' ⟨rfl, ⟨nd, rfl⟩⟩
              refine ⟨_, rfl, ?_⟩
              refine hK.out _ _ ⟨bc_ BK233 0, bc_ BK233 1, bc_ BK233 2, bc_ BK233 3, bc_ BK233 4, bc_ BK233 5, (cb_ HB hw238_0), (cb_ HB hw238_1), (cb_ HB hw238_2), (cb_ HB hw238_3), (cb_ HB hw238_4), (cb_ HB hw238_5)⟩ (fun hHeld => ?_)
              clear hK K
              refine n_ ?_
              refine p_ (i := 20) (N := some 35) mk8_21 ?_
              refine p_ (i := 21) (N := some 36) mk8_22 ?_
              refine p_ (i := 22) (N := some 37) mk8_23 ?_
              refine p_ (i := 23) (N := some 38) mk8_24 ?_
              refine t_ (i := 24) (N := some 39) mk8_25 hHeld ?_ (hv := by rintro w' ⟨s0, s1, s2, s3, s4, s5, s6, s7, s8, s9, s10, s11⟩; go_simp; with_reducible rfl)
              refine p_ (i := 25) (N := some 40) mk8_26 ?_
              refine p_ (i := 26) (N := some 41) mk8_27 ?_
              refine u_ (i := 27) (N := some 42) mk8_28 ?_
              refine u_ (i := 28) (N := some 43) mk8_29 ?_
              refine u_ (i := 29) (N := some 44) mk8_30 ?_
              refine p_ (i := 30) (N := some 45) mk8_31 ?_
              refine p_ (i := 31) (N := some 46) mk8_32 ?_
              refine p_ (i := 32) (N := some 47) mk8_33 ?_
              refine p_ (i := 33) (N := some 48) mk8_34 ?_
              refine p_ (i := 34) (N := some 49) mk8_35 ?_
              refine p_ (i := 35) (N := some 50) mk8_36 ?_
              refine p_ (i := 36) (N := some 51) mk8_37 ?_
              refine p_ (i := 37) (N := some 52) mk8_38 ?_
              refine p_ (i := 38) (N := some 53) mk8_39 ?_
              refine p_ (i := 39) (N := some 54) mk8_40 ?_
              refine p_ (i := 40) (N := some 55) mk8_41 ?_
              refine p_ (i := 42) (N := some 57) mk8_42 ?_
              refine t_ (i := 41) (N := some 56) mk8_43 hHeld ?_ (hv := by rintro w' ⟨s0, s1, s2, s3, s4, s5, s6, s7, s8, s9, s10, s11⟩; go_simp; with_reducible rfl)
              refine t_ (i := 43) (N := some 58) mk8_44 hHeld ?_ (hv := by rintro w' ⟨s0, s1, s2, s3, s4, s5, s6, s7, s8, s9, s10, s11⟩; go_simp; with_reducible rfl)
              refine o_ (i := 44) (N := some 59) mk8_45 (fun K hK => ?_)
              refine goes_ Try.func105 z8_2 rfl #[.agg #[.int .i64 ((rd_T86 l0 (ji15)).f4.f0), .int .i64 ((rd_T86 l0 (ji15)).f4.f1)], .agg #[.int .i64 ((rd_T86 l0 x3_1).f4.f0), .int .i64 ((rd_T86 l0 x3_1).f4.f1)]] (by rfl) rfl rfl z8_12 ?_
              with_reducible refine (spec_l06Before.calls ((rd_T86 l0 (ji15)).f4.f0) ((rd_T86 l0 (ji15)).f4.f1) ((rd_T86 l0 x3_1).f4.f0) ((rd_T86 l0 x3_1).f4.f1) false _ A18.out).mono ?_
              rintro e w31 ⟨rfl, hb⟩
              refine ⟨_, rfl, ?_⟩
              replace BK233 := Aside0.mk (blk_below (g := gb233) (o := .cells #[.bool true, .string ((rd_T86 l0 x3_1).f1), .string ((rd_T86 l0 x3_1).f2), .int .i64 ((rd_T86 l0 x3_1).f3), .int .i64 ((rd_T86 l0 x3_1).f4.f0), .int .i64 ((rd_T86 l0 x3_1).f4.f1)] 86 (0, 0)) z8_7 hb)
              replace HB := Aside0.mk (below_step z8_0 hb)
              (try clear hb)
              (try clear hb2)
              (try clear hk)
              (try clear hi)
              refine hK.out _ _ ⟨bc_ BK233 0, bc_ BK233 1, bc_ BK233 2, bc_ BK233 3, bc_ BK233 4, bc_ BK233 5, (cb_ HB hw238_0), (cb_ HB hw238_1), (cb_ HB hw238_2), (cb_ HB hw238_3), (cb_ HB hw238_4), (cb_ HB hw238_5)⟩ (fun hHeld => ?_)
              clear hK K
              refine n_ ?_
              refine p_ (i := 45) (N := some 60) mk8_46 ?_
              refine p_ (i := 46) (N := some 61) mk8_47 ?_
              refine p_ (i := 47) (N := some 62) mk8_48 ?_
              refine done_ (done_of HT_.out z8_2) ?_
              try go_wp2
              go_ret
              exact ⟨by first | rfl | (simp [errW_none, errW_some] <;> rfl) | (simp only [← hji15]; first | rfl | (simp [errW_none, errW_some] <;> rfl)) | (simp [*, errW_none, errW_some] <;> rfl), z8_0⟩
            ·
             rw [if_neg c17] at H
             exact absurd H (by simp)
           ·
            rw [if_neg c16] at H
            exact absurd H (by simp)
          ·
           rw [if_neg c14] at H
           have c14b0 : decide (0 < x3_1) = false := decide_eq_false c14
           clear c14
           have H' := Aside0.mk H
           clear H
           have p232 : 0 ≤ (x3_1 : Int) := of_decide_eq_true z8_8
           have q232 : x3_1 < (l0.length : Int) := of_decide_eq_true z8_8
           obtain ⟨ad232, e232, hx232_0, hx232_1, hx232_2, hx232_3, hx232_4, hx232_5⟩ := at_T86 HR0.out x3_1 p232 q232
           (try rw [← Nbq12.out] at hx232_0)
           cases e232
           replace hx232_0 := cb_ HB hx232_0
           replace hx232_1 := cb_ HB hx232_1
           replace hx232_2 := cb_ HB hx232_2
           replace hx232_3 := cb_ HB hx232_3
           replace hx232_4 := cb_ HB hx232_4
           replace hx232_5 := cb_ HB hx232_5
           replace p232 := eq_true p232
           replace q232 := eq_true q232
           try go_wp2_with (first | ((with_reducible refine gate_dst (N := 4) rfl ?_); refine box_event ?hg (N := 4) ?hd (cs := #[.bool false, .string (⟨#[]⟩ : ByteArray), .string (⟨#[]⟩ : ByteArray), .int .i64 0, .int .i64 0, .int .i64 0]) (t := 86) ?hr ?_; (case hd => rfl); (case hg => rfl); (case hr => first | (go_simp; done) | (go_simp; rfl)); intro gb233 hg w32 hbox hb; have BK233 := Aside0.mk (hbox); have GW233 := gw_ w z8_4 hg; have GE233 := gw_ w z8_4 hg; replace HB := Aside0.mk (below_step z8_4 hb); clear hb hbox hg; obtain ⟨hcz33_0, hcz33_1, hcz33_2, hcz33_3, hcz33_4, hcz33_5, hfz33_0, hfz33_1, hfz33_2, hfz33_3, hfz33_4, hfz33_5⟩ := bc6 BK233.out))
           have n0_ : Aside0 (((((((w32.setCell ⟨gb233, 0, none⟩ (.bool true)).setCell ⟨gb233, 1, none⟩ (.string ((rd_T86 l0 x3_1).f1))).setCell ⟨gb233, 2, none⟩ (.string ((rd_T86 l0 x3_1).f2))).setCell ⟨gb233, 3, none⟩ (.int .i64 ((rd_T86 l0 x3_1).f3))).setCell ⟨gb233, 4, none⟩ (.int .i64 ((rd_T86 l0 x3_1).f4.f0))).setCell ⟨gb233, 5, none⟩ (.int .i64 ((rd_T86 l0 x3_1).f4.f1))).heap[gb233]? = some (.cells #[.bool true, .string ((rd_T86 l0 x3_1).f1), .string ((rd_T86 l0 x3_1).f2), .int .i64 ((rd_T86 l0 x3_1).f3), .int .i64 ((rd_T86 l0 x3_1).f4.f0), .int .i64 ((rd_T86 l0 x3_1).f4.f1)] 86 (0, 0))) := ⟨z8_6⟩
           have n1_ : Aside0 (Below w.heap.size w ((((((w32.setCell ⟨gb233, 0, none⟩ (.bool true)).setCell ⟨gb233, 1, none⟩ (.string ((rd_T86 l0 x3_1).f1))).setCell ⟨gb233, 2, none⟩ (.string ((rd_T86 l0 x3_1).f2))).setCell ⟨gb233, 3, none⟩ (.int .i64 ((rd_T86 l0 x3_1).f3))).setCell ⟨gb233, 4, none⟩ (.int .i64 ((rd_T86 l0 x3_1).f4.f0))).setCell ⟨gb233, 5, none⟩ (.int .i64 ((rd_T86 l0 x3_1).f4.f1)))) := ⟨z8_0⟩
           (try clear BK233)
           (try clear HB)
           generalize ((((((w32.setCell ⟨gb233, 0, none⟩ (.bool true)).setCell ⟨gb233, 1, none⟩ (.string ((rd_T86 l0 x3_1).f1))).setCell ⟨gb233, 2, none⟩ (.string ((rd_T86 l0 x3_1).f2))).setCell ⟨gb233, 3, none⟩ (.int .i64 ((rd_T86 l0 x3_1).f3))).setCell ⟨gb233, 4, none⟩ (.int .i64 ((rd_T86 l0 x3_1).f4.f0))).setCell ⟨gb233, 5, none⟩ (.int .i64 ((rd_T86 l0 x3_1).f4.f1))) = w34 at n0_ n1_ ⊢
           have BK233 := n0_
           have HB := n1_
           clear n0_ n1_
           replace BK233 := Aside0.mk (blk_drew BK233.out)
           replace HB := Aside0.mk (below_drew1 HB.out)
           refine start_ (n := 48) (S := fun w' => w'.cell? ⟨gb233, 0, none⟩ = some (.bool true) ∧ w'.cell? ⟨gb233, 1, none⟩ = some (.string ((rd_T86 l0 x3_1).f1)) ∧ w'.cell? ⟨gb233, 2, none⟩ = some (.string ((rd_T86 l0 x3_1).f2)) ∧ w'.cell? ⟨gb233, 3, none⟩ = some (.int .i64 ((rd_T86 l0 x3_1).f3)) ∧ w'.cell? ⟨gb233, 4, none⟩ = some (.int .i64 ((rd_T86 l0 x3_1).f4.f0)) ∧ w'.cell? ⟨gb233, 5, none⟩ = some (.int .i64 ((rd_T86 l0 x3_1).f4.f1))) (ds := []) mk8_0 z8_2 rfl rfl ⟨bc_ BK233 0, bc_ BK233 1, bc_ BK233 2, bc_ BK233 3, bc_ BK233 4, bc_ BK233 5⟩ (fun hHeld => ?_); refine with_tabW spec_l06Lives.tab5 spec_l06Lives.bits5 (fun HT_ HW_ => ?_)
           generalize w34.drew = w35 at BK233 HB hHeld ⊢
           refine p_ (i := 0) (N := some 15) mk8_1 ?_
           refine t_ (i := 1) (N := some 16) mk8_2 hHeld ?_ (hv := by rintro w' ⟨s0, s1, s2, s3, s4, s5⟩; go_simp; with_reducible rfl)
           refine o_ (i := 2) (N := some 17) mk8_3 (fun K hK => ?_)
           refine goes_ Try.func104 z8_2 rfl #[.agg #[.int .i64 ((rd_T86 l0 x3_1).f4.f0), .int .i64 ((rd_T86 l0 x3_1).f4.f1)]] (by rfl) rfl rfl z8_5 ?_
           with_reducible refine (spec_DotOk.calls ((rd_T86 l0 x3_1).f4.f0) ((rd_T86 l0 x3_1).f4.f1) true _ A4.out).mono ?_
           rintro e w36 ⟨rfl, hb⟩
           refine ⟨_, rfl, ?_⟩
           replace BK233 := Aside0.mk (blk_below (g := gb233) (o := .cells #[.bool true, .string ((rd_T86 l0 x3_1).f1), .string ((rd_T86 l0 x3_1).f2), .int .i64 ((rd_T86 l0 x3_1).f3), .int .i64 ((rd_T86 l0 x3_1).f4.f0), .int .i64 ((rd_T86 l0 x3_1).f4.f1)] 86 (0, 0)) z8_7 hb)
           replace HB := Aside0.mk (below_step z8_0 hb)
           (try clear hb)
           (try clear hb2)
           (try clear hk)
           (try clear hi)
           refine hK.out _ _ ⟨bc_ BK233 0, bc_ BK233 1, bc_ BK233 2, bc_ BK233 3, bc_ BK233 4, bc_ BK233 5⟩ (fun hHeld => ?_)
           clear hK K
           refine n_ ?_
           refine p_ (i := 3) (N := some 18) mk8_4 ?_
           refine p_ (i := 4) (N := some 19) mk8_5 ?_
           refine p_ (i := 5) (N := some 20) mk8_6 ?_
           refine t_ (i := 6) (N := some 21) mk8_7 hHeld ?_ (hv := by rintro w' ⟨s0, s1, s2, s3, s4, s5⟩; go_simp; with_reducible rfl)
           refine o_ (i := 7) (N := some 22) mk8_8 (fun K hK => ?_)
           refine goes_ Try.func103 z8_2 rfl #[.string ((rd_T86 l0 x3_1).f1)] (by rfl) rfl rfl z8_5 ?_
           with_reducible refine (spec_NameOk.calls k1 ((rd_T86 l0 x3_1).f1) true _ A6.out).mono ?_
           rintro e w' ⟨rfl, ⟨nd, rfl⟩⟩
           refine ⟨_, rfl, ?_⟩
           refine hK.out _ _ ⟨bc_ BK233 0, bc_ BK233 1, bc_ BK233 2, bc_ BK233 3, bc_ BK233 4, bc_ BK233 5⟩ (fun hHeld => ?_)
           clear hK K
           refine n_ ?_
           refine p_ (i := 8) (N := some 23) mk8_9 ?_
           refine p_ (i := 9) (N := some 24) mk8_10 ?_
           refine p_ (i := 10) (N := some 25) mk8_11 ?_
           refine p_ (i := 11) (N := some 26) mk8_12 ?_
           refine t_ (i := 12) (N := some 27) mk8_13 hHeld ?_ (hv := by rintro w' ⟨s0, s1, s2, s3, s4, s5⟩; go_simp; with_reducible rfl)
           refine o_ (i := 13) (N := some 28) mk8_14 (fun K hK => ?_)
           refine goes_ Try.func103 z8_2 rfl #[.string ((rd_T86 l0 x3_1).f2)] (by rfl) rfl rfl z8_5 ?_
           with_reducible refine (spec_NameOk.calls k1 ((rd_T86 l0 x3_1).f2) true _ A8.out).mono ?_
           rintro e w' ⟨rfl, ⟨nd, rfl⟩⟩
           refine ⟨_, rfl, ?_⟩
           refine hK.out _ _ ⟨bc_ BK233 0, bc_ BK233 1, bc_ BK233 2, bc_ BK233 3, bc_ BK233 4, bc_ BK233 5⟩ (fun hHeld => ?_)
           clear hK K
           refine n_ ?_
           refine p_ (i := 14) (N := some 29) mk8_15 ?_
           refine p_ (i := 15) (N := some 30) mk8_16 ?_
           refine p_ (i := 16) (N := some 31) mk8_17 ?_
           refine p_ (i := 17) (N := some 32) mk8_18 ?_
           refine t_ (i := 18) (N := some 33) mk8_19 hHeld ?_ (hv := by rintro w' ⟨s0, s1, s2, s3, s4, s5⟩; go_simp; with_reducible rfl)
           refine o_ (i := 19) (N := some 34) mk8_20 (fun K hK => ?_)
           refine goes_ Try.func102 z8_2 rfl #[.int .i64 ((rd_T86 l0 x3_1).f3), .int .i64 0, .int .i64 999999] (by rfl) rfl rfl z8_5 ?_
           with_reducible refine (spec_l01In.calls ((rd_T86 l0 x3_1).f3) 0 999999 true _ A10.out).mono ?_
           rintro e w' ⟨rfl, ⟨nd, rfl⟩⟩
           refine ⟨_, rfl, ?_⟩
           refine hK.out _ _ ⟨bc_ BK233 0, bc_ BK233 1, bc_ BK233 2, bc_ BK233 3, bc_ BK233 4, bc_ BK233 5⟩ (fun hHeld => ?_)
           clear hK K
           refine n_ ?_
           refine p_ (i := 20) (N := some 35) mk8_21 ?_
           refine p_ (i := 21) (N := some 36) mk8_22 ?_
           refine p_ (i := 22) (N := some 37) mk8_23 ?_
           refine p_ (i := 23) (N := some 38) mk8_24 ?_
           refine t_ (i := 24) (N := some 39) mk8_25 hHeld ?_ (hv := by rintro w' ⟨s0, s1, s2, s3, s4, s5⟩; go_simp; with_reducible rfl)
           refine p_ (i := 25) (N := some 40) mk8_26 ?_
           refine p_ (i := 26) (N := some 41) mk8_27 ?_
           refine u_ (i := 27) (N := some 42) mk8_28 ?_
           refine u_ (i := 28) (N := some 43) mk8_29 ?_
           refine u_ (i := 29) (N := some 44) mk8_30 ?_
           refine p_ (i := 30) (N := some 45) mk8_31 ?_
           refine p_ (i := 31) (N := some 46) mk8_32 ?_
           refine p_ (i := 32) (N := some 47) mk8_33 ?_
           refine p_ (i := 33) (N := some 48) mk8_34 ?_
           refine p_ (i := 34) (N := some 49) mk8_35 ?_
           refine p_ (i := 35) (N := some 50) mk8_36 ?_
           refine u_ (i := 36) (N := some 51) mk8_37 ?_
           refine u_ (i := 37) (N := some 52) mk8_38 ?_
           refine u_ (i := 38) (N := some 53) mk8_39 ?_
           refine u_ (i := 39) (N := some 54) mk8_40 ?_
           refine u_ (i := 40) (N := some 55) mk8_41 ?_
           refine u_ (i := 41) (N := some 56) mk8_49 ?_
           refine u_ (i := 42) (N := some 57) mk8_43 ?_
           refine u_ (i := 43) (N := some 58) mk8_44 ?_
           refine u_ (i := 44) (N := some 59) mk8_45 ?_
           refine u_ (i := 45) (N := some 60) mk8_46 ?_
           refine p_ (i := 46) (N := some 61) mk8_47 ?_
           refine p_ (i := 47) (N := some 62) mk8_48 ?_
           refine done_ (done_of HT_.out z8_2) ?_
           try go_wp2
           go_roundg k1
           case measure => have := HK1.out; omega
           case rel => exact ⟨(wrap64 (x3_1 + 1)), z8_10, H', ⟨by have := HK1.out; omega⟩, ⟨z8_0⟩⟩
         ·
          replace c13 := Bool.eq_false_iff.mpr c13
          subst c13
          rw [if_neg (show ¬ (false = true) by decide)] at H
          by_cases c37 : ((rd_T86 l0 x3_1).f3) = 0
          ·
           rw [if_pos c37] at H
           have c37b0 : (((rd_T86 l0 x3_1).f3) == 0) = true := beq_iff_eq.mpr c37
           have c37b1 : (((rd_T86 l0 x3_1).f3) != 0) = false := bne_eq_false_iff_eq.mpr c37
           clear c37
           by_cases c38 : x3_1 > 0
           ·
            rw [if_pos c38] at H
            have c38b0 : decide (0 < x3_1) = true := decide_eq_true c38
            clear c38
            obtain ⟨ji39, hji39⟩ : ∃ j_ : Int, (wrap64 (x3_1 - 1)) = j_ := ⟨_, rfl⟩
            replace H : (if 0 ≤ (ji39) then (if (ji39) < (l0.length : Int) then ((spec_l06Before.f ((rd_T86 l0 (ji39)).f4.f0) ((rd_T86 l0 (ji39)).f4.f1) ((rd_T86 l0 x3_1).f4.f0) ((rd_T86 l0 x3_1).f4.f1)).bind fun t241 => (if t241 = true then (spec_l06Lives.l0 k1 l0 (wrap64 (x3_1 + 1))) else (some false))) else (none)) else (none)) = some r := by first | (rw [hji39] at H; exact H) | (simp only [hji39] at H ⊢; exact H)
            (try rw [hji39] at A4)
            (try rw [hji39] at A6)
            (try rw [hji39] at A8)
            (try rw [hji39] at A10)
            have hji39w : (IntKind.i64.wrap (x3_1 - 1)) = ji39 := (i64_w _).trans hji39
            by_cases c40 : 0 ≤ (ji39)
            ·
             rw [if_pos c40] at H
             have c40b0 : decide (0 ≤ (ji39)) = true := decide_eq_true c40
             clear c40
             by_cases c41 : (ji39) < (l0.length : Int)
             ·
              rw [if_pos c41] at H
              have c41b0 : decide ((ji39) < (l0.length : Int)) = true := decide_eq_true c41
              clear c41
              replace H := Option.bind_eq_some_iff.mp H
              obtain ⟨t241, A420, H⟩ := H
              (try dsimp only at H)
              have A42 := Aside0.mk A420
              clear A420
              by_cases c43 : t241 = true
              ·
               subst c43
               rw [if_pos rfl] at H
               have H' := Aside0.mk H
               clear H
               have p232 : 0 ≤ (x3_1 : Int) := of_decide_eq_true z8_8
               have q232 : x3_1 < (l0.length : Int) := of_decide_eq_true z8_8
               obtain ⟨ad232, e232, hx232_0, hx232_1, hx232_2, hx232_3, hx232_4, hx232_5⟩ := at_T86 HR0.out x3_1 p232 q232
               (try rw [← Nbq12.out] at hx232_0)
               cases e232
               replace hx232_0 := cb_ HB hx232_0
               replace hx232_1 := cb_ HB hx232_1
               replace hx232_2 := cb_ HB hx232_2
               replace hx232_3 := cb_ HB hx232_3
               replace hx232_4 := cb_ HB hx232_4
               replace hx232_5 := cb_ HB hx232_5
               replace p232 := eq_true p232
               replace q232 := eq_true q232
               try go_wp2_with (first | ((with_reducible refine gate_dst (N := 4) rfl ?_); refine box_event ?hg (N := 4) ?hd (cs := #[.bool false, .string (⟨#[]⟩ : ByteArray), .string (⟨#[]⟩ : ByteArray), .int .i64 0, .int .i64 0, .int .i64 0]) (t := 86) ?hr ?_; (case hd => rfl); (case hg => rfl); (case hr => first | (go_simp; done) | (go_simp; rfl)); intro gb233 hg w44 hbox hb; have BK233 := Aside0.mk (hbox); have GW233 := gw_ w z8_4 hg; have GE233 := gw_ w z8_4 hg; replace HB := Aside0.mk (below_step z8_4 hb); clear hb hbox hg; obtain ⟨hcz45_0, hcz45_1, hcz45_2, hcz45_3, hcz45_4, hcz45_5, hfz45_0, hfz45_1, hfz45_2, hfz45_3, hfz45_4, hfz45_5⟩ := bc6 BK233.out))
               have n0_ : Aside0 (((((((w44.setCell ⟨gb233, 0, none⟩ (.bool false)).setCell ⟨gb233, 1, none⟩ (.string ((rd_T86 l0 x3_1).f1))).setCell ⟨gb233, 2, none⟩ (.string ((rd_T86 l0 x3_1).f2))).setCell ⟨gb233, 3, none⟩ (.int .i64 ((rd_T86 l0 x3_1).f3))).setCell ⟨gb233, 4, none⟩ (.int .i64 ((rd_T86 l0 x3_1).f4.f0))).setCell ⟨gb233, 5, none⟩ (.int .i64 ((rd_T86 l0 x3_1).f4.f1))).heap[gb233]? = some (.cells #[.bool false, .string ((rd_T86 l0 x3_1).f1), .string ((rd_T86 l0 x3_1).f2), .int .i64 ((rd_T86 l0 x3_1).f3), .int .i64 ((rd_T86 l0 x3_1).f4.f0), .int .i64 ((rd_T86 l0 x3_1).f4.f1)] 86 (0, 0))) := ⟨z8_3⟩
               have n1_ : Aside0 (Below w.heap.size w ((((((w44.setCell ⟨gb233, 0, none⟩ (.bool false)).setCell ⟨gb233, 1, none⟩ (.string ((rd_T86 l0 x3_1).f1))).setCell ⟨gb233, 2, none⟩ (.string ((rd_T86 l0 x3_1).f2))).setCell ⟨gb233, 3, none⟩ (.int .i64 ((rd_T86 l0 x3_1).f3))).setCell ⟨gb233, 4, none⟩ (.int .i64 ((rd_T86 l0 x3_1).f4.f0))).setCell ⟨gb233, 5, none⟩ (.int .i64 ((rd_T86 l0 x3_1).f4.f1)))) := ⟨z8_0⟩
               (try clear BK233)
               (try clear HB)
               generalize ((((((w44.setCell ⟨gb233, 0, none⟩ (.bool false)).setCell ⟨gb233, 1, none⟩ (.string ((rd_T86 l0 x3_1).f1))).setCell ⟨gb233, 2, none⟩ (.string ((rd_T86 l0 x3_1).f2))).setCell ⟨gb233, 3, none⟩ (.int .i64 ((rd_T86 l0 x3_1).f3))).setCell ⟨gb233, 4, none⟩ (.int .i64 ((rd_T86 l0 x3_1).f4.f0))).setCell ⟨gb233, 5, none⟩ (.int .i64 ((rd_T86 l0 x3_1).f4.f1))) = w46 at n0_ n1_ ⊢
               have BK233 := n0_
               have HB := n1_
               clear n0_ n1_
               replace BK233 := Aside0.mk (blk_drew BK233.out)
               replace HB := Aside0.mk (below_drew1 HB.out)
               have p240 : 0 ≤ ((ji39) : Int) := of_decide_eq_true z8_8
               have q240 : (ji39) < (l0.length : Int) := of_decide_eq_true z8_8
               obtain ⟨ad240, e240, hx240_0, hx240_1, hx240_2, hx240_3, hx240_4, hx240_5⟩ := at_T86 HR0.out (ji39) p240 q240
               have hw240_5 := hx240_5
               have hw240_4 := hx240_4
               have hw240_3 := hx240_3
               have hw240_2 := hx240_2
               have hw240_1 := hx240_1
               have hw240_0 := hx240_0
               (try rw [← Nbq12.out] at hx240_0)
               obtain rfl : ad232 = ad240 := (by injection e240)
               replace hx240_0 := cb_ HB hx240_0
               replace hx240_1 := cb_ HB hx240_1
               replace hx240_2 := cb_ HB hx240_2
               replace hx240_3 := cb_ HB hx240_3
               replace hx240_4 := cb_ HB hx240_4
               replace hx240_5 := cb_ HB hx240_5
               replace p240 := eq_true p240
               replace q240 := eq_true q240
               refine start_ (n := 48) (S := fun w' => w'.cell? ⟨gb233, 0, none⟩ = some (.bool false) ∧ w'.cell? ⟨gb233, 1, none⟩ = some (.string ((rd_T86 l0 x3_1).f1)) ∧ w'.cell? ⟨gb233, 2, none⟩ = some (.string ((rd_T86 l0 x3_1).f2)) ∧ w'.cell? ⟨gb233, 3, none⟩ = some (.int .i64 ((rd_T86 l0 x3_1).f3)) ∧ w'.cell? ⟨gb233, 4, none⟩ = some (.int .i64 ((rd_T86 l0 x3_1).f4.f0)) ∧ w'.cell? ⟨gb233, 5, none⟩ = some (.int .i64 ((rd_T86 l0 x3_1).f4.f1)) ∧ w'.cell? (ad232.add (((ji39)).toNat * 6)) = some (.bool ((rd_T86 l0 (ji39)).f0)) ∧ w'.cell? ⟨(ad232.add (((ji39)).toNat * 6)).block, (ad232.add (((ji39)).toNat * 6)).off + 1, none⟩ = some (.string ((rd_T86 l0 (ji39)).f1)) ∧ w'.cell? ⟨(ad232.add (((ji39)).toNat * 6)).block, (ad232.add (((ji39)).toNat * 6)).off + 2, none⟩ = some (.string ((rd_T86 l0 (ji39)).f2)) ∧ w'.cell? ⟨(ad232.add (((ji39)).toNat * 6)).block, (ad232.add (((ji39)).toNat * 6)).off + 3, none⟩ = some (.int .i64 ((rd_T86 l0 (ji39)).f3)) ∧ w'.cell? ⟨(ad232.add (((ji39)).toNat * 6)).block, (ad232.add (((ji39)).toNat * 6)).off + 4, none⟩ = some (.int .i64 ((rd_T86 l0 (ji39)).f4.f0)) ∧ w'.cell? ⟨(ad232.add (((ji39)).toNat * 6)).block, (ad232.add (((ji39)).toNat * 6)).off + 5, none⟩ = some (.int .i64 ((rd_T86 l0 (ji39)).f4.f1))) (ds := []) mk8_0 z8_2 rfl rfl ⟨bc_ BK233 0, bc_ BK233 1, bc_ BK233 2, bc_ BK233 3, bc_ BK233 4, bc_ BK233 5, (cb_ HB hw240_0), (cb_ HB hw240_1), (cb_ HB hw240_2), (cb_ HB hw240_3), (cb_ HB hw240_4), (cb_ HB hw240_5)⟩ (fun hHeld => ?_); refine with_tabW spec_l06Lives.tab5 spec_l06Lives.bits5 (fun HT_ HW_ => ?_)
               generalize w46.drew = w47 at BK233 HB hx240_0 hx240_1 hx240_2 hx240_3 hx240_4 hx240_5 hHeld ⊢
               refine p_ (i := 0) (N := some 15) mk8_1 ?_
               refine t_ (i := 1) (N := some 16) mk8_2 hHeld ?_ (hv := by rintro w' ⟨s0, s1, s2, s3, s4, s5, s6, s7, s8, s9, s10, s11⟩; go_simp; with_reducible rfl)
               refine o_ (i := 2) (N := some 17) mk8_3 (fun K hK => ?_)
               refine goes_ Try.func104 z8_2 rfl #[.agg #[.int .i64 ((rd_T86 l0 x3_1).f4.f0), .int .i64 ((rd_T86 l0 x3_1).f4.f1)]] (by rfl) rfl rfl z8_5 ?_
               with_reducible refine (spec_DotOk.calls ((rd_T86 l0 x3_1).f4.f0) ((rd_T86 l0 x3_1).f4.f1) true _ A4.out).mono ?_
               rintro e w48 ⟨rfl, hb⟩
               refine ⟨_, rfl, ?_⟩
               replace BK233 := Aside0.mk (blk_below (g := gb233) (o := .cells #[.bool false, .string ((rd_T86 l0 x3_1).f1), .string ((rd_T86 l0 x3_1).f2), .int .i64 ((rd_T86 l0 x3_1).f3), .int .i64 ((rd_T86 l0 x3_1).f4.f0), .int .i64 ((rd_T86 l0 x3_1).f4.f1)] 86 (0, 0)) z8_7 hb)
               replace HB := Aside0.mk (below_step z8_0 hb)
               (try clear hb)
               (try clear hb2)
               (try clear hk)
               (try clear hi)
               refine hK.out _ _ ⟨bc_ BK233 0, bc_ BK233 1, bc_ BK233 2, bc_ BK233 3, bc_ BK233 4, bc_ BK233 5, (cb_ HB hw240_0), (cb_ HB hw240_1), (cb_ HB hw240_2), (cb_ HB hw240_3), (cb_ HB hw240_4), (cb_ HB hw240_5)⟩ (fun hHeld => ?_)
               clear hK K
               refine n_ ?_
               refine p_ (i := 3) (N := some 18) mk8_4 ?_
               refine p_ (i := 4) (N := some 19) mk8_5 ?_
               refine p_ (i := 5) (N := some 20) mk8_6 ?_
               refine t_ (i := 6) (N := some 21) mk8_7 hHeld ?_ (hv := by rintro w' ⟨s0, s1, s2, s3, s4, s5, s6, s7, s8, s9, s10, s11⟩; go_simp; with_reducible rfl)
               refine o_ (i := 7) (N := some 22) mk8_8 (fun K hK => ?_)
               refine goes_ Try.func103 z8_2 rfl #[.string ((rd_T86 l0 x3_1).f1)] (by rfl) rfl rfl z8_5 ?_
               with_reducible refine (spec_NameOk.calls k1 ((rd_T86 l0 x3_1).f1) true _ A6.out).mono ?_
               rintro e w' ⟨rfl, ⟨nd, rfl⟩⟩
               refine ⟨_, rfl, ?_⟩
               refine hK.out _ _ ⟨bc_ BK233 0, bc_ BK233 1, bc_ BK233 2, bc_ BK233 3, bc_ BK233 4, bc_ BK233 5, (cb_ HB hw240_0), (cb_ HB hw240_1), (cb_ HB hw240_2), (cb_ HB hw240_3), (cb_ HB hw240_4), (cb_ HB hw240_5)⟩ (fun hHeld => ?_)
               clear hK K
               refine n_ ?_
               refine p_ (i := 8) (N := some 23) mk8_9 ?_
               refine p_ (i := 9) (N := some 24) mk8_10 ?_
               refine p_ (i := 10) (N := some 25) mk8_11 ?_
               refine p_ (i := 11) (N := some 26) mk8_12 ?_
               refine t_ (i := 12) (N := some 27) mk8_13 hHeld ?_ (hv := by rintro w' ⟨s0, s1, s2, s3, s4, s5, s6, s7, s8, s9, s10, s11⟩; go_simp; with_reducible rfl)
               refine o_ (i := 13) (N := some 28) mk8_14 (fun K hK => ?_)
               refine goes_ Try.func103 z8_2 rfl #[.string ((rd_T86 l0 x3_1).f2)] (by rfl) rfl rfl z8_5 ?_
               with_reducible refine (spec_NameOk.calls k1 ((rd_T86 l0 x3_1).f2) true _ A8.out).mono ?_
               rintro e w' ⟨rfl, ⟨nd, rfl⟩⟩
               refine ⟨_, rfl, ?_⟩
               refine hK.out _ _ ⟨bc_ BK233 0, bc_ BK233 1, bc_ BK233 2, bc_ BK233 3, bc_ BK233 4, bc_ BK233 5, (cb_ HB hw240_0), (cb_ HB hw240_1), (cb_ HB hw240_2), (cb_ HB hw240_3), (cb_ HB hw240_4), (cb_ HB hw240_5)⟩ (fun hHeld => ?_)
               clear hK K
               refine n_ ?_
               refine p_ (i := 14) (N := some 29) mk8_15 ?_
               refine p_ (i := 15) (N := some 30) mk8_16 ?_
               refine p_ (i := 16) (N := some 31) mk8_17 ?_
               refine p_ (i := 17) (N := some 32) mk8_18 ?_
               refine t_ (i := 18) (N := some 33) mk8_19 hHeld ?_ (hv := by rintro w' ⟨s0, s1, s2, s3, s4, s5, s6, s7, s8, s9, s10, s11⟩; go_simp; with_reducible rfl)
               refine o_ (i := 19) (N := some 34) mk8_20 (fun K hK => ?_)
               refine goes_ Try.func102 z8_2 rfl #[.int .i64 ((rd_T86 l0 x3_1).f3), .int .i64 0, .int .i64 999999] (by rfl) rfl rfl z8_5 ?_
               with_reducible refine (spec_l01In.calls ((rd_T86 l0 x3_1).f3) 0 999999 true _ A10.out).mono ?_
               rintro e w' ⟨rfl, ⟨nd, rfl⟩⟩
               refine ⟨_, rfl, ?_⟩
               refine hK.out _ _ ⟨bc_ BK233 0, bc_ BK233 1, bc_ BK233 2, bc_ BK233 3, bc_ BK233 4, bc_ BK233 5, (cb_ HB hw240_0), (cb_ HB hw240_1), (cb_ HB hw240_2), (cb_ HB hw240_3), (cb_ HB hw240_4), (cb_ HB hw240_5)⟩ (fun hHeld => ?_)
               clear hK K
               refine n_ ?_
               refine p_ (i := 20) (N := some 35) mk8_21 ?_
               refine p_ (i := 21) (N := some 36) mk8_22 ?_
               refine p_ (i := 22) (N := some 37) mk8_23 ?_
               refine p_ (i := 23) (N := some 38) mk8_24 ?_
               refine t_ (i := 24) (N := some 39) mk8_25 hHeld ?_ (hv := by rintro w' ⟨s0, s1, s2, s3, s4, s5, s6, s7, s8, s9, s10, s11⟩; go_simp; with_reducible rfl)
               refine p_ (i := 25) (N := some 40) mk8_26 ?_
               refine p_ (i := 26) (N := some 41) mk8_27 ?_
               refine p_ (i := 27) (N := some 42) mk8_28 ?_
               refine t_ (i := 28) (N := some 43) mk8_29 hHeld ?_ (hv := by rintro w' ⟨s0, s1, s2, s3, s4, s5, s6, s7, s8, s9, s10, s11⟩; go_simp; with_reducible rfl)
               refine p_ (i := 29) (N := some 44) mk8_30 ?_
               refine p_ (i := 30) (N := some 45) mk8_31 ?_
               refine p_ (i := 31) (N := some 46) mk8_32 ?_
               refine p_ (i := 32) (N := some 47) mk8_33 ?_
               refine p_ (i := 33) (N := some 48) mk8_34 ?_
               refine p_ (i := 34) (N := some 49) mk8_35 ?_
               refine p_ (i := 35) (N := some 50) mk8_36 ?_
               refine p_ (i := 36) (N := some 51) mk8_37 ?_
               refine p_ (i := 37) (N := some 52) mk8_38 ?_
               refine p_ (i := 38) (N := some 53) mk8_39 ?_
               refine p_ (i := 39) (N := some 54) mk8_40 ?_
               refine p_ (i := 40) (N := some 55) mk8_41 ?_
               refine p_ (i := 42) (N := some 57) mk8_42 ?_
               refine t_ (i := 41) (N := some 56) mk8_43 hHeld ?_ (hv := by rintro w' ⟨s0, s1, s2, s3, s4, s5, s6, s7, s8, s9, s10, s11⟩; go_simp; with_reducible rfl)
               refine t_ (i := 43) (N := some 58) mk8_44 hHeld ?_ (hv := by rintro w' ⟨s0, s1, s2, s3, s4, s5, s6, s7, s8, s9, s10, s11⟩; go_simp; with_reducible rfl)
               refine o_ (i := 44) (N := some 59) mk8_45 (fun K hK => ?_)
               refine goes_ Try.func105 z8_2 rfl #[.agg #[.int .i64 ((rd_T86 l0 (ji39)).f4.f0), .int .i64 ((rd_T86 l0 (ji39)).f4.f1)], .agg #[.int .i64 ((rd_T86 l0 x3_1).f4.f0), .int .i64 ((rd_T86 l0 x3_1).f4.f1)]] (by rfl) rfl rfl z8_11 ?_
               with_reducible refine (spec_l06Before.calls ((rd_T86 l0 (ji39)).f4.f0) ((rd_T86 l0 (ji39)).f4.f1) ((rd_T86 l0 x3_1).f4.f0) ((rd_T86 l0 x3_1).f4.f1) true _ A42.out).mono ?_
               rintro e w49 ⟨rfl, hb⟩
               refine ⟨_, rfl, ?_⟩
               replace BK233 := Aside0.mk (blk_below (g := gb233) (o := .cells #[.bool false, .string ((rd_T86 l0 x3_1).f1), .string ((rd_T86 l0 x3_1).f2), .int .i64 ((rd_T86 l0 x3_1).f3), .int .i64 ((rd_T86 l0 x3_1).f4.f0), .int .i64 ((rd_T86 l0 x3_1).f4.f1)] 86 (0, 0)) z8_7 hb)
               replace HB := Aside0.mk (below_step z8_0 hb)
               (try clear hb)
               (try clear hb2)
               (try clear hk)
               (try clear hi)
               refine hK.out _ _ ⟨bc_ BK233 0, bc_ BK233 1, bc_ BK233 2, bc_ BK233 3, bc_ BK233 4, bc_ BK233 5, (cb_ HB hw240_0), (cb_ HB hw240_1), (cb_ HB hw240_2), (cb_ HB hw240_3), (cb_ HB hw240_4), (cb_ HB hw240_5)⟩ (fun hHeld => ?_)
               clear hK K
               refine n_ ?_
               refine p_ (i := 45) (N := some 60) mk8_46 ?_
               refine p_ (i := 46) (N := some 61) mk8_47 ?_
               refine p_ (i := 47) (N := some 62) mk8_48 ?_
               refine done_ (done_of HT_.out z8_2) ?_
               try go_wp2
               go_roundg k1
               case measure => have := HK1.out; omega
               case rel => exact ⟨(wrap64 (x3_1 + 1)), z8_10, H', ⟨by have := HK1.out; omega⟩, ⟨z8_0⟩⟩
              ·
               replace c43 := Bool.eq_false_iff.mpr c43
               subst c43
               rw [if_neg (show ¬ (false = true) by decide)] at H
               obtain rfl := Option.some.inj H
               have p232 : 0 ≤ (x3_1 : Int) := of_decide_eq_true z8_8
               have q232 : x3_1 < (l0.length : Int) := of_decide_eq_true z8_8
               obtain ⟨ad232, e232, hx232_0, hx232_1, hx232_2, hx232_3, hx232_4, hx232_5⟩ := at_T86 HR0.out x3_1 p232 q232
               (try rw [← Nbq12.out] at hx232_0)
               cases e232
               replace hx232_0 := cb_ HB hx232_0
               replace hx232_1 := cb_ HB hx232_1
               replace hx232_2 := cb_ HB hx232_2
               replace hx232_3 := cb_ HB hx232_3
               replace hx232_4 := cb_ HB hx232_4
               replace hx232_5 := cb_ HB hx232_5
               replace p232 := eq_true p232
               replace q232 := eq_true q232
               try go_wp2_with (first | ((with_reducible refine gate_dst (N := 4) rfl ?_); refine box_event ?hg (N := 4) ?hd (cs := #[.bool false, .string (⟨#[]⟩ : ByteArray), .string (⟨#[]⟩ : ByteArray), .int .i64 0, .int .i64 0, .int .i64 0]) (t := 86) ?hr ?_; (case hd => rfl); (case hg => rfl); (case hr => first | (go_simp; done) | (go_simp; rfl)); intro gb233 hg w50 hbox hb; have BK233 := Aside0.mk (hbox); have GW233 := gw_ w z8_4 hg; have GE233 := gw_ w z8_4 hg; replace HB := Aside0.mk (below_step z8_4 hb); clear hb hbox hg; obtain ⟨hcz51_0, hcz51_1, hcz51_2, hcz51_3, hcz51_4, hcz51_5, hfz51_0, hfz51_1, hfz51_2, hfz51_3, hfz51_4, hfz51_5⟩ := bc6 BK233.out))
               have n0_ : Aside0 (((((((w50.setCell ⟨gb233, 0, none⟩ (.bool false)).setCell ⟨gb233, 1, none⟩ (.string ((rd_T86 l0 x3_1).f1))).setCell ⟨gb233, 2, none⟩ (.string ((rd_T86 l0 x3_1).f2))).setCell ⟨gb233, 3, none⟩ (.int .i64 ((rd_T86 l0 x3_1).f3))).setCell ⟨gb233, 4, none⟩ (.int .i64 ((rd_T86 l0 x3_1).f4.f0))).setCell ⟨gb233, 5, none⟩ (.int .i64 ((rd_T86 l0 x3_1).f4.f1))).heap[gb233]? = some (.cells #[.bool false, .string ((rd_T86 l0 x3_1).f1), .string ((rd_T86 l0 x3_1).f2), .int .i64 ((rd_T86 l0 x3_1).f3), .int .i64 ((rd_T86 l0 x3_1).f4.f0), .int .i64 ((rd_T86 l0 x3_1).f4.f1)] 86 (0, 0))) := ⟨z8_3⟩
               have n1_ : Aside0 (Below w.heap.size w ((((((w50.setCell ⟨gb233, 0, none⟩ (.bool false)).setCell ⟨gb233, 1, none⟩ (.string ((rd_T86 l0 x3_1).f1))).setCell ⟨gb233, 2, none⟩ (.string ((rd_T86 l0 x3_1).f2))).setCell ⟨gb233, 3, none⟩ (.int .i64 ((rd_T86 l0 x3_1).f3))).setCell ⟨gb233, 4, none⟩ (.int .i64 ((rd_T86 l0 x3_1).f4.f0))).setCell ⟨gb233, 5, none⟩ (.int .i64 ((rd_T86 l0 x3_1).f4.f1)))) := ⟨z8_0⟩
               (try clear BK233)
               (try clear HB)
               generalize ((((((w50.setCell ⟨gb233, 0, none⟩ (.bool false)).setCell ⟨gb233, 1, none⟩ (.string ((rd_T86 l0 x3_1).f1))).setCell ⟨gb233, 2, none⟩ (.string ((rd_T86 l0 x3_1).f2))).setCell ⟨gb233, 3, none⟩ (.int .i64 ((rd_T86 l0 x3_1).f3))).setCell ⟨gb233, 4, none⟩ (.int .i64 ((rd_T86 l0 x3_1).f4.f0))).setCell ⟨gb233, 5, none⟩ (.int .i64 ((rd_T86 l0 x3_1).f4.f1))) = w52 at n0_ n1_ ⊢
               have BK233 := n0_
               have HB := n1_
               clear n0_ n1_
               replace BK233 := Aside0.mk (blk_drew BK233.out)
               replace HB := Aside0.mk (below_drew1 HB.out)
               have p240 : 0 ≤ ((ji39) : Int) := of_decide_eq_true z8_8
               have q240 : (ji39) < (l0.length : Int) := of_decide_eq_true z8_8
               obtain ⟨ad240, e240, hx240_0, hx240_1, hx240_2, hx240_3, hx240_4, hx240_5⟩ := at_T86 HR0.out (ji39) p240 q240
               have hw240_5 := hx240_5
               have hw240_4 := hx240_4
               have hw240_3 := hx240_3
               have hw240_2 := hx240_2
               have hw240_1 := hx240_1
               have hw240_0 := hx240_0
               (try rw [← Nbq12.out] at hx240_0)
               obtain rfl : ad232 = ad240 := (by injection e240)
               replace hx240_0 := cb_ HB hx240_0
               replace hx240_1 := cb_ HB hx240_1
               replace hx240_2 := cb_ HB hx240_2
               replace hx240_3 := cb_ HB hx240_3
               replace hx240_4 := cb_ HB hx240_4
               replace hx240_5 := cb_ HB hx240_5
               replace p240 := eq_true p240
               replace q240 := eq_true q240
               refine start_ (n := 48) (S := fun w' => w'.cell? ⟨gb233, 0, none⟩ = some (.bool false) ∧ w'.cell? ⟨gb233, 1, none⟩ = some (.string ((rd_T86 l0 x3_1).f1)) ∧ w'.cell? ⟨gb233, 2, none⟩ = some (.string ((rd_T86 l0 x3_1).f2)) ∧ w'.cell? ⟨gb233, 3, none⟩ = some (.int .i64 ((rd_T86 l0 x3_1).f3)) ∧ w'.cell? ⟨gb233, 4, none⟩ = some (.int .i64 ((rd_T86 l0 x3_1).f4.f0)) ∧ w'.cell? ⟨gb233, 5, none⟩ = some (.int .i64 ((rd_T86 l0 x3_1).f4.f1)) ∧ w'.cell? (ad232.add (((ji39)).toNat * 6)) = some (.bool ((rd_T86 l0 (ji39)).f0)) ∧ w'.cell? ⟨(ad232.add (((ji39)).toNat * 6)).block, (ad232.add (((ji39)).toNat * 6)).off + 1, none⟩ = some (.string ((rd_T86 l0 (ji39)).f1)) ∧ w'.cell? ⟨(ad232.add (((ji39)).toNat * 6)).block, (ad232.add (((ji39)).toNat * 6)).off + 2, none⟩ = some (.string ((rd_T86 l0 (ji39)).f2)) ∧ w'.cell? ⟨(ad232.add (((ji39)).toNat * 6)).block, (ad232.add (((ji39)).toNat * 6)).off + 3, none⟩ = some (.int .i64 ((rd_T86 l0 (ji39)).f3)) ∧ w'.cell? ⟨(ad232.add (((ji39)).toNat * 6)).block, (ad232.add (((ji39)).toNat * 6)).off + 4, none⟩ = some (.int .i64 ((rd_T86 l0 (ji39)).f4.f0)) ∧ w'.cell? ⟨(ad232.add (((ji39)).toNat * 6)).block, (ad232.add (((ji39)).toNat * 6)).off + 5, none⟩ = some (.int .i64 ((rd_T86 l0 (ji39)).f4.f1))) (ds := []) mk8_0 z8_2 rfl rfl ⟨bc_ BK233 0, bc_ BK233 1, bc_ BK233 2, bc_ BK233 3, bc_ BK233 4, bc_ BK233 5, (cb_ HB hw240_0), (cb_ HB hw240_1), (cb_ HB hw240_2), (cb_ HB hw240_3), (cb_ HB hw240_4), (cb_ HB hw240_5)⟩ (fun hHeld => ?_); refine with_tabW spec_l06Lives.tab5 spec_l06Lives.bits5 (fun HT_ HW_ => ?_)
               generalize w52.drew = w53 at BK233 HB hx240_0 hx240_1 hx240_2 hx240_3 hx240_4 hx240_5 hHeld ⊢
               refine p_ (i := 0) (N := some 15) mk8_1 ?_
               refine t_ (i := 1) (N := some 16) mk8_2 hHeld ?_ (hv := by rintro w' ⟨s0, s1, s2, s3, s4, s5, s6, s7, s8, s9, s10, s11⟩; go_simp; with_reducible rfl)
               refine o_ (i := 2) (N := some 17) mk8_3 (fun K hK => ?_)
               refine goes_ Try.func104 z8_2 rfl #[.agg #[.int .i64 ((rd_T86 l0 x3_1).f4.f0), .int .i64 ((rd_T86 l0 x3_1).f4.f1)]] (by rfl) rfl rfl z8_5 ?_
               with_reducible refine (spec_DotOk.calls ((rd_T86 l0 x3_1).f4.f0) ((rd_T86 l0 x3_1).f4.f1) true _ A4.out).mono ?_
               rintro e w54 ⟨rfl, hb⟩
               refine ⟨_, rfl, ?_⟩
               replace BK233 := Aside0.mk (blk_below (g := gb233) (o := .cells #[.bool false, .string ((rd_T86 l0 x3_1).f1), .string ((rd_T86 l0 x3_1).f2), .int .i64 ((rd_T86 l0 x3_1).f3), .int .i64 ((rd_T86 l0 x3_1).f4.f0), .int .i64 ((rd_T86 l0 x3_1).f4.f1)] 86 (0, 0)) z8_7 hb)
               replace HB := Aside0.mk (below_step z8_0 hb)
               (try clear hb)
               (try clear hb2)
               (try clear hk)
               (try clear hi)
               refine hK.out _ _ ⟨bc_ BK233 0, bc_ BK233 1, bc_ BK233 2, bc_ BK233 3, bc_ BK233 4, bc_ BK233 5, (cb_ HB hw240_0), (cb_ HB hw240_1), (cb_ HB hw240_2), (cb_ HB hw240_3), (cb_ HB hw240_4), (cb_ HB hw240_5)⟩ (fun hHeld => ?_)
               clear hK K
               refine n_ ?_
               refine p_ (i := 3) (N := some 18) mk8_4 ?_
               refine p_ (i := 4) (N := some 19) mk8_5 ?_
               refine p_ (i := 5) (N := some 20) mk8_6 ?_
               refine t_ (i := 6) (N := some 21) mk8_7 hHeld ?_ (hv := by rintro w' ⟨s0, s1, s2, s3, s4, s5, s6, s7, s8, s9, s10, s11⟩; go_simp; with_reducible rfl)
               refine o_ (i := 7) (N := some 22) mk8_8 (fun K hK => ?_)
               refine goes_ Try.func103 z8_2 rfl #[.string ((rd_T86 l0 x3_1).f1)] (by rfl) rfl rfl z8_5 ?_
               with_reducible refine (spec_NameOk.calls k1 ((rd_T86 l0 x3_1).f1) true _ A6.out).mono ?_
               rintro e w' ⟨rfl, ⟨nd, rfl⟩⟩
               refine ⟨_, rfl, ?_⟩
               refine hK.out _ _ ⟨bc_ BK233 0, bc_ BK233 1, bc_ BK233 2, bc_ BK233 3, bc_ BK233 4, bc_ BK233 5, (cb_ HB hw240_0), (cb_ HB hw240_1), (cb_ HB hw240_2), (cb_ HB hw240_3), (cb_ HB hw240_4), (cb_ HB hw240_5)⟩ (fun hHeld => ?_)
               clear hK K
               refine n_ ?_
               refine p_ (i := 8) (N := some 23) mk8_9 ?_
               refine p_ (i := 9) (N := some 24) mk8_10 ?_
               refine p_ (i := 10) (N := some 25) mk8_11 ?_
               refine p_ (i := 11) (N := some 26) mk8_12 ?_
               refine t_ (i := 12) (N := some 27) mk8_13 hHeld ?_ (hv := by rintro w' ⟨s0, s1, s2, s3, s4, s5, s6, s7, s8, s9, s10, s11⟩; go_simp; with_reducible rfl)
               refine o_ (i := 13) (N := some 28) mk8_14 (fun K hK => ?_)
               refine goes_ Try.func103 z8_2 rfl #[.string ((rd_T86 l0 x3_1).f2)] (by rfl) rfl rfl z8_5 ?_
               with_reducible refine (spec_NameOk.calls k1 ((rd_T86 l0 x3_1).f2) true _ A8.out).mono ?_
               rintro e w' ⟨rfl, ⟨nd, rfl⟩⟩
               refine ⟨_, rfl, ?_⟩
               refine hK.out _ _ ⟨bc_ BK233 0, bc_ BK233 1, bc_ BK233 2, bc_ BK233 3, bc_ BK233 4, bc_ BK233 5, (cb_ HB hw240_0), (cb_ HB hw240_1), (cb_ HB hw240_2), (cb_ HB hw240_3), (cb_ HB hw240_4), (cb_ HB hw240_5)⟩ (fun hHeld => ?_)
               clear hK K
               refine n_ ?_
               refine p_ (i := 14) (N := some 29) mk8_15 ?_
               refine p_ (i := 15) (N := some 30) mk8_16 ?_
               refine p_ (i := 16) (N := some 31) mk8_17 ?_
               refine p_ (i := 17) (N := some 32) mk8_18 ?_
               refine t_ (i := 18) (N := some 33) mk8_19 hHeld ?_ (hv := by rintro w' ⟨s0, s1, s2, s3, s4, s5, s6, s7, s8, s9, s10, s11⟩; go_simp; with_reducible rfl)
               refine o_ (i := 19) (N := some 34) mk8_20 (fun K hK => ?_)
               refine goes_ Try.func102 z8_2 rfl #[.int .i64 ((rd_T86 l0 x3_1).f3), .int .i64 0, .int .i64 999999] (by rfl) rfl rfl z8_5 ?_
               with_reducible refine (spec_l01In.calls ((rd_T86 l0 x3_1).f3) 0 999999 true _ A10.out).mono ?_
               rintro e w' ⟨rfl, ⟨nd, rfl⟩⟩
               refine ⟨_, rfl, ?_⟩
               refine hK.out _ _ ⟨bc_ BK233 0, bc_ BK233 1, bc_ BK233 2, bc_ BK233 3, bc_ BK233 4, bc_ BK233 5, (cb_ HB hw240_0), (cb_ HB hw240_1), (cb_ HB hw240_2), (cb_ HB hw240_3), (cb_ HB hw240_4), (cb_ HB hw240_5)⟩ (fun hHeld => ?_)
               clear hK K
               refine n_ ?_
               refine p_ (i := 20) (N := some 35) mk8_21 ?_
               refine p_ (i := 21) (N := some 36) mk8_22 ?_
               refine p_ (i := 22) (N := some 37) mk8_23 ?_
               refine p_ (i := 23) (N := some 38) mk8_24 ?_
               refine t_ (i := 24) (N := some 39) mk8_25 hHeld ?_ (hv := by rintro w' ⟨s0, s1, s2, s3, s4, s5, s6, s7, s8, s9, s10, s11⟩; go_simp; with_reducible rfl)
               refine p_ (i := 25) (N := some 40) mk8_26 ?_
               refine p_ (i := 26) (N := some 41) mk8_27 ?_
               refine p_ (i := 27) (N := some 42) mk8_28 ?_
               refine t_ (i := 28) (N := some 43) mk8_29 hHeld ?_ (hv := by rintro w' ⟨s0, s1, s2, s3, s4, s5, s6, s7, s8, s9, s10, s11⟩; go_simp; with_reducible rfl)
               refine p_ (i := 29) (N := some 44) mk8_30 ?_
               refine p_ (i := 30) (N := some 45) mk8_31 ?_
               refine p_ (i := 31) (N := some 46) mk8_32 ?_
               refine p_ (i := 32) (N := some 47) mk8_33 ?_
               refine p_ (i := 33) (N := some 48) mk8_34 ?_
               refine p_ (i := 34) (N := some 49) mk8_35 ?_
               refine p_ (i := 35) (N := some 50) mk8_36 ?_
               refine p_ (i := 36) (N := some 51) mk8_37 ?_
               refine p_ (i := 37) (N := some 52) mk8_38 ?_
               refine p_ (i := 38) (N := some 53) mk8_39 ?_
               refine p_ (i := 39) (N := some 54) mk8_40 ?_
               refine p_ (i := 40) (N := some 55) mk8_41 ?_
               refine p_ (i := 42) (N := some 57) mk8_42 ?_
               refine t_ (i := 41) (N := some 56) mk8_43 hHeld ?_ (hv := by rintro w' ⟨s0, s1, s2, s3, s4, s5, s6, s7, s8, s9, s10, s11⟩; go_simp; with_reducible rfl)
               refine t_ (i := 43) (N := some 58) mk8_44 hHeld ?_ (hv := by rintro w' ⟨s0, s1, s2, s3, s4, s5, s6, s7, s8, s9, s10, s11⟩; go_simp; with_reducible rfl)
               refine o_ (i := 44) (N := some 59) mk8_45 (fun K hK => ?_)
               refine goes_ Try.func105 z8_2 rfl #[.agg #[.int .i64 ((rd_T86 l0 (ji39)).f4.f0), .int .i64 ((rd_T86 l0 (ji39)).f4.f1)], .agg #[.int .i64 ((rd_T86 l0 x3_1).f4.f0), .int .i64 ((rd_T86 l0 x3_1).f4.f1)]] (by rfl) rfl rfl z8_11 ?_
               with_reducible refine (spec_l06Before.calls ((rd_T86 l0 (ji39)).f4.f0) ((rd_T86 l0 (ji39)).f4.f1) ((rd_T86 l0 x3_1).f4.f0) ((rd_T86 l0 x3_1).f4.f1) false _ A42.out).mono ?_
               rintro e w55 ⟨rfl, hb⟩
               refine ⟨_, rfl, ?_⟩
               replace BK233 := Aside0.mk (blk_below (g := gb233) (o := .cells #[.bool false, .string ((rd_T86 l0 x3_1).f1), .string ((rd_T86 l0 x3_1).f2), .int .i64 ((rd_T86 l0 x3_1).f3), .int .i64 ((rd_T86 l0 x3_1).f4.f0), .int .i64 ((rd_T86 l0 x3_1).f4.f1)] 86 (0, 0)) z8_7 hb)
               replace HB := Aside0.mk (below_step z8_0 hb)
               (try clear hb)
               (try clear hb2)
               (try clear hk)
               (try clear hi)
               refine hK.out _ _ ⟨bc_ BK233 0, bc_ BK233 1, bc_ BK233 2, bc_ BK233 3, bc_ BK233 4, bc_ BK233 5, (cb_ HB hw240_0), (cb_ HB hw240_1), (cb_ HB hw240_2), (cb_ HB hw240_3), (cb_ HB hw240_4), (cb_ HB hw240_5)⟩ (fun hHeld => ?_)
               clear hK K
               refine n_ ?_
               refine p_ (i := 45) (N := some 60) mk8_46 ?_
               refine p_ (i := 46) (N := some 61) mk8_47 ?_
               refine p_ (i := 47) (N := some 62) mk8_48 ?_
               refine done_ (done_of HT_.out z8_2) ?_
               try go_wp2
               go_ret
               exact ⟨by first | rfl | (simp [errW_none, errW_some] <;> rfl) | (simp only [← hji39]; first | rfl | (simp [errW_none, errW_some] <;> rfl)) | (simp [*, errW_none, errW_some] <;> rfl), z8_0⟩
             ·
              rw [if_neg c41] at H
              exact absurd H (by simp)
            ·
             rw [if_neg c40] at H
             exact absurd H (by simp)
           ·
            rw [if_neg c38] at H
            have c38b0 : decide (0 < x3_1) = false := decide_eq_false c38
            clear c38
            have H' := Aside0.mk H
            clear H
            have p232 : 0 ≤ (x3_1 : Int) := of_decide_eq_true z8_8
            have q232 : x3_1 < (l0.length : Int) := of_decide_eq_true z8_8
            obtain ⟨ad232, e232, hx232_0, hx232_1, hx232_2, hx232_3, hx232_4, hx232_5⟩ := at_T86 HR0.out x3_1 p232 q232
            (try rw [← Nbq12.out] at hx232_0)
            cases e232
            replace hx232_0 := cb_ HB hx232_0
            replace hx232_1 := cb_ HB hx232_1
            replace hx232_2 := cb_ HB hx232_2
            replace hx232_3 := cb_ HB hx232_3
            replace hx232_4 := cb_ HB hx232_4
            replace hx232_5 := cb_ HB hx232_5
            replace p232 := eq_true p232
            replace q232 := eq_true q232
            try go_wp2_with (first | ((with_reducible refine gate_dst (N := 4) rfl ?_); refine box_event ?hg (N := 4) ?hd (cs := #[.bool false, .string (⟨#[]⟩ : ByteArray), .string (⟨#[]⟩ : ByteArray), .int .i64 0, .int .i64 0, .int .i64 0]) (t := 86) ?hr ?_; (case hd => rfl); (case hg => rfl); (case hr => first | (go_simp; done) | (go_simp; rfl)); intro gb233 hg w56 hbox hb; have BK233 := Aside0.mk (hbox); have GW233 := gw_ w z8_4 hg; have GE233 := gw_ w z8_4 hg; replace HB := Aside0.mk (below_step z8_4 hb); clear hb hbox hg; obtain ⟨hcz57_0, hcz57_1, hcz57_2, hcz57_3, hcz57_4, hcz57_5, hfz57_0, hfz57_1, hfz57_2, hfz57_3, hfz57_4, hfz57_5⟩ := bc6 BK233.out))
            have n0_ : Aside0 (((((((w56.setCell ⟨gb233, 0, none⟩ (.bool false)).setCell ⟨gb233, 1, none⟩ (.string ((rd_T86 l0 x3_1).f1))).setCell ⟨gb233, 2, none⟩ (.string ((rd_T86 l0 x3_1).f2))).setCell ⟨gb233, 3, none⟩ (.int .i64 ((rd_T86 l0 x3_1).f3))).setCell ⟨gb233, 4, none⟩ (.int .i64 ((rd_T86 l0 x3_1).f4.f0))).setCell ⟨gb233, 5, none⟩ (.int .i64 ((rd_T86 l0 x3_1).f4.f1))).heap[gb233]? = some (.cells #[.bool false, .string ((rd_T86 l0 x3_1).f1), .string ((rd_T86 l0 x3_1).f2), .int .i64 ((rd_T86 l0 x3_1).f3), .int .i64 ((rd_T86 l0 x3_1).f4.f0), .int .i64 ((rd_T86 l0 x3_1).f4.f1)] 86 (0, 0))) := ⟨z8_3⟩
            have n1_ : Aside0 (Below w.heap.size w ((((((w56.setCell ⟨gb233, 0, none⟩ (.bool false)).setCell ⟨gb233, 1, none⟩ (.string ((rd_T86 l0 x3_1).f1))).setCell ⟨gb233, 2, none⟩ (.string ((rd_T86 l0 x3_1).f2))).setCell ⟨gb233, 3, none⟩ (.int .i64 ((rd_T86 l0 x3_1).f3))).setCell ⟨gb233, 4, none⟩ (.int .i64 ((rd_T86 l0 x3_1).f4.f0))).setCell ⟨gb233, 5, none⟩ (.int .i64 ((rd_T86 l0 x3_1).f4.f1)))) := ⟨z8_0⟩
            (try clear BK233)
            (try clear HB)
            generalize ((((((w56.setCell ⟨gb233, 0, none⟩ (.bool false)).setCell ⟨gb233, 1, none⟩ (.string ((rd_T86 l0 x3_1).f1))).setCell ⟨gb233, 2, none⟩ (.string ((rd_T86 l0 x3_1).f2))).setCell ⟨gb233, 3, none⟩ (.int .i64 ((rd_T86 l0 x3_1).f3))).setCell ⟨gb233, 4, none⟩ (.int .i64 ((rd_T86 l0 x3_1).f4.f0))).setCell ⟨gb233, 5, none⟩ (.int .i64 ((rd_T86 l0 x3_1).f4.f1))) = w58 at n0_ n1_ ⊢
            have BK233 := n0_
            have HB := n1_
            clear n0_ n1_
            replace BK233 := Aside0.mk (blk_drew BK233.out)
            replace HB := Aside0.mk (below_drew1 HB.out)
            refine start_ (n := 48) (S := fun w' => w'.cell? ⟨gb233, 0, none⟩ = some (.bool false) ∧ w'.cell? ⟨gb233, 1, none⟩ = some (.string ((rd_T86 l0 x3_1).f1)) ∧ w'.cell? ⟨gb233, 2, none⟩ = some (.string ((rd_T86 l0 x3_1).f2)) ∧ w'.cell? ⟨gb233, 3, none⟩ = some (.int .i64 ((rd_T86 l0 x3_1).f3)) ∧ w'.cell? ⟨gb233, 4, none⟩ = some (.int .i64 ((rd_T86 l0 x3_1).f4.f0)) ∧ w'.cell? ⟨gb233, 5, none⟩ = some (.int .i64 ((rd_T86 l0 x3_1).f4.f1))) (ds := []) mk8_0 z8_2 rfl rfl ⟨bc_ BK233 0, bc_ BK233 1, bc_ BK233 2, bc_ BK233 3, bc_ BK233 4, bc_ BK233 5⟩ (fun hHeld => ?_); refine with_tabW spec_l06Lives.tab5 spec_l06Lives.bits5 (fun HT_ HW_ => ?_)
            generalize w58.drew = w59 at BK233 HB hHeld ⊢
            refine p_ (i := 0) (N := some 15) mk8_1 ?_
            refine t_ (i := 1) (N := some 16) mk8_2 hHeld ?_ (hv := by rintro w' ⟨s0, s1, s2, s3, s4, s5⟩; go_simp; with_reducible rfl)
            refine o_ (i := 2) (N := some 17) mk8_3 (fun K hK => ?_)
            refine goes_ Try.func104 z8_2 rfl #[.agg #[.int .i64 ((rd_T86 l0 x3_1).f4.f0), .int .i64 ((rd_T86 l0 x3_1).f4.f1)]] (by rfl) rfl rfl z8_5 ?_
            with_reducible refine (spec_DotOk.calls ((rd_T86 l0 x3_1).f4.f0) ((rd_T86 l0 x3_1).f4.f1) true _ A4.out).mono ?_
            rintro e w60 ⟨rfl, hb⟩
            refine ⟨_, rfl, ?_⟩
            replace BK233 := Aside0.mk (blk_below (g := gb233) (o := .cells #[.bool false, .string ((rd_T86 l0 x3_1).f1), .string ((rd_T86 l0 x3_1).f2), .int .i64 ((rd_T86 l0 x3_1).f3), .int .i64 ((rd_T86 l0 x3_1).f4.f0), .int .i64 ((rd_T86 l0 x3_1).f4.f1)] 86 (0, 0)) z8_7 hb)
            replace HB := Aside0.mk (below_step z8_0 hb)
            (try clear hb)
            (try clear hb2)
            (try clear hk)
            (try clear hi)
            refine hK.out _ _ ⟨bc_ BK233 0, bc_ BK233 1, bc_ BK233 2, bc_ BK233 3, bc_ BK233 4, bc_ BK233 5⟩ (fun hHeld => ?_)
            clear hK K
            refine n_ ?_
            refine p_ (i := 3) (N := some 18) mk8_4 ?_
            refine p_ (i := 4) (N := some 19) mk8_5 ?_
            refine p_ (i := 5) (N := some 20) mk8_6 ?_
            refine t_ (i := 6) (N := some 21) mk8_7 hHeld ?_ (hv := by rintro w' ⟨s0, s1, s2, s3, s4, s5⟩; go_simp; with_reducible rfl)
            refine o_ (i := 7) (N := some 22) mk8_8 (fun K hK => ?_)
            refine goes_ Try.func103 z8_2 rfl #[.string ((rd_T86 l0 x3_1).f1)] (by rfl) rfl rfl z8_5 ?_
            with_reducible refine (spec_NameOk.calls k1 ((rd_T86 l0 x3_1).f1) true _ A6.out).mono ?_
            rintro e w' ⟨rfl, ⟨nd, rfl⟩⟩
            refine ⟨_, rfl, ?_⟩
            refine hK.out _ _ ⟨bc_ BK233 0, bc_ BK233 1, bc_ BK233 2, bc_ BK233 3, bc_ BK233 4, bc_ BK233 5⟩ (fun hHeld => ?_)
            clear hK K
            refine n_ ?_
            refine p_ (i := 8) (N := some 23) mk8_9 ?_
            refine p_ (i := 9) (N := some 24) mk8_10 ?_
            refine p_ (i := 10) (N := some 25) mk8_11 ?_
            refine p_ (i := 11) (N := some 26) mk8_12 ?_
            refine t_ (i := 12) (N := some 27) mk8_13 hHeld ?_ (hv := by rintro w' ⟨s0, s1, s2, s3, s4, s5⟩; go_simp; with_reducible rfl)
            refine o_ (i := 13) (N := some 28) mk8_14 (fun K hK => ?_)
            refine goes_ Try.func103 z8_2 rfl #[.string ((rd_T86 l0 x3_1).f2)] (by rfl) rfl rfl z8_5 ?_
            with_reducible refine (spec_NameOk.calls k1 ((rd_T86 l0 x3_1).f2) true _ A8.out).mono ?_
            rintro e w' ⟨rfl, ⟨nd, rfl⟩⟩
            refine ⟨_, rfl, ?_⟩
            refine hK.out _ _ ⟨bc_ BK233 0, bc_ BK233 1, bc_ BK233 2, bc_ BK233 3, bc_ BK233 4, bc_ BK233 5⟩ (fun hHeld => ?_)
            clear hK K
            refine n_ ?_
            refine p_ (i := 14) (N := some 29) mk8_15 ?_
            refine p_ (i := 15) (N := some 30) mk8_16 ?_
            refine p_ (i := 16) (N := some 31) mk8_17 ?_
            refine p_ (i := 17) (N := some 32) mk8_18 ?_
            refine t_ (i := 18) (N := some 33) mk8_19 hHeld ?_ (hv := by rintro w' ⟨s0, s1, s2, s3, s4, s5⟩; go_simp; with_reducible rfl)
            refine o_ (i := 19) (N := some 34) mk8_20 (fun K hK => ?_)
            refine goes_ Try.func102 z8_2 rfl #[.int .i64 ((rd_T86 l0 x3_1).f3), .int .i64 0, .int .i64 999999] (by rfl) rfl rfl z8_5 ?_
            with_reducible refine (spec_l01In.calls ((rd_T86 l0 x3_1).f3) 0 999999 true _ A10.out).mono ?_
            rintro e w' ⟨rfl, ⟨nd, rfl⟩⟩
            refine ⟨_, rfl, ?_⟩
            refine hK.out _ _ ⟨bc_ BK233 0, bc_ BK233 1, bc_ BK233 2, bc_ BK233 3, bc_ BK233 4, bc_ BK233 5⟩ (fun hHeld => ?_)
            clear hK K
            refine n_ ?_
            refine p_ (i := 20) (N := some 35) mk8_21 ?_
            refine p_ (i := 21) (N := some 36) mk8_22 ?_
            refine p_ (i := 22) (N := some 37) mk8_23 ?_
            refine p_ (i := 23) (N := some 38) mk8_24 ?_
            refine t_ (i := 24) (N := some 39) mk8_25 hHeld ?_ (hv := by rintro w' ⟨s0, s1, s2, s3, s4, s5⟩; go_simp; with_reducible rfl)
            refine p_ (i := 25) (N := some 40) mk8_26 ?_
            refine p_ (i := 26) (N := some 41) mk8_27 ?_
            refine p_ (i := 27) (N := some 42) mk8_28 ?_
            refine t_ (i := 28) (N := some 43) mk8_29 hHeld ?_ (hv := by rintro w' ⟨s0, s1, s2, s3, s4, s5⟩; go_simp; with_reducible rfl)
            refine p_ (i := 29) (N := some 44) mk8_30 ?_
            refine p_ (i := 30) (N := some 45) mk8_31 ?_
            refine p_ (i := 31) (N := some 46) mk8_32 ?_
            refine p_ (i := 32) (N := some 47) mk8_33 ?_
            refine p_ (i := 33) (N := some 48) mk8_34 ?_
            refine p_ (i := 34) (N := some 49) mk8_35 ?_
            refine p_ (i := 35) (N := some 50) mk8_36 ?_
            refine u_ (i := 36) (N := some 51) mk8_37 ?_
            refine u_ (i := 37) (N := some 52) mk8_38 ?_
            refine u_ (i := 38) (N := some 53) mk8_39 ?_
            refine u_ (i := 39) (N := some 54) mk8_40 ?_
            refine u_ (i := 40) (N := some 55) mk8_41 ?_
            refine u_ (i := 41) (N := some 56) mk8_49 ?_
            refine u_ (i := 42) (N := some 57) mk8_43 ?_
            refine u_ (i := 43) (N := some 58) mk8_44 ?_
            refine u_ (i := 44) (N := some 59) mk8_45 ?_
            refine u_ (i := 45) (N := some 60) mk8_46 ?_
            refine p_ (i := 46) (N := some 61) mk8_47 ?_
            refine p_ (i := 47) (N := some 62) mk8_48 ?_
            refine done_ (done_of HT_.out z8_2) ?_
            try go_wp2
            go_roundg k1
            case measure => have := HK1.out; omega
            case rel => exact ⟨(wrap64 (x3_1 + 1)), z8_10, H', ⟨by have := HK1.out; omega⟩, ⟨z8_0⟩⟩
          ·
           rw [if_neg c37] at H
           have c37b0 : (((rd_T86 l0 x3_1).f3) == 0) = false := beq_eq_false_iff_ne.mpr c37
           have c37b1 : (((rd_T86 l0 x3_1).f3) != 0) = true := bne_iff_ne.mpr c37
           obtain rfl := Option.some.inj H
           have p232 : 0 ≤ (x3_1 : Int) := of_decide_eq_true z8_8
           have q232 : x3_1 < (l0.length : Int) := of_decide_eq_true z8_8
           obtain ⟨ad232, e232, hx232_0, hx232_1, hx232_2, hx232_3, hx232_4, hx232_5⟩ := at_T86 HR0.out x3_1 p232 q232
           (try rw [← Nbq12.out] at hx232_0)
           cases e232
           replace hx232_0 := cb_ HB hx232_0
           replace hx232_1 := cb_ HB hx232_1
           replace hx232_2 := cb_ HB hx232_2
           replace hx232_3 := cb_ HB hx232_3
           replace hx232_4 := cb_ HB hx232_4
           replace hx232_5 := cb_ HB hx232_5
           replace p232 := eq_true p232
           replace q232 := eq_true q232
           try go_wp2_with (first | ((with_reducible refine gate_dst (N := 4) rfl ?_); refine box_event ?hg (N := 4) ?hd (cs := #[.bool false, .string (⟨#[]⟩ : ByteArray), .string (⟨#[]⟩ : ByteArray), .int .i64 0, .int .i64 0, .int .i64 0]) (t := 86) ?hr ?_; (case hd => rfl); (case hg => rfl); (case hr => first | (go_simp; done) | (go_simp; rfl)); intro gb233 hg w61 hbox hb; have BK233 := Aside0.mk (hbox); have GW233 := gw_ w z8_4 hg; have GE233 := gw_ w z8_4 hg; replace HB := Aside0.mk (below_step z8_4 hb); clear hb hbox hg; obtain ⟨hcz62_0, hcz62_1, hcz62_2, hcz62_3, hcz62_4, hcz62_5, hfz62_0, hfz62_1, hfz62_2, hfz62_3, hfz62_4, hfz62_5⟩ := bc6 BK233.out))
           have n0_ : Aside0 (((((((w61.setCell ⟨gb233, 0, none⟩ (.bool false)).setCell ⟨gb233, 1, none⟩ (.string ((rd_T86 l0 x3_1).f1))).setCell ⟨gb233, 2, none⟩ (.string ((rd_T86 l0 x3_1).f2))).setCell ⟨gb233, 3, none⟩ (.int .i64 ((rd_T86 l0 x3_1).f3))).setCell ⟨gb233, 4, none⟩ (.int .i64 ((rd_T86 l0 x3_1).f4.f0))).setCell ⟨gb233, 5, none⟩ (.int .i64 ((rd_T86 l0 x3_1).f4.f1))).heap[gb233]? = some (.cells #[.bool false, .string ((rd_T86 l0 x3_1).f1), .string ((rd_T86 l0 x3_1).f2), .int .i64 ((rd_T86 l0 x3_1).f3), .int .i64 ((rd_T86 l0 x3_1).f4.f0), .int .i64 ((rd_T86 l0 x3_1).f4.f1)] 86 (0, 0))) := ⟨z8_3⟩
           have n1_ : Aside0 (Below w.heap.size w ((((((w61.setCell ⟨gb233, 0, none⟩ (.bool false)).setCell ⟨gb233, 1, none⟩ (.string ((rd_T86 l0 x3_1).f1))).setCell ⟨gb233, 2, none⟩ (.string ((rd_T86 l0 x3_1).f2))).setCell ⟨gb233, 3, none⟩ (.int .i64 ((rd_T86 l0 x3_1).f3))).setCell ⟨gb233, 4, none⟩ (.int .i64 ((rd_T86 l0 x3_1).f4.f0))).setCell ⟨gb233, 5, none⟩ (.int .i64 ((rd_T86 l0 x3_1).f4.f1)))) := ⟨z8_0⟩
           (try clear BK233)
           (try clear HB)
           generalize ((((((w61.setCell ⟨gb233, 0, none⟩ (.bool false)).setCell ⟨gb233, 1, none⟩ (.string ((rd_T86 l0 x3_1).f1))).setCell ⟨gb233, 2, none⟩ (.string ((rd_T86 l0 x3_1).f2))).setCell ⟨gb233, 3, none⟩ (.int .i64 ((rd_T86 l0 x3_1).f3))).setCell ⟨gb233, 4, none⟩ (.int .i64 ((rd_T86 l0 x3_1).f4.f0))).setCell ⟨gb233, 5, none⟩ (.int .i64 ((rd_T86 l0 x3_1).f4.f1))) = w63 at n0_ n1_ ⊢
           have BK233 := n0_
           have HB := n1_
           clear n0_ n1_
           replace BK233 := Aside0.mk (blk_drew BK233.out)
           replace HB := Aside0.mk (below_drew1 HB.out)
           refine start_ (n := 48) (S := fun w' => w'.cell? ⟨gb233, 0, none⟩ = some (.bool false) ∧ w'.cell? ⟨gb233, 1, none⟩ = some (.string ((rd_T86 l0 x3_1).f1)) ∧ w'.cell? ⟨gb233, 2, none⟩ = some (.string ((rd_T86 l0 x3_1).f2)) ∧ w'.cell? ⟨gb233, 3, none⟩ = some (.int .i64 ((rd_T86 l0 x3_1).f3)) ∧ w'.cell? ⟨gb233, 4, none⟩ = some (.int .i64 ((rd_T86 l0 x3_1).f4.f0)) ∧ w'.cell? ⟨gb233, 5, none⟩ = some (.int .i64 ((rd_T86 l0 x3_1).f4.f1))) (ds := []) mk8_0 z8_2 rfl rfl ⟨bc_ BK233 0, bc_ BK233 1, bc_ BK233 2, bc_ BK233 3, bc_ BK233 4, bc_ BK233 5⟩ (fun hHeld => ?_); refine with_tabW spec_l06Lives.tab5 spec_l06Lives.bits5 (fun HT_ HW_ => ?_)
           generalize w63.drew = w64 at BK233 HB hHeld ⊢
           refine p_ (i := 0) (N := some 15) mk8_1 ?_
           refine t_ (i := 1) (N := some 16) mk8_2 hHeld ?_ (hv := by rintro w' ⟨s0, s1, s2, s3, s4, s5⟩; go_simp; with_reducible rfl)
           refine o_ (i := 2) (N := some 17) mk8_3 (fun K hK => ?_)
           refine goes_ Try.func104 z8_2 rfl #[.agg #[.int .i64 ((rd_T86 l0 x3_1).f4.f0), .int .i64 ((rd_T86 l0 x3_1).f4.f1)]] (by rfl) rfl rfl z8_5 ?_
           with_reducible refine (spec_DotOk.calls ((rd_T86 l0 x3_1).f4.f0) ((rd_T86 l0 x3_1).f4.f1) true _ A4.out).mono ?_
           rintro e w65 ⟨rfl, hb⟩
           refine ⟨_, rfl, ?_⟩
           replace BK233 := Aside0.mk (blk_below (g := gb233) (o := .cells #[.bool false, .string ((rd_T86 l0 x3_1).f1), .string ((rd_T86 l0 x3_1).f2), .int .i64 ((rd_T86 l0 x3_1).f3), .int .i64 ((rd_T86 l0 x3_1).f4.f0), .int .i64 ((rd_T86 l0 x3_1).f4.f1)] 86 (0, 0)) z8_7 hb)
           replace HB := Aside0.mk (below_step z8_0 hb)
           (try clear hb)
           (try clear hb2)
           (try clear hk)
           (try clear hi)
           refine hK.out _ _ ⟨bc_ BK233 0, bc_ BK233 1, bc_ BK233 2, bc_ BK233 3, bc_ BK233 4, bc_ BK233 5⟩ (fun hHeld => ?_)
           clear hK K
           refine n_ ?_
           refine p_ (i := 3) (N := some 18) mk8_4 ?_
           refine p_ (i := 4) (N := some 19) mk8_5 ?_
           refine p_ (i := 5) (N := some 20) mk8_6 ?_
           refine t_ (i := 6) (N := some 21) mk8_7 hHeld ?_ (hv := by rintro w' ⟨s0, s1, s2, s3, s4, s5⟩; go_simp; with_reducible rfl)
           refine o_ (i := 7) (N := some 22) mk8_8 (fun K hK => ?_)
           refine goes_ Try.func103 z8_2 rfl #[.string ((rd_T86 l0 x3_1).f1)] (by rfl) rfl rfl z8_5 ?_
           with_reducible refine (spec_NameOk.calls k1 ((rd_T86 l0 x3_1).f1) true _ A6.out).mono ?_
           rintro e w' ⟨rfl, ⟨nd, rfl⟩⟩
           refine ⟨_, rfl, ?_⟩
           refine hK.out _ _ ⟨bc_ BK233 0, bc_ BK233 1, bc_ BK233 2, bc_ BK233 3, bc_ BK233 4, bc_ BK233 5⟩ (fun hHeld => ?_)
           clear hK K
           refine n_ ?_
           refine p_ (i := 8) (N := some 23) mk8_9 ?_
           refine p_ (i := 9) (N := some 24) mk8_10 ?_
           refine p_ (i := 10) (N := some 25) mk8_11 ?_
           refine p_ (i := 11) (N := some 26) mk8_12 ?_
           refine t_ (i := 12) (N := some 27) mk8_13 hHeld ?_ (hv := by rintro w' ⟨s0, s1, s2, s3, s4, s5⟩; go_simp; with_reducible rfl)
           refine o_ (i := 13) (N := some 28) mk8_14 (fun K hK => ?_)
           refine goes_ Try.func103 z8_2 rfl #[.string ((rd_T86 l0 x3_1).f2)] (by rfl) rfl rfl z8_5 ?_
           with_reducible refine (spec_NameOk.calls k1 ((rd_T86 l0 x3_1).f2) true _ A8.out).mono ?_
           rintro e w' ⟨rfl, ⟨nd, rfl⟩⟩
           refine ⟨_, rfl, ?_⟩
           refine hK.out _ _ ⟨bc_ BK233 0, bc_ BK233 1, bc_ BK233 2, bc_ BK233 3, bc_ BK233 4, bc_ BK233 5⟩ (fun hHeld => ?_)
           clear hK K
           refine n_ ?_
           refine p_ (i := 14) (N := some 29) mk8_15 ?_
           refine p_ (i := 15) (N := some 30) mk8_16 ?_
           refine p_ (i := 16) (N := some 31) mk8_17 ?_
           refine p_ (i := 17) (N := some 32) mk8_18 ?_
           refine t_ (i := 18) (N := some 33) mk8_19 hHeld ?_ (hv := by rintro w' ⟨s0, s1, s2, s3, s4, s5⟩; go_simp; with_reducible rfl)
           refine o_ (i := 19) (N := some 34) mk8_20 (fun K hK => ?_)
           refine goes_ Try.func102 z8_2 rfl #[.int .i64 ((rd_T86 l0 x3_1).f3), .int .i64 0, .int .i64 999999] (by rfl) rfl rfl z8_5 ?_
           with_reducible refine (spec_l01In.calls ((rd_T86 l0 x3_1).f3) 0 999999 true _ A10.out).mono ?_
           rintro e w' ⟨rfl, ⟨nd, rfl⟩⟩
           refine ⟨_, rfl, ?_⟩
           refine hK.out _ _ ⟨bc_ BK233 0, bc_ BK233 1, bc_ BK233 2, bc_ BK233 3, bc_ BK233 4, bc_ BK233 5⟩ (fun hHeld => ?_)
           clear hK K
           refine n_ ?_
           refine p_ (i := 20) (N := some 35) mk8_21 ?_
           refine p_ (i := 21) (N := some 36) mk8_22 ?_
           refine p_ (i := 22) (N := some 37) mk8_23 ?_
           refine p_ (i := 23) (N := some 38) mk8_24 ?_
           refine t_ (i := 24) (N := some 39) mk8_25 hHeld ?_ (hv := by rintro w' ⟨s0, s1, s2, s3, s4, s5⟩; go_simp; with_reducible rfl)
           refine p_ (i := 25) (N := some 40) mk8_26 ?_
           refine p_ (i := 26) (N := some 41) mk8_27 ?_
           refine p_ (i := 27) (N := some 42) mk8_28 ?_
           refine t_ (i := 28) (N := some 43) mk8_29 hHeld ?_ (hv := by rintro w' ⟨s0, s1, s2, s3, s4, s5⟩; go_simp; with_reducible rfl)
           refine p_ (i := 29) (N := some 44) mk8_30 ?_
           refine p_ (i := 30) (N := some 45) mk8_31 ?_
           refine p_ (i := 31) (N := some 46) mk8_32 ?_
           refine p_ (i := 32) (N := some 47) mk8_33 ?_
           refine u_ (i := 33) (N := some 48) mk8_34 ?_
           refine u_ (i := 34) (N := some 49) mk8_35 ?_
           refine u_ (i := 35) (N := some 50) mk8_36 ?_
           refine u_ (i := 36) (N := some 51) mk8_37 ?_
           refine u_ (i := 37) (N := some 52) mk8_38 ?_
           refine u_ (i := 38) (N := some 53) mk8_39 ?_
           refine u_ (i := 39) (N := some 54) mk8_40 ?_
           refine u_ (i := 40) (N := some 55) mk8_41 ?_
           refine u_ (i := 41) (N := some 56) mk8_49 ?_
           refine u_ (i := 42) (N := some 57) mk8_43 ?_
           refine u_ (i := 43) (N := some 58) mk8_44 ?_
           refine u_ (i := 44) (N := some 59) mk8_45 ?_
           refine u_ (i := 45) (N := some 60) mk8_46 ?_
           refine u_ (i := 46) (N := some 61) mk8_47 ?_
           refine p_ (i := 47) (N := some 62) mk8_48 ?_
           refine done_ (done_of HT_.out z8_2) ?_
           try go_wp2
           go_ret
           exact ⟨z8_9, z8_0⟩
        ·
         replace c11 := Bool.eq_false_iff.mpr c11
         subst c11
         rw [if_neg (show ¬ (false = true) by decide)] at H
         obtain rfl := Option.some.inj H
         have p232 : 0 ≤ (x3_1 : Int) := of_decide_eq_true z8_8
         have q232 : x3_1 < (l0.length : Int) := of_decide_eq_true z8_8
         obtain ⟨ad232, e232, hx232_0, hx232_1, hx232_2, hx232_3, hx232_4, hx232_5⟩ := at_T86 HR0.out x3_1 p232 q232
         cases e232
         replace hx232_0 := cb_ HB hx232_0
         replace hx232_1 := cb_ HB hx232_1
         replace hx232_2 := cb_ HB hx232_2
         replace hx232_3 := cb_ HB hx232_3
         replace hx232_4 := cb_ HB hx232_4
         replace hx232_5 := cb_ HB hx232_5
         replace p232 := eq_true p232
         replace q232 := eq_true q232
         try go_wp2_with (first | ((with_reducible refine gate_dst (N := 4) rfl ?_); refine box_event ?hg (N := 4) ?hd (cs := #[.bool false, .string (⟨#[]⟩ : ByteArray), .string (⟨#[]⟩ : ByteArray), .int .i64 0, .int .i64 0, .int .i64 0]) (t := 86) ?hr ?_; (case hd => rfl); (case hg => rfl); (case hr => first | (go_simp; done) | (go_simp; rfl)); intro gb233 hg w66 hbox hb; have BK233 := Aside0.mk (hbox); have GW233 := gw_ w z8_4 hg; have GE233 := gw_ w z8_4 hg; replace HB := Aside0.mk (below_step z8_4 hb); clear hb hbox hg; obtain ⟨hcz67_0, hcz67_1, hcz67_2, hcz67_3, hcz67_4, hcz67_5, hfz67_0, hfz67_1, hfz67_2, hfz67_3, hfz67_4, hfz67_5⟩ := bc6 BK233.out))
         have n0_ : Aside0 (((((((w66.setCell ⟨gb233, 0, none⟩ (.bool ((rd_T86 l0 x3_1).f0))).setCell ⟨gb233, 1, none⟩ (.string ((rd_T86 l0 x3_1).f1))).setCell ⟨gb233, 2, none⟩ (.string ((rd_T86 l0 x3_1).f2))).setCell ⟨gb233, 3, none⟩ (.int .i64 ((rd_T86 l0 x3_1).f3))).setCell ⟨gb233, 4, none⟩ (.int .i64 ((rd_T86 l0 x3_1).f4.f0))).setCell ⟨gb233, 5, none⟩ (.int .i64 ((rd_T86 l0 x3_1).f4.f1))).heap[gb233]? = some (.cells #[.bool ((rd_T86 l0 x3_1).f0), .string ((rd_T86 l0 x3_1).f1), .string ((rd_T86 l0 x3_1).f2), .int .i64 ((rd_T86 l0 x3_1).f3), .int .i64 ((rd_T86 l0 x3_1).f4.f0), .int .i64 ((rd_T86 l0 x3_1).f4.f1)] 86 (0, 0))) := ⟨z8_1⟩
         have n1_ : Aside0 (Below w.heap.size w ((((((w66.setCell ⟨gb233, 0, none⟩ (.bool ((rd_T86 l0 x3_1).f0))).setCell ⟨gb233, 1, none⟩ (.string ((rd_T86 l0 x3_1).f1))).setCell ⟨gb233, 2, none⟩ (.string ((rd_T86 l0 x3_1).f2))).setCell ⟨gb233, 3, none⟩ (.int .i64 ((rd_T86 l0 x3_1).f3))).setCell ⟨gb233, 4, none⟩ (.int .i64 ((rd_T86 l0 x3_1).f4.f0))).setCell ⟨gb233, 5, none⟩ (.int .i64 ((rd_T86 l0 x3_1).f4.f1)))) := ⟨z8_0⟩
         (try clear BK233)
         (try clear HB)
         generalize ((((((w66.setCell ⟨gb233, 0, none⟩ (.bool ((rd_T86 l0 x3_1).f0))).setCell ⟨gb233, 1, none⟩ (.string ((rd_T86 l0 x3_1).f1))).setCell ⟨gb233, 2, none⟩ (.string ((rd_T86 l0 x3_1).f2))).setCell ⟨gb233, 3, none⟩ (.int .i64 ((rd_T86 l0 x3_1).f3))).setCell ⟨gb233, 4, none⟩ (.int .i64 ((rd_T86 l0 x3_1).f4.f0))).setCell ⟨gb233, 5, none⟩ (.int .i64 ((rd_T86 l0 x3_1).f4.f1))) = w68 at n0_ n1_ ⊢
         have BK233 := n0_
         have HB := n1_
         clear n0_ n1_
         replace BK233 := Aside0.mk (blk_drew BK233.out)
         replace HB := Aside0.mk (below_drew1 HB.out)
         refine start_ (n := 48) (S := fun w' => w'.cell? ⟨gb233, 0, none⟩ = some (.bool ((rd_T86 l0 x3_1).f0)) ∧ w'.cell? ⟨gb233, 1, none⟩ = some (.string ((rd_T86 l0 x3_1).f1)) ∧ w'.cell? ⟨gb233, 2, none⟩ = some (.string ((rd_T86 l0 x3_1).f2)) ∧ w'.cell? ⟨gb233, 3, none⟩ = some (.int .i64 ((rd_T86 l0 x3_1).f3)) ∧ w'.cell? ⟨gb233, 4, none⟩ = some (.int .i64 ((rd_T86 l0 x3_1).f4.f0)) ∧ w'.cell? ⟨gb233, 5, none⟩ = some (.int .i64 ((rd_T86 l0 x3_1).f4.f1))) (ds := []) mk8_0 z8_2 rfl rfl ⟨bc_ BK233 0, bc_ BK233 1, bc_ BK233 2, bc_ BK233 3, bc_ BK233 4, bc_ BK233 5⟩ (fun hHeld => ?_); refine with_tabW spec_l06Lives.tab5 spec_l06Lives.bits5 (fun HT_ HW_ => ?_)
         generalize w68.drew = w69 at BK233 HB hHeld ⊢
         refine p_ (i := 0) (N := some 15) mk8_1 ?_
         refine t_ (i := 1) (N := some 16) mk8_2 hHeld ?_ (hv := by rintro w' ⟨s0, s1, s2, s3, s4, s5⟩; go_simp; with_reducible rfl)
         refine o_ (i := 2) (N := some 17) mk8_3 (fun K hK => ?_)
         refine goes_ Try.func104 z8_2 rfl #[.agg #[.int .i64 ((rd_T86 l0 x3_1).f4.f0), .int .i64 ((rd_T86 l0 x3_1).f4.f1)]] (by rfl) rfl rfl z8_5 ?_
         with_reducible refine (spec_DotOk.calls ((rd_T86 l0 x3_1).f4.f0) ((rd_T86 l0 x3_1).f4.f1) true _ A4.out).mono ?_
         rintro e w70 ⟨rfl, hb⟩
         refine ⟨_, rfl, ?_⟩
         replace BK233 := Aside0.mk (blk_below (g := gb233) (o := .cells #[.bool ((rd_T86 l0 x3_1).f0), .string ((rd_T86 l0 x3_1).f1), .string ((rd_T86 l0 x3_1).f2), .int .i64 ((rd_T86 l0 x3_1).f3), .int .i64 ((rd_T86 l0 x3_1).f4.f0), .int .i64 ((rd_T86 l0 x3_1).f4.f1)] 86 (0, 0)) z8_7 hb)
         replace HB := Aside0.mk (below_step z8_0 hb)
         (try clear hb)
         (try clear hb2)
         (try clear hk)
         (try clear hi)
         refine hK.out _ _ ⟨bc_ BK233 0, bc_ BK233 1, bc_ BK233 2, bc_ BK233 3, bc_ BK233 4, bc_ BK233 5⟩ (fun hHeld => ?_)
         clear hK K
         refine n_ ?_
         refine p_ (i := 3) (N := some 18) mk8_4 ?_
         refine p_ (i := 4) (N := some 19) mk8_5 ?_
         refine p_ (i := 5) (N := some 20) mk8_6 ?_
         refine t_ (i := 6) (N := some 21) mk8_7 hHeld ?_ (hv := by rintro w' ⟨s0, s1, s2, s3, s4, s5⟩; go_simp; with_reducible rfl)
         refine o_ (i := 7) (N := some 22) mk8_8 (fun K hK => ?_)
         refine goes_ Try.func103 z8_2 rfl #[.string ((rd_T86 l0 x3_1).f1)] (by rfl) rfl rfl z8_5 ?_
         with_reducible refine (spec_NameOk.calls k1 ((rd_T86 l0 x3_1).f1) true _ A6.out).mono ?_
         rintro e w' ⟨rfl, ⟨nd, rfl⟩⟩
         refine ⟨_, rfl, ?_⟩
         refine hK.out _ _ ⟨bc_ BK233 0, bc_ BK233 1, bc_ BK233 2, bc_ BK233 3, bc_ BK233 4, bc_ BK233 5⟩ (fun hHeld => ?_)
         clear hK K
         refine n_ ?_
         refine p_ (i := 8) (N := some 23) mk8_9 ?_
         refine p_ (i := 9) (N := some 24) mk8_10 ?_
         refine p_ (i := 10) (N := some 25) mk8_11 ?_
         refine p_ (i := 11) (N := some 26) mk8_12 ?_
         refine t_ (i := 12) (N := some 27) mk8_13 hHeld ?_ (hv := by rintro w' ⟨s0, s1, s2, s3, s4, s5⟩; go_simp; with_reducible rfl)
         refine o_ (i := 13) (N := some 28) mk8_14 (fun K hK => ?_)
         refine goes_ Try.func103 z8_2 rfl #[.string ((rd_T86 l0 x3_1).f2)] (by rfl) rfl rfl z8_5 ?_
         with_reducible refine (spec_NameOk.calls k1 ((rd_T86 l0 x3_1).f2) true _ A8.out).mono ?_
         rintro e w' ⟨rfl, ⟨nd, rfl⟩⟩
         refine ⟨_, rfl, ?_⟩
         refine hK.out _ _ ⟨bc_ BK233 0, bc_ BK233 1, bc_ BK233 2, bc_ BK233 3, bc_ BK233 4, bc_ BK233 5⟩ (fun hHeld => ?_)
         clear hK K
         refine n_ ?_
         refine p_ (i := 14) (N := some 29) mk8_15 ?_
         refine p_ (i := 15) (N := some 30) mk8_16 ?_
         refine p_ (i := 16) (N := some 31) mk8_17 ?_
         refine p_ (i := 17) (N := some 32) mk8_18 ?_
         refine t_ (i := 18) (N := some 33) mk8_19 hHeld ?_ (hv := by rintro w' ⟨s0, s1, s2, s3, s4, s5⟩; go_simp; with_reducible rfl)
         refine o_ (i := 19) (N := some 34) mk8_20 (fun K hK => ?_)
         refine goes_ Try.func102 z8_2 rfl #[.int .i64 ((rd_T86 l0 x3_1).f3), .int .i64 0, .int .i64 999999] (by rfl) rfl rfl z8_5 ?_
         with_reducible refine (spec_l01In.calls ((rd_T86 l0 x3_1).f3) 0 999999 false _ A10.out).mono ?_
         rintro e w' ⟨rfl, ⟨nd, rfl⟩⟩
         refine ⟨_, rfl, ?_⟩
         refine hK.out _ _ ⟨bc_ BK233 0, bc_ BK233 1, bc_ BK233 2, bc_ BK233 3, bc_ BK233 4, bc_ BK233 5⟩ (fun hHeld => ?_)
         clear hK K
         refine n_ ?_
         refine p_ (i := 20) (N := some 35) mk8_21 ?_
         refine p_ (i := 21) (N := some 36) mk8_22 ?_
         refine p_ (i := 22) (N := some 37) mk8_23 ?_
         refine u_ (i := 23) (N := some 38) mk8_24 ?_
         refine u_ (i := 24) (N := some 39) mk8_25 ?_
         refine u_ (i := 25) (N := some 40) mk8_26 ?_
         refine u_ (i := 26) (N := some 41) mk8_27 ?_
         refine u_ (i := 27) (N := some 42) mk8_28 ?_
         refine u_ (i := 28) (N := some 43) mk8_29 ?_
         refine u_ (i := 29) (N := some 44) mk8_30 ?_
         refine u_ (i := 30) (N := some 45) mk8_31 ?_
         refine p_ (i := 31) (N := some 46) mk8_32 ?_
         refine p_ (i := 32) (N := some 47) mk8_33 ?_
         refine u_ (i := 33) (N := some 48) mk8_34 ?_
         refine u_ (i := 34) (N := some 49) mk8_35 ?_
         refine u_ (i := 35) (N := some 50) mk8_36 ?_
         refine u_ (i := 36) (N := some 51) mk8_37 ?_
         refine u_ (i := 37) (N := some 52) mk8_38 ?_
         refine u_ (i := 38) (N := some 53) mk8_39 ?_
         refine u_ (i := 39) (N := some 54) mk8_40 ?_
         refine u_ (i := 40) (N := some 55) mk8_41 ?_
         refine u_ (i := 41) (N := some 56) mk8_49 ?_
         refine u_ (i := 42) (N := some 57) mk8_43 ?_
         refine u_ (i := 43) (N := some 58) mk8_44 ?_
         refine u_ (i := 44) (N := some 59) mk8_45 ?_
         refine u_ (i := 45) (N := some 60) mk8_46 ?_
         refine u_ (i := 46) (N := some 61) mk8_47 ?_
         refine p_ (i := 47) (N := some 62) mk8_48 ?_
         refine done_ (done_of HT_.out z8_2) ?_
         try go_wp2
         go_ret
         exact ⟨z8_9, z8_0⟩
       ·
        replace c9 := Bool.eq_false_iff.mpr c9
        subst c9
        rw [if_neg (show ¬ (false = true) by decide)] at H
        obtain rfl := Option.some.inj H
        have p232 : 0 ≤ (x3_1 : Int) := of_decide_eq_true z8_8
        have q232 : x3_1 < (l0.length : Int) := of_decide_eq_true z8_8
        obtain ⟨ad232, e232, hx232_0, hx232_1, hx232_2, hx232_3, hx232_4, hx232_5⟩ := at_T86 HR0.out x3_1 p232 q232
        cases e232
        replace hx232_0 := cb_ HB hx232_0
        replace hx232_1 := cb_ HB hx232_1
        replace hx232_2 := cb_ HB hx232_2
        replace hx232_3 := cb_ HB hx232_3
        replace hx232_4 := cb_ HB hx232_4
        replace hx232_5 := cb_ HB hx232_5
        replace p232 := eq_true p232
        replace q232 := eq_true q232
        try go_wp2_with (first | ((with_reducible refine gate_dst (N := 4) rfl ?_); refine box_event ?hg (N := 4) ?hd (cs := #[.bool false, .string (⟨#[]⟩ : ByteArray), .string (⟨#[]⟩ : ByteArray), .int .i64 0, .int .i64 0, .int .i64 0]) (t := 86) ?hr ?_; (case hd => rfl); (case hg => rfl); (case hr => first | (go_simp; done) | (go_simp; rfl)); intro gb233 hg w71 hbox hb; have BK233 := Aside0.mk (hbox); have GW233 := gw_ w z8_4 hg; have GE233 := gw_ w z8_4 hg; replace HB := Aside0.mk (below_step z8_4 hb); clear hb hbox hg; obtain ⟨hcz72_0, hcz72_1, hcz72_2, hcz72_3, hcz72_4, hcz72_5, hfz72_0, hfz72_1, hfz72_2, hfz72_3, hfz72_4, hfz72_5⟩ := bc6 BK233.out))
        have n0_ : Aside0 (((((((w71.setCell ⟨gb233, 0, none⟩ (.bool ((rd_T86 l0 x3_1).f0))).setCell ⟨gb233, 1, none⟩ (.string ((rd_T86 l0 x3_1).f1))).setCell ⟨gb233, 2, none⟩ (.string ((rd_T86 l0 x3_1).f2))).setCell ⟨gb233, 3, none⟩ (.int .i64 ((rd_T86 l0 x3_1).f3))).setCell ⟨gb233, 4, none⟩ (.int .i64 ((rd_T86 l0 x3_1).f4.f0))).setCell ⟨gb233, 5, none⟩ (.int .i64 ((rd_T86 l0 x3_1).f4.f1))).heap[gb233]? = some (.cells #[.bool ((rd_T86 l0 x3_1).f0), .string ((rd_T86 l0 x3_1).f1), .string ((rd_T86 l0 x3_1).f2), .int .i64 ((rd_T86 l0 x3_1).f3), .int .i64 ((rd_T86 l0 x3_1).f4.f0), .int .i64 ((rd_T86 l0 x3_1).f4.f1)] 86 (0, 0))) := ⟨z8_1⟩
        have n1_ : Aside0 (Below w.heap.size w ((((((w71.setCell ⟨gb233, 0, none⟩ (.bool ((rd_T86 l0 x3_1).f0))).setCell ⟨gb233, 1, none⟩ (.string ((rd_T86 l0 x3_1).f1))).setCell ⟨gb233, 2, none⟩ (.string ((rd_T86 l0 x3_1).f2))).setCell ⟨gb233, 3, none⟩ (.int .i64 ((rd_T86 l0 x3_1).f3))).setCell ⟨gb233, 4, none⟩ (.int .i64 ((rd_T86 l0 x3_1).f4.f0))).setCell ⟨gb233, 5, none⟩ (.int .i64 ((rd_T86 l0 x3_1).f4.f1)))) := ⟨z8_0⟩
        (try clear BK233)
        (try clear HB)
        generalize ((((((w71.setCell ⟨gb233, 0, none⟩ (.bool ((rd_T86 l0 x3_1).f0))).setCell ⟨gb233, 1, none⟩ (.string ((rd_T86 l0 x3_1).f1))).setCell ⟨gb233, 2, none⟩ (.string ((rd_T86 l0 x3_1).f2))).setCell ⟨gb233, 3, none⟩ (.int .i64 ((rd_T86 l0 x3_1).f3))).setCell ⟨gb233, 4, none⟩ (.int .i64 ((rd_T86 l0 x3_1).f4.f0))).setCell ⟨gb233, 5, none⟩ (.int .i64 ((rd_T86 l0 x3_1).f4.f1))) = w73 at n0_ n1_ ⊢
        have BK233 := n0_
        have HB := n1_
        clear n0_ n1_
        replace BK233 := Aside0.mk (blk_drew BK233.out)
        replace HB := Aside0.mk (below_drew1 HB.out)
        refine start_ (n := 48) (S := fun w' => w'.cell? ⟨gb233, 0, none⟩ = some (.bool ((rd_T86 l0 x3_1).f0)) ∧ w'.cell? ⟨gb233, 1, none⟩ = some (.string ((rd_T86 l0 x3_1).f1)) ∧ w'.cell? ⟨gb233, 2, none⟩ = some (.string ((rd_T86 l0 x3_1).f2)) ∧ w'.cell? ⟨gb233, 3, none⟩ = some (.int .i64 ((rd_T86 l0 x3_1).f3)) ∧ w'.cell? ⟨gb233, 4, none⟩ = some (.int .i64 ((rd_T86 l0 x3_1).f4.f0)) ∧ w'.cell? ⟨gb233, 5, none⟩ = some (.int .i64 ((rd_T86 l0 x3_1).f4.f1))) (ds := []) mk8_0 z8_2 rfl rfl ⟨bc_ BK233 0, bc_ BK233 1, bc_ BK233 2, bc_ BK233 3, bc_ BK233 4, bc_ BK233 5⟩ (fun hHeld => ?_); refine with_tabW spec_l06Lives.tab5 spec_l06Lives.bits5 (fun HT_ HW_ => ?_)
        generalize w73.drew = w74 at BK233 HB hHeld ⊢
        refine p_ (i := 0) (N := some 15) mk8_1 ?_
        refine t_ (i := 1) (N := some 16) mk8_2 hHeld ?_ (hv := by rintro w' ⟨s0, s1, s2, s3, s4, s5⟩; go_simp; with_reducible rfl)
        refine o_ (i := 2) (N := some 17) mk8_3 (fun K hK => ?_)
        refine goes_ Try.func104 z8_2 rfl #[.agg #[.int .i64 ((rd_T86 l0 x3_1).f4.f0), .int .i64 ((rd_T86 l0 x3_1).f4.f1)]] (by rfl) rfl rfl z8_5 ?_
        with_reducible refine (spec_DotOk.calls ((rd_T86 l0 x3_1).f4.f0) ((rd_T86 l0 x3_1).f4.f1) true _ A4.out).mono ?_
        rintro e w75 ⟨rfl, hb⟩
        refine ⟨_, rfl, ?_⟩
        replace BK233 := Aside0.mk (blk_below (g := gb233) (o := .cells #[.bool ((rd_T86 l0 x3_1).f0), .string ((rd_T86 l0 x3_1).f1), .string ((rd_T86 l0 x3_1).f2), .int .i64 ((rd_T86 l0 x3_1).f3), .int .i64 ((rd_T86 l0 x3_1).f4.f0), .int .i64 ((rd_T86 l0 x3_1).f4.f1)] 86 (0, 0)) z8_7 hb)
        replace HB := Aside0.mk (below_step z8_0 hb)
        (try clear hb)
        (try clear hb2)
        (try clear hk)
        (try clear hi)
        refine hK.out _ _ ⟨bc_ BK233 0, bc_ BK233 1, bc_ BK233 2, bc_ BK233 3, bc_ BK233 4, bc_ BK233 5⟩ (fun hHeld => ?_)
        clear hK K
        refine n_ ?_
        refine p_ (i := 3) (N := some 18) mk8_4 ?_
        refine p_ (i := 4) (N := some 19) mk8_5 ?_
        refine p_ (i := 5) (N := some 20) mk8_6 ?_
        refine t_ (i := 6) (N := some 21) mk8_7 hHeld ?_ (hv := by rintro w' ⟨s0, s1, s2, s3, s4, s5⟩; go_simp; with_reducible rfl)
        refine o_ (i := 7) (N := some 22) mk8_8 (fun K hK => ?_)
        refine goes_ Try.func103 z8_2 rfl #[.string ((rd_T86 l0 x3_1).f1)] (by rfl) rfl rfl z8_5 ?_
        with_reducible refine (spec_NameOk.calls k1 ((rd_T86 l0 x3_1).f1) true _ A6.out).mono ?_
        rintro e w' ⟨rfl, ⟨nd, rfl⟩⟩
        refine ⟨_, rfl, ?_⟩
        refine hK.out _ _ ⟨bc_ BK233 0, bc_ BK233 1, bc_ BK233 2, bc_ BK233 3, bc_ BK233 4, bc_ BK233 5⟩ (fun hHeld => ?_)
        clear hK K
        refine n_ ?_
        refine p_ (i := 8) (N := some 23) mk8_9 ?_
        refine p_ (i := 9) (N := some 24) mk8_10 ?_
        refine p_ (i := 10) (N := some 25) mk8_11 ?_
        refine p_ (i := 11) (N := some 26) mk8_12 ?_
        refine t_ (i := 12) (N := some 27) mk8_13 hHeld ?_ (hv := by rintro w' ⟨s0, s1, s2, s3, s4, s5⟩; go_simp; with_reducible rfl)
        refine o_ (i := 13) (N := some 28) mk8_14 (fun K hK => ?_)
        refine goes_ Try.func103 z8_2 rfl #[.string ((rd_T86 l0 x3_1).f2)] (by rfl) rfl rfl z8_5 ?_
        with_reducible refine (spec_NameOk.calls k1 ((rd_T86 l0 x3_1).f2) false _ A8.out).mono ?_
        rintro e w' ⟨rfl, ⟨nd, rfl⟩⟩
        refine ⟨_, rfl, ?_⟩
        refine hK.out _ _ ⟨bc_ BK233 0, bc_ BK233 1, bc_ BK233 2, bc_ BK233 3, bc_ BK233 4, bc_ BK233 5⟩ (fun hHeld => ?_)
        clear hK K
        refine n_ ?_
        refine p_ (i := 14) (N := some 29) mk8_15 ?_
        refine p_ (i := 15) (N := some 30) mk8_16 ?_
        refine p_ (i := 16) (N := some 31) mk8_17 ?_
        refine u_ (i := 17) (N := some 32) mk8_18 ?_
        refine u_ (i := 18) (N := some 33) mk8_19 ?_
        refine u_ (i := 19) (N := some 34) mk8_20 ?_
        refine u_ (i := 20) (N := some 35) mk8_21 ?_
        refine p_ (i := 21) (N := some 36) mk8_22 ?_
        refine p_ (i := 22) (N := some 37) mk8_23 ?_
        refine u_ (i := 23) (N := some 38) mk8_24 ?_
        refine u_ (i := 24) (N := some 39) mk8_25 ?_
        refine u_ (i := 25) (N := some 40) mk8_26 ?_
        refine u_ (i := 26) (N := some 41) mk8_27 ?_
        refine u_ (i := 27) (N := some 42) mk8_28 ?_
        refine u_ (i := 28) (N := some 43) mk8_29 ?_
        refine u_ (i := 29) (N := some 44) mk8_30 ?_
        refine u_ (i := 30) (N := some 45) mk8_31 ?_
        refine p_ (i := 31) (N := some 46) mk8_32 ?_
        refine p_ (i := 32) (N := some 47) mk8_33 ?_
        refine u_ (i := 33) (N := some 48) mk8_34 ?_
        refine u_ (i := 34) (N := some 49) mk8_35 ?_
        refine u_ (i := 35) (N := some 50) mk8_36 ?_
        refine u_ (i := 36) (N := some 51) mk8_37 ?_
        refine u_ (i := 37) (N := some 52) mk8_38 ?_
        refine u_ (i := 38) (N := some 53) mk8_39 ?_
        refine u_ (i := 39) (N := some 54) mk8_40 ?_
        refine u_ (i := 40) (N := some 55) mk8_41 ?_
        refine u_ (i := 41) (N := some 56) mk8_49 ?_
        refine u_ (i := 42) (N := some 57) mk8_43 ?_
        refine u_ (i := 43) (N := some 58) mk8_44 ?_
        refine u_ (i := 44) (N := some 59) mk8_45 ?_
        refine u_ (i := 45) (N := some 60) mk8_46 ?_
        refine u_ (i := 46) (N := some 61) mk8_47 ?_
        refine p_ (i := 47) (N := some 62) mk8_48 ?_
        refine done_ (done_of HT_.out z8_2) ?_
        try go_wp2
        go_ret
        exact ⟨z8_9, z8_0⟩
      ·
       replace c7 := Bool.eq_false_iff.mpr c7
       subst c7
       rw [if_neg (show ¬ (false = true) by decide)] at H
       obtain rfl := Option.some.inj H
       have p232 : 0 ≤ (x3_1 : Int) := of_decide_eq_true z8_8
       have q232 : x3_1 < (l0.length : Int) := of_decide_eq_true z8_8
       obtain ⟨ad232, e232, hx232_0, hx232_1, hx232_2, hx232_3, hx232_4, hx232_5⟩ := at_T86 HR0.out x3_1 p232 q232
       cases e232
       replace hx232_0 := cb_ HB hx232_0
       replace hx232_1 := cb_ HB hx232_1
       replace hx232_2 := cb_ HB hx232_2
       replace hx232_3 := cb_ HB hx232_3
       replace hx232_4 := cb_ HB hx232_4
       replace hx232_5 := cb_ HB hx232_5
       replace p232 := eq_true p232
       replace q232 := eq_true q232
       try go_wp2_with (first | ((with_reducible refine gate_dst (N := 4) rfl ?_); refine box_event ?hg (N := 4) ?hd (cs := #[.bool false, .string (⟨#[]⟩ : ByteArray), .string (⟨#[]⟩ : ByteArray), .int .i64 0, .int .i64 0, .int .i64 0]) (t := 86) ?hr ?_; (case hd => rfl); (case hg => rfl); (case hr => first | (go_simp; done) | (go_simp; rfl)); intro gb233 hg w76 hbox hb; have BK233 := Aside0.mk (hbox); have GW233 := gw_ w z8_4 hg; have GE233 := gw_ w z8_4 hg; replace HB := Aside0.mk (below_step z8_4 hb); clear hb hbox hg; obtain ⟨hcz77_0, hcz77_1, hcz77_2, hcz77_3, hcz77_4, hcz77_5, hfz77_0, hfz77_1, hfz77_2, hfz77_3, hfz77_4, hfz77_5⟩ := bc6 BK233.out))
       have n0_ : Aside0 (((((((w76.setCell ⟨gb233, 0, none⟩ (.bool ((rd_T86 l0 x3_1).f0))).setCell ⟨gb233, 1, none⟩ (.string ((rd_T86 l0 x3_1).f1))).setCell ⟨gb233, 2, none⟩ (.string ((rd_T86 l0 x3_1).f2))).setCell ⟨gb233, 3, none⟩ (.int .i64 ((rd_T86 l0 x3_1).f3))).setCell ⟨gb233, 4, none⟩ (.int .i64 ((rd_T86 l0 x3_1).f4.f0))).setCell ⟨gb233, 5, none⟩ (.int .i64 ((rd_T86 l0 x3_1).f4.f1))).heap[gb233]? = some (.cells #[.bool ((rd_T86 l0 x3_1).f0), .string ((rd_T86 l0 x3_1).f1), .string ((rd_T86 l0 x3_1).f2), .int .i64 ((rd_T86 l0 x3_1).f3), .int .i64 ((rd_T86 l0 x3_1).f4.f0), .int .i64 ((rd_T86 l0 x3_1).f4.f1)] 86 (0, 0))) := ⟨z8_1⟩
       have n1_ : Aside0 (Below w.heap.size w ((((((w76.setCell ⟨gb233, 0, none⟩ (.bool ((rd_T86 l0 x3_1).f0))).setCell ⟨gb233, 1, none⟩ (.string ((rd_T86 l0 x3_1).f1))).setCell ⟨gb233, 2, none⟩ (.string ((rd_T86 l0 x3_1).f2))).setCell ⟨gb233, 3, none⟩ (.int .i64 ((rd_T86 l0 x3_1).f3))).setCell ⟨gb233, 4, none⟩ (.int .i64 ((rd_T86 l0 x3_1).f4.f0))).setCell ⟨gb233, 5, none⟩ (.int .i64 ((rd_T86 l0 x3_1).f4.f1)))) := ⟨z8_0⟩
       (try clear BK233)
       (try clear HB)
       generalize ((((((w76.setCell ⟨gb233, 0, none⟩ (.bool ((rd_T86 l0 x3_1).f0))).setCell ⟨gb233, 1, none⟩ (.string ((rd_T86 l0 x3_1).f1))).setCell ⟨gb233, 2, none⟩ (.string ((rd_T86 l0 x3_1).f2))).setCell ⟨gb233, 3, none⟩ (.int .i64 ((rd_T86 l0 x3_1).f3))).setCell ⟨gb233, 4, none⟩ (.int .i64 ((rd_T86 l0 x3_1).f4.f0))).setCell ⟨gb233, 5, none⟩ (.int .i64 ((rd_T86 l0 x3_1).f4.f1))) = w78 at n0_ n1_ ⊢
       have BK233 := n0_
       have HB := n1_
       clear n0_ n1_
       replace BK233 := Aside0.mk (blk_drew BK233.out)
       replace HB := Aside0.mk (below_drew1 HB.out)
       refine start_ (n := 48) (S := fun w' => w'.cell? ⟨gb233, 0, none⟩ = some (.bool ((rd_T86 l0 x3_1).f0)) ∧ w'.cell? ⟨gb233, 1, none⟩ = some (.string ((rd_T86 l0 x3_1).f1)) ∧ w'.cell? ⟨gb233, 2, none⟩ = some (.string ((rd_T86 l0 x3_1).f2)) ∧ w'.cell? ⟨gb233, 3, none⟩ = some (.int .i64 ((rd_T86 l0 x3_1).f3)) ∧ w'.cell? ⟨gb233, 4, none⟩ = some (.int .i64 ((rd_T86 l0 x3_1).f4.f0)) ∧ w'.cell? ⟨gb233, 5, none⟩ = some (.int .i64 ((rd_T86 l0 x3_1).f4.f1))) (ds := []) mk8_0 z8_2 rfl rfl ⟨bc_ BK233 0, bc_ BK233 1, bc_ BK233 2, bc_ BK233 3, bc_ BK233 4, bc_ BK233 5⟩ (fun hHeld => ?_); refine with_tabW spec_l06Lives.tab5 spec_l06Lives.bits5 (fun HT_ HW_ => ?_)
       generalize w78.drew = w79 at BK233 HB hHeld ⊢
       refine p_ (i := 0) (N := some 15) mk8_1 ?_
       refine t_ (i := 1) (N := some 16) mk8_2 hHeld ?_ (hv := by rintro w' ⟨s0, s1, s2, s3, s4, s5⟩; go_simp; with_reducible rfl)
       refine o_ (i := 2) (N := some 17) mk8_3 (fun K hK => ?_)
       refine goes_ Try.func104 z8_2 rfl #[.agg #[.int .i64 ((rd_T86 l0 x3_1).f4.f0), .int .i64 ((rd_T86 l0 x3_1).f4.f1)]] (by rfl) rfl rfl z8_5 ?_
       with_reducible refine (spec_DotOk.calls ((rd_T86 l0 x3_1).f4.f0) ((rd_T86 l0 x3_1).f4.f1) true _ A4.out).mono ?_
       rintro e w80 ⟨rfl, hb⟩
       refine ⟨_, rfl, ?_⟩
       replace BK233 := Aside0.mk (blk_below (g := gb233) (o := .cells #[.bool ((rd_T86 l0 x3_1).f0), .string ((rd_T86 l0 x3_1).f1), .string ((rd_T86 l0 x3_1).f2), .int .i64 ((rd_T86 l0 x3_1).f3), .int .i64 ((rd_T86 l0 x3_1).f4.f0), .int .i64 ((rd_T86 l0 x3_1).f4.f1)] 86 (0, 0)) z8_7 hb)
       replace HB := Aside0.mk (below_step z8_0 hb)
       (try clear hb)
       (try clear hb2)
       (try clear hk)
       (try clear hi)
       refine hK.out _ _ ⟨bc_ BK233 0, bc_ BK233 1, bc_ BK233 2, bc_ BK233 3, bc_ BK233 4, bc_ BK233 5⟩ (fun hHeld => ?_)
       clear hK K
       refine n_ ?_
       refine p_ (i := 3) (N := some 18) mk8_4 ?_
       refine p_ (i := 4) (N := some 19) mk8_5 ?_
       refine p_ (i := 5) (N := some 20) mk8_6 ?_
       refine t_ (i := 6) (N := some 21) mk8_7 hHeld ?_ (hv := by rintro w' ⟨s0, s1, s2, s3, s4, s5⟩; go_simp; with_reducible rfl)
       refine o_ (i := 7) (N := some 22) mk8_8 (fun K hK => ?_)
       refine goes_ Try.func103 z8_2 rfl #[.string ((rd_T86 l0 x3_1).f1)] (by rfl) rfl rfl z8_5 ?_
       with_reducible refine (spec_NameOk.calls k1 ((rd_T86 l0 x3_1).f1) false _ A6.out).mono ?_
       rintro e w' ⟨rfl, ⟨nd, rfl⟩⟩
       refine ⟨_, rfl, ?_⟩
       refine hK.out _ _ ⟨bc_ BK233 0, bc_ BK233 1, bc_ BK233 2, bc_ BK233 3, bc_ BK233 4, bc_ BK233 5⟩ (fun hHeld => ?_)
       clear hK K
       refine n_ ?_
       refine p_ (i := 8) (N := some 23) mk8_9 ?_
       refine p_ (i := 9) (N := some 24) mk8_10 ?_
       refine p_ (i := 10) (N := some 25) mk8_11 ?_
       refine u_ (i := 11) (N := some 26) mk8_12 ?_
       refine u_ (i := 12) (N := some 27) mk8_13 ?_
       refine u_ (i := 13) (N := some 28) mk8_14 ?_
       refine u_ (i := 14) (N := some 29) mk8_15 ?_
       refine p_ (i := 15) (N := some 30) mk8_16 ?_
       refine p_ (i := 16) (N := some 31) mk8_17 ?_
       refine u_ (i := 17) (N := some 32) mk8_18 ?_
       refine u_ (i := 18) (N := some 33) mk8_19 ?_
       refine u_ (i := 19) (N := some 34) mk8_20 ?_
       refine u_ (i := 20) (N := some 35) mk8_21 ?_
       refine p_ (i := 21) (N := some 36) mk8_22 ?_
       refine p_ (i := 22) (N := some 37) mk8_23 ?_
       refine u_ (i := 23) (N := some 38) mk8_24 ?_
       refine u_ (i := 24) (N := some 39) mk8_25 ?_
       refine u_ (i := 25) (N := some 40) mk8_26 ?_
       refine u_ (i := 26) (N := some 41) mk8_27 ?_
       refine u_ (i := 27) (N := some 42) mk8_28 ?_
       refine u_ (i := 28) (N := some 43) mk8_29 ?_
       refine u_ (i := 29) (N := some 44) mk8_30 ?_
       refine u_ (i := 30) (N := some 45) mk8_31 ?_
       refine p_ (i := 31) (N := some 46) mk8_32 ?_
       refine p_ (i := 32) (N := some 47) mk8_33 ?_
       refine u_ (i := 33) (N := some 48) mk8_34 ?_
       refine u_ (i := 34) (N := some 49) mk8_35 ?_
       refine u_ (i := 35) (N := some 50) mk8_36 ?_
       refine u_ (i := 36) (N := some 51) mk8_37 ?_
       refine u_ (i := 37) (N := some 52) mk8_38 ?_
       refine u_ (i := 38) (N := some 53) mk8_39 ?_
       refine u_ (i := 39) (N := some 54) mk8_40 ?_
       refine u_ (i := 40) (N := some 55) mk8_41 ?_
       refine u_ (i := 41) (N := some 56) mk8_49 ?_
       refine u_ (i := 42) (N := some 57) mk8_43 ?_
       refine u_ (i := 43) (N := some 58) mk8_44 ?_
       refine u_ (i := 44) (N := some 59) mk8_45 ?_
       refine u_ (i := 45) (N := some 60) mk8_46 ?_
       refine u_ (i := 46) (N := some 61) mk8_47 ?_
       refine p_ (i := 47) (N := some 62) mk8_48 ?_
       refine done_ (done_of HT_.out z8_2) ?_
       try go_wp2
       go_ret
       exact ⟨z8_9, z8_0⟩
     ·
      replace c5 := Bool.eq_false_iff.mpr c5
      subst c5
      rw [if_neg (show ¬ (false = true) by decide)] at H
      obtain rfl := Option.some.inj H
      have p232 : 0 ≤ (x3_1 : Int) := of_decide_eq_true z8_8
      have q232 : x3_1 < (l0.length : Int) := of_decide_eq_true z8_8
      obtain ⟨ad232, e232, hx232_0, hx232_1, hx232_2, hx232_3, hx232_4, hx232_5⟩ := at_T86 HR0.out x3_1 p232 q232
      cases e232
      replace hx232_0 := cb_ HB hx232_0
      replace hx232_1 := cb_ HB hx232_1
      replace hx232_2 := cb_ HB hx232_2
      replace hx232_3 := cb_ HB hx232_3
      replace hx232_4 := cb_ HB hx232_4
      replace hx232_5 := cb_ HB hx232_5
      replace p232 := eq_true p232
      replace q232 := eq_true q232
      try go_wp2_with (first | ((with_reducible refine gate_dst (N := 4) rfl ?_); refine box_event ?hg (N := 4) ?hd (cs := #[.bool false, .string (⟨#[]⟩ : ByteArray), .string (⟨#[]⟩ : ByteArray), .int .i64 0, .int .i64 0, .int .i64 0]) (t := 86) ?hr ?_; (case hd => rfl); (case hg => rfl); (case hr => first | (go_simp; done) | (go_simp; rfl)); intro gb233 hg w81 hbox hb; have BK233 := Aside0.mk (hbox); have GW233 := gw_ w z8_4 hg; have GE233 := gw_ w z8_4 hg; replace HB := Aside0.mk (below_step z8_4 hb); clear hb hbox hg; obtain ⟨hcz82_0, hcz82_1, hcz82_2, hcz82_3, hcz82_4, hcz82_5, hfz82_0, hfz82_1, hfz82_2, hfz82_3, hfz82_4, hfz82_5⟩ := bc6 BK233.out))
      have n0_ : Aside0 (((((((w81.setCell ⟨gb233, 0, none⟩ (.bool ((rd_T86 l0 x3_1).f0))).setCell ⟨gb233, 1, none⟩ (.string ((rd_T86 l0 x3_1).f1))).setCell ⟨gb233, 2, none⟩ (.string ((rd_T86 l0 x3_1).f2))).setCell ⟨gb233, 3, none⟩ (.int .i64 ((rd_T86 l0 x3_1).f3))).setCell ⟨gb233, 4, none⟩ (.int .i64 ((rd_T86 l0 x3_1).f4.f0))).setCell ⟨gb233, 5, none⟩ (.int .i64 ((rd_T86 l0 x3_1).f4.f1))).heap[gb233]? = some (.cells #[.bool ((rd_T86 l0 x3_1).f0), .string ((rd_T86 l0 x3_1).f1), .string ((rd_T86 l0 x3_1).f2), .int .i64 ((rd_T86 l0 x3_1).f3), .int .i64 ((rd_T86 l0 x3_1).f4.f0), .int .i64 ((rd_T86 l0 x3_1).f4.f1)] 86 (0, 0))) := ⟨z8_1⟩
      have n1_ : Aside0 (Below w.heap.size w ((((((w81.setCell ⟨gb233, 0, none⟩ (.bool ((rd_T86 l0 x3_1).f0))).setCell ⟨gb233, 1, none⟩ (.string ((rd_T86 l0 x3_1).f1))).setCell ⟨gb233, 2, none⟩ (.string ((rd_T86 l0 x3_1).f2))).setCell ⟨gb233, 3, none⟩ (.int .i64 ((rd_T86 l0 x3_1).f3))).setCell ⟨gb233, 4, none⟩ (.int .i64 ((rd_T86 l0 x3_1).f4.f0))).setCell ⟨gb233, 5, none⟩ (.int .i64 ((rd_T86 l0 x3_1).f4.f1)))) := ⟨z8_0⟩
      (try clear BK233)
      (try clear HB)
      generalize ((((((w81.setCell ⟨gb233, 0, none⟩ (.bool ((rd_T86 l0 x3_1).f0))).setCell ⟨gb233, 1, none⟩ (.string ((rd_T86 l0 x3_1).f1))).setCell ⟨gb233, 2, none⟩ (.string ((rd_T86 l0 x3_1).f2))).setCell ⟨gb233, 3, none⟩ (.int .i64 ((rd_T86 l0 x3_1).f3))).setCell ⟨gb233, 4, none⟩ (.int .i64 ((rd_T86 l0 x3_1).f4.f0))).setCell ⟨gb233, 5, none⟩ (.int .i64 ((rd_T86 l0 x3_1).f4.f1))) = w83 at n0_ n1_ ⊢
      have BK233 := n0_
      have HB := n1_
      clear n0_ n1_
      replace BK233 := Aside0.mk (blk_drew BK233.out)
      replace HB := Aside0.mk (below_drew1 HB.out)
      refine start_ (n := 48) (S := fun w' => w'.cell? ⟨gb233, 0, none⟩ = some (.bool ((rd_T86 l0 x3_1).f0)) ∧ w'.cell? ⟨gb233, 1, none⟩ = some (.string ((rd_T86 l0 x3_1).f1)) ∧ w'.cell? ⟨gb233, 2, none⟩ = some (.string ((rd_T86 l0 x3_1).f2)) ∧ w'.cell? ⟨gb233, 3, none⟩ = some (.int .i64 ((rd_T86 l0 x3_1).f3)) ∧ w'.cell? ⟨gb233, 4, none⟩ = some (.int .i64 ((rd_T86 l0 x3_1).f4.f0)) ∧ w'.cell? ⟨gb233, 5, none⟩ = some (.int .i64 ((rd_T86 l0 x3_1).f4.f1))) (ds := []) mk8_0 z8_2 rfl rfl ⟨bc_ BK233 0, bc_ BK233 1, bc_ BK233 2, bc_ BK233 3, bc_ BK233 4, bc_ BK233 5⟩ (fun hHeld => ?_); refine with_tabW spec_l06Lives.tab5 spec_l06Lives.bits5 (fun HT_ HW_ => ?_)
      generalize w83.drew = w84 at BK233 HB hHeld ⊢
      refine p_ (i := 0) (N := some 15) mk8_1 ?_
      refine t_ (i := 1) (N := some 16) mk8_2 hHeld ?_ (hv := by rintro w' ⟨s0, s1, s2, s3, s4, s5⟩; go_simp; with_reducible rfl)
      refine o_ (i := 2) (N := some 17) mk8_3 (fun K hK => ?_)
      refine goes_ Try.func104 z8_2 rfl #[.agg #[.int .i64 ((rd_T86 l0 x3_1).f4.f0), .int .i64 ((rd_T86 l0 x3_1).f4.f1)]] (by rfl) rfl rfl z8_5 ?_
      with_reducible refine (spec_DotOk.calls ((rd_T86 l0 x3_1).f4.f0) ((rd_T86 l0 x3_1).f4.f1) false _ A4.out).mono ?_
      rintro e w85 ⟨rfl, hb⟩
      refine ⟨_, rfl, ?_⟩
      replace BK233 := Aside0.mk (blk_below (g := gb233) (o := .cells #[.bool ((rd_T86 l0 x3_1).f0), .string ((rd_T86 l0 x3_1).f1), .string ((rd_T86 l0 x3_1).f2), .int .i64 ((rd_T86 l0 x3_1).f3), .int .i64 ((rd_T86 l0 x3_1).f4.f0), .int .i64 ((rd_T86 l0 x3_1).f4.f1)] 86 (0, 0)) z8_7 hb)
      replace HB := Aside0.mk (below_step z8_0 hb)
      (try clear hb)
      (try clear hb2)
      (try clear hk)
      (try clear hi)
      refine hK.out _ _ ⟨bc_ BK233 0, bc_ BK233 1, bc_ BK233 2, bc_ BK233 3, bc_ BK233 4, bc_ BK233 5⟩ (fun hHeld => ?_)
      clear hK K
      refine n_ ?_
      refine p_ (i := 3) (N := some 18) mk8_4 ?_
      refine p_ (i := 4) (N := some 19) mk8_5 ?_
      refine u_ (i := 5) (N := some 20) mk8_6 ?_
      refine u_ (i := 6) (N := some 21) mk8_7 ?_
      refine u_ (i := 7) (N := some 22) mk8_8 ?_
      refine u_ (i := 8) (N := some 23) mk8_9 ?_
      refine p_ (i := 9) (N := some 24) mk8_10 ?_
      refine p_ (i := 10) (N := some 25) mk8_11 ?_
      refine u_ (i := 11) (N := some 26) mk8_12 ?_
      refine u_ (i := 12) (N := some 27) mk8_13 ?_
      refine u_ (i := 13) (N := some 28) mk8_14 ?_
      refine u_ (i := 14) (N := some 29) mk8_15 ?_
      refine p_ (i := 15) (N := some 30) mk8_16 ?_
      refine p_ (i := 16) (N := some 31) mk8_17 ?_
      refine u_ (i := 17) (N := some 32) mk8_18 ?_
      refine u_ (i := 18) (N := some 33) mk8_19 ?_
      refine u_ (i := 19) (N := some 34) mk8_20 ?_
      refine u_ (i := 20) (N := some 35) mk8_21 ?_
      refine p_ (i := 21) (N := some 36) mk8_22 ?_
      refine p_ (i := 22) (N := some 37) mk8_23 ?_
      refine u_ (i := 23) (N := some 38) mk8_24 ?_
      refine u_ (i := 24) (N := some 39) mk8_25 ?_
      refine u_ (i := 25) (N := some 40) mk8_26 ?_
      refine u_ (i := 26) (N := some 41) mk8_27 ?_
      refine u_ (i := 27) (N := some 42) mk8_28 ?_
      refine u_ (i := 28) (N := some 43) mk8_29 ?_
      refine u_ (i := 29) (N := some 44) mk8_30 ?_
      refine u_ (i := 30) (N := some 45) mk8_31 ?_
      refine p_ (i := 31) (N := some 46) mk8_32 ?_
      refine p_ (i := 32) (N := some 47) mk8_33 ?_
      refine u_ (i := 33) (N := some 48) mk8_34 ?_
      refine u_ (i := 34) (N := some 49) mk8_35 ?_
      refine u_ (i := 35) (N := some 50) mk8_36 ?_
      refine u_ (i := 36) (N := some 51) mk8_37 ?_
      refine u_ (i := 37) (N := some 52) mk8_38 ?_
      refine u_ (i := 38) (N := some 53) mk8_39 ?_
      refine u_ (i := 39) (N := some 54) mk8_40 ?_
      refine u_ (i := 40) (N := some 55) mk8_41 ?_
      refine u_ (i := 41) (N := some 56) mk8_49 ?_
      refine u_ (i := 42) (N := some 57) mk8_43 ?_
      refine u_ (i := 43) (N := some 58) mk8_44 ?_
      refine u_ (i := 44) (N := some 59) mk8_45 ?_
      refine u_ (i := 45) (N := some 60) mk8_46 ?_
      refine u_ (i := 46) (N := some 61) mk8_47 ?_
      refine p_ (i := 47) (N := some 62) mk8_48 ?_
      refine done_ (done_of HT_.out z8_2) ?_
      try go_wp2
      go_ret
      exact ⟨z8_9, z8_0⟩
    ·
     rw [if_neg c3] at H
     exact absurd H (by simp)
   ·
    rw [if_neg c2] at H
    have c2b0 : decide (x3_1 < (l0.length : Int)) = false := decide_eq_false c2
    clear c2
    obtain rfl := Option.some.inj H
    go_wp2
    go_ret
    exact ⟨z8_9, z8_4⟩
end Go.Proofs.Ytbanogkoaplcdaa.QSOk
